/-
 A calculus of sparse frames over Code.wpIn (in a function, or in a round of a range over a function): environments (slot, value), judgements At / RegN / RegQ, laws for each kind of operation. Proves nothing of any one program.
-/
import Derived.Calls
import Derived.Orders
import Derived.OrdersIn
import Derived.TacticsIn
import Derived.RangeFuncRecord
import Derived.Sort.LoopGhostIn
import Derived.Deep.Quiet
import Derived.Deep.LoopGhost
import Derived.KernelRfl
import Derived.Laws.Sem
import Derived.IntWalk
import Derived.Laws.Append
set_option linter.unusedVariables false
set_option linter.unusedSimpArgs false
namespace Go.Proofs.YtillhdiiglamhaaGreatDoor
open Go
theorem GH{p:Prop}(h:p:=by simp):p:=h
theorem GG{p:Prop}(h:p:=by decide):p:=h
theorem GF{p:Prop}(h:p:=by omega):p:=h
theorem GE{p:Prop}(h:p:=by kernel_rfl):p:=h
theorem Gx:type_of% @Int.tmod_eq_emod_of_nonneg:=@Int.tmod_eq_emod_of_nonneg
theorem Gs:type_of% @Array.ext_getElem?:=@Array.ext_getElem?
theorem Gr:type_of% @BitVec.toNat_ofInt:=@BitVec.toNat_ofInt
theorem Gq:type_of% @Nat.pow_le_pow_right:=@Nat.pow_le_pow_right
theorem Gl:type_of% @callsIn_wide:=@callsIn_wide
theorem Gk:type_of% @CallsIn.mono:=@CallsIn.mono
theorem Ga:type_of% @List.cons.injEq:=@List.cons.injEq
theorem F4:type_of% @Int.toNat_natCast:=@Int.toNat_natCast
theorem F3:type_of% @List.all_eq_true:=@List.all_eq_true
theorem FZ:type_of% @Act.put_comm:=@Act.put_comm
theorem FT:type_of% @List.mem_cons_self:=@List.mem_cons_self
theorem FQ:type_of% @Option.isSome_iff_exists:=@Option.isSome_iff_exists
theorem FN:type_of% @Option.some.inj:=@Option.some.inj
theorem FM:type_of% @Bool.false_and:=@Bool.false_and
theorem FH:type_of% @List.drop_drop:=@List.drop_drop
theorem FG:type_of% @Nat.min_eq_left:=@Nat.min_eq_left
theorem FF:type_of% @List.mem_cons_of_mem:=@List.mem_cons_of_mem
theorem Fu:type_of% @Int.emod_eq_of_lt:=@Int.emod_eq_of_lt
theorem Fj:type_of% @pure_bind:=@pure_bind
theorem Fh:type_of% @Nat.lt_of_lt_of_le:=@Nat.lt_of_lt_of_le
theorem Fe:type_of% @Nat.le_trans:=@Nat.le_trans
theorem Fc:type_of% @beq_iff_eq:=@beq_iff_eq
theorem EX:type_of% @Prod.mk.injEq:=@Prod.mk.injEq
theorem EV:type_of% @Bool.false_eq_true:=@Bool.false_eq_true
theorem EU:type_of% @Bool.or_eq_true:=@Bool.or_eq_true
theorem EQ:type_of% @Option.some.injEq:=@Option.some.injEq
theorem EO:type_of% @Sem.run_bind:=@Sem.run_bind
theorem EM:type_of% @if_false:=@if_false
theorem EF:type_of% @Bool.and_eq_true:=@Bool.and_eq_true
theorem EE:type_of% @if_true:=@if_true
theorem EC:type_of% @Nat.lt_or_ge:=@Nat.lt_or_ge
theorem Ex:type_of% @decide_eq_true_eq:=@decide_eq_true_eq
theorem Ew:type_of% @List.mem_cons:=@List.mem_cons
theorem Er:type_of% @Nat.le_refl:=@Nat.le_refl
theorem Ep:type_of% @Bool.not_false:=@Bool.not_false
theorem Eg:type_of% @congrArg:=@congrArg
theorem ka{c:Prop}{h:Decidable c}(k:c){α:Sort _}{t e:α}:ite c t e=t:=if_pos k
theorem kb{c:Prop}{h:Decidable c}(k:¬c){α:Sort _}{t e:α}:ite c t e=e:=if_neg k
variable{a:Value}{b:Addr}{d:TypeId}{g:Func}
abbrev vi(n:Int):Value:=.int .i64 n
abbrev vu(n:Int):Value:=.int .u64 n
abbrev vp(a:Option Addr):Value:=.pointer a
abbrev vs(b:Option Addr)(n c:Nat):Value:=.slice b n c
abbrev Vq(a:Addr):Value:=.pointer (some a)
abbrev VT:Value:=.bool true
abbrev VF:Value:=.bool false
abbrev VN:Value:=.slice none 0 0
theorem CU{c:Prop}[Decidable c]{A B G:Prop}(k:c->A->G)(l:¬c->B->G)(h:if c then A else B):G:=by
 by_cases q:c
 ·rw[ka q]at h;exact k q h
 rw[kb q]at h;exact l q h
theorem jn{c:Prop}{d:Decidable c}{A B G:Prop}(h:@ite _ c d A B)(k:c->A->G)(l:¬c->B->G):G:=CU k l h
theorem iP_{c:Prop}[Decidable c]{A B:Prop}(h:c->A)(k:¬c->B):if c then A else B:=by
 by_cases q:c
 ·rw[ka q];exact h q
 rw[kb q];exact k q
theorem iQ_{c:Prop}[Decidable c]{A B:Prop}(k:¬c->B)(h:c->A):if c then A else B:=iP_ h k
abbrev zV:=Array Obj
abbrev zW:=Option Addr
abbrev zY(n:Int):Int:=IntKind.wrap .i64 n
abbrev zk:=Value->Array Obj->Prop
abbrev zv:=Int->Array Obj->Prop
abbrev zw(i n:Int):Prop:=(0:Int)<=i/\i<n
theorem yZ{α:Type}{a:α}{l:List α}:a∈a::l:=List.Mem.head _
theorem yX{α:Type}{b a:α}{l:List α}:a∈b::a::l:=List.Mem.tail _ (List.Mem.head _)
theorem yQ{α:Type}{b d a:α}{l:List α}:a∈b::d::a::l:=List.Mem.tail _ (List.Mem.tail _ (List.Mem.head _))
theorem yJ{α:Type}{b d f a:α}{l:List α}:a∈b::d::f::a::l:=List.Mem.tail _ (List.Mem.tail _ (List.Mem.tail _ (List.Mem.head _)))
theorem yK{α:Type}{b d f g a:α}{l:List α}:a∈b::d::f::g::a::l:=List.Mem.tail _ (List.Mem.tail _ (List.Mem.tail _ (List.Mem.tail _ (List.Mem.head _))))
theorem yV{α:Type}{b d f g h a:α}{l:List α}:a∈b::d::f::g::h::a::l:=List.Mem.tail _ (List.Mem.tail _ (List.Mem.tail _ (List.Mem.tail _ (List.Mem.tail _ (List.Mem.head _)))))
variable {ds:List Deferred} {ro:Option Nat}
def BW(ro:Option Nat):Fence:={fn:=λ_=>True,depth:=none,alive:=false,round:=ro}
abbrev _root_.Go.Code.wpR(c:Code)(ro:Option Nat)(P:Program)(Q:Exit->Act->World->Prop):Act->World->Prop:=c.wpIn (BW ro) 0 P Q
abbrev Env:=List (Nat×Value)
def Env.get:Env->Nat->Option Value
 | [],_=>none
 | (k,v)::e,t=>bif Nat.beq k t then some v else Env.get e t
def jP(e:Env):Operand->Option Value
 | .tmp t=>e.get t
 | .const v=>some v
 | .global g=>some (vp (some ⟨g,0,none⟩))
 | .func f=>some (.func (.func f) #[] #[])
def CB(e:Env)(x:Operand):Value:=(jP e x).getD undef
def allIn(e:Env):List Operand->Bool
 | []=>true
 | x::l=>(jP e x).isSome && allIn e l
def mI(e:Env)(o:Oper):Bool:=(match o.op with | .select .. =>false | .defer _=>false | _=>true) && allIn e o.op.operands.toList
def lm(ops:Array Oper)(e:Env)(o:Oper):Option Bool:=
 match o.guard with
 | none=>some true
 | some (j,b)=>
  match(ops[j]?).bind (·.dst)with
  | none=>none
  | some t=>match e.get t with
   | some (.bool c)=>some (c==b)
   | some (.tuple _)=>some false
   | _=>none
def u3(n:Nat)(e:Env)(d:Option Nat)(v:Value):Option Env:=
 match d with
 | none=>some e
 | some d=>bif Nat.blt d n then some ((d,v)::e)else none
structure Agree (n:Nat) (ds:List Deferred) (e:Env) (a:Act):Prop where
 size:a.tmps.size=n
 defers:a.defers=ds
 vals: ∀t v,e.get t=some v->a.tmps[t]?=some v
structure Same (w w':World):Prop where
 os:w'.os=w.os
 tape:w'.tape=w.tape
 output:w'.output=w.output
 drawn:w.drawn<=w'.drawn
theorem Same.refl(w:World):Same w w:=⟨rfl,rfl,rfl,Er _⟩
theorem Fy:type_of% @Same.refl:=@Same.refl
theorem Same.trans{a b c:World}(h:Same a b)(k:Same b c):Same a c:=⟨k.os.trans h.os,k.tape.trans h.tape,k.output.trans h.output,Fe h.drawn k.drawn⟩
theorem Env.get_cons(k:Nat)(v:Value)(e:Env)(t:Nat):Env.get ((k,v)::e) t=if k=t then some v else e.get t:=by
 simp only[Env.get];by_cases h:k=t
 ·subst h;simp
 ·have:Nat.beq k t=false:=by rw[<-Bool.not_eq_true,Nat.beq_eq];exact h
  simp[this,h]
theorem Agree.eval{n:Nat}{e:Env}{i:Act}(h:Agree n ds e i){x:Operand}(b:jP e x=some a):i.eval x=a:=by
 cases x with
 | tmp t=>
  have:=h.vals t a b;simp[Act.eval,Array.getD_eq_getD_getElem?,this]
 | const d=>simpa[jP,Act.eval]using b
 | global g=>simpa[jP,Act.eval]using b
 | func f=>simpa[jP,Act.eval]using b
theorem oG{e:Env}: ∀{l:List Operand},allIn e l=true-> ∀x∈l,(jP e x).isSome=true
 | [],_,x,hx=>by cases hx
 | y::l,h,x,hx=>by
  simp only[allIn,EF]at h
  cases hx with
  | head=>exact h.1
  | tail _ hm=>exact oG h.2 x hm
theorem Agree.exec{n:Nat}{e:Env}{a:Act}(h:Agree n ds e a){o:Oper}(d:mI e o=true):execOp a.eval o=execOp (CB e) o:=by
 simp only[mI,EF]at d;refine execOp_congr o (λk b i=>by rw[i]at d;simp at d) λx j=>?_;have g:=oG d.2 x (by simpa using j);obtain⟨v,f⟩:=FQ.1 g;rw[h.eval f];simp[CB,f]
theorem Agree.sem{n:Nat}{e:Env}{a:Act}(h:Agree n ds e a){o:Oper}(b:mI e o=true):o.semAt (BW ro).round a.eval=execOp (CB e) o:=by
 rw[show(BW ro).round=ro from rfl,Oper.semAt_eq ro _ o (λc d=>by simp[mI,d]at b),h.exec b]
theorem Agree.wanted{n:Nat}{e:Env}{a:Act}(h:Agree n ds e a){ops:Array Oper}{o:Oper}{b:Bool}(d:lm ops e o=some b):Region.wanted o (yielded ops a.tmps)=b:=by
 unfold lm at d;unfold Region.wanted
 cases i:o.guard with
 | none=>simp[i]at d;simp[d]
 | some p=>
  obtain⟨j,c⟩:=p;simp only[i]at d;unfold yielded
  cases f:(ops[j]?).bind (·.dst)with
  | none=>simp[f]at d
  | some t=>
   simp only[f]at d
   cases g:e.get t with
   | none=>simp[g]at d
   | some v=>
    have:=h.vals t v g;simp only[g]at d;simp only[];rw[f,Option.bind_some,this];cases v<;>simp at d<;>simp[<-d]
theorem Agree.put{n:Nat}{e:Env}{a:Act}(h:Agree n ds e a){d:Option Nat}{v:Value}{e':Env}(f:u3 n e d v=some e'):Agree n ds e' (a.put d v):=by
 cases d with
 | none=>simp[u3]at f;subst f;exact h
 | some d=>
  simp only[u3]at f;by_cases i:Nat.blt d n=true
  ·simp only[i,cond_true,EQ]at f;subst f;have j:d<n:=by simpa[Nat.blt_eq]using i
   refine⟨by simp[Act.put,h.size],h.defers,λt u g=>?_⟩;rw[Env.get_cons]at g;by_cases b:d=t
   ·subst b;simp only[EE,EQ]at g;subst g;have:d<a.tmps.size:=by rw[h.size];exact j
    simp[Act.put,this]
   ·rw[kb b]at g;have:=h.vals t u g;simp only[Act.put];rw[Array.getElem?_setIfInBounds_ne b];exact this
  ·simp[i]at f
def Sub(e' e:Env):Prop:=e'.map (λp=>e.get p.1)=e'.map (λp=>some p.2)
theorem Env.get_mem{e:Env}{t:Nat}(h:e.get t=some a):(t,a)∈e:=by
 induction e with
 | nil=>cases h
 | cons p e b=>
  obtain⟨k,u⟩:=p;rw[Env.get_cons]at h;by_cases hk:k=t
  ·subst hk;simp only[EE,EQ]at h;subst h;exact FT ..
  ·rw[kb hk]at h;exact FF _ (b h)
theorem Sub.get{e' e:Env}(h:Sub e' e){t:Nat}(b:e'.get t=some a):e.get t=some a:=by
 have hm:=Env.get_mem b;clear b;unfold Sub at h
 induction e' with
 | nil=>cases hm
 | cons p e' d=>
  simp only[List.map_cons,Ga]at h
  cases hm with
  | head=>exact h.1
  | tail _ hm=>exact d h.2 hm
theorem Agree.sub{n:Nat}{e e':Env}{a:Act}(h:Agree n ds e a)(b:Sub e' e):Agree n ds e' a:=
 ⟨h.size,h.defers,λt v d=>h.vals t v (b.get d)⟩
def fM(n:Nat)(e:Env)(d:Option Nat)(v:Value)(e':Env):Prop:=(u3 n e d v).map (λe1=>e'.map (λp=>e1.get p.1))=some (e'.map (λp=>some p.2))
theorem fM.get{n:Nat}{e:Env}{d:Option Nat}{e':Env}(h:fM n e d a e'): ∃b,u3 n e d a=some b/\Sub e' b:=by
 unfold fM at h
 cases f:u3 n e d a with
 | none=>rw[f]at h;cases h
 | some b=>rw[f]at h;simp only[Option.map_some,EQ]at h;exact⟨b,rfl,h⟩
theorem Agree.putSub{n:Nat}{e:Env}{j:Act}(h:Agree n ds e j){d:Option Nat}{e':Env}(g:fM n e d a e'):Agree n ds e' (j.put d a):=by
 obtain⟨i,b,f⟩:=g.get;exact(h.put b).sub f
def At(n:Nat)(ds:List Deferred)(w0:World)(e:Env)(H:Array Obj)(K:Act->World->Prop):Prop:=
 ∀a w,Agree n ds e a->w.heap=H->Same w0 w->K a w
def HC(P:Program)(f:FuncId)(args:Array Value)(H:Array Obj)(R:Value->Array Obj->Prop):Prop:=
 ∀w,w.heap=H->Calls P f args w (λe w'=> ∃v,e=.returned v/\Same w w'/\R v w'.heap)
theorem HC.mono{P:Program}{f:FuncId}{args:Array Value}{H:Array Obj}{R a:Value->Array Obj->Prop}(h:HC P f args H R)(g: ∀v H',R v H'->a v H'):HC P f args H a:=
 λw j=>(h w j).mono λ_ _ ⟨v,d,i,b⟩=>⟨v,d,i,g _ _ b⟩
theorem gc:type_of% @HC.mono:=@HC.mono
def SS(P:Program)(S:Sem Next)(H:Array Obj)(R:Value->Array Obj->Prop):Prop:=
 ∀w,w.heap=H-> ∃v w',S.run P w=.ok (.value v) w'/\Same w w'/\R v w'.heap
section rules
variable {P:Program} {n:Nat} {w0:World} {e e':Env} {H H':Array Obj} {Q:Exit->Act->World->Prop} {K:Act->World->Prop} {c x y:Code}
theorem xR(e':Env)(f:Sub e' e)(h:At n ds w0 e' H K):At n ds w0 e H K:=λa w d g b=>h a w (d.sub f) g b
theorem xS(x y:Code)(d:c=.seq x y)(h:At n ds w0 e H (x.wpR ro P (Exit.then (y.wpR ro P Q) Q))):At n ds w0 e H (c.wpR ro P Q):=
 λa w b g f=>by rw[d];exact wpIn_seq (h a w b g f)
theorem aE(h:At n ds w0 e H K):At n ds w0 e H (Exit.then K Q .normal):=h
theorem xU(d:c=.skip)(h:At n ds w0 e H (Q .normal)):At n ds w0 e H (c.wpR ro P Q):=
 λa w b g f=>by rw[d];exact wpIn_skip (h a w b g f)
theorem wh(id:Nat)(x:Code)(d:c=.block id x)(h:At n ds w0 e H (x.wpR ro P (Exit.inBlock id Q))):At n ds w0 e H (c.wpR ro P Q):=
 λa w b g f=>by rw[d];exact wpIn_block (h a w b g f)
theorem aD{id:Nat}(h:At n ds w0 e H (Q .normal)):At n ds w0 e H (Exit.inBlock id Q .normal):=h
theorem Al(id:Nat)(d:c=.exit id)(h:At n ds w0 e H (Q (.exit id))):At n ds w0 e H (c.wpR ro P Q):=
 λa w b g f=>by rw[d];exact wpIn_exit (h a w b g f)
theorem zj(id:Nat)(h:At n ds w0 e H (Q (.exit id)))(a:c=.exit id:=by kernel_rfl):At n ds w0 e H (c.wpR ro P Q):=Al id a h
theorem aA{id:Nat}(h:At n ds w0 e H (Q (.exit id))):At n ds w0 e H (Exit.then K Q (.exit id)):=h
theorem aJ{id:Nat}(h:At n ds w0 e H (Q .normal)):At n ds w0 e H (Exit.inBlock id Q (.exit id)):=λa w b f d=>by
 simp only[Exit.inBlock,EE];exact h a w b f d
theorem uW{id b:Nat}(d:Nat.beq b id=false)(h:At n ds w0 e H (Q (.exit b))):At n ds w0 e H (Exit.inBlock id Q (.exit b)):=λa w f i g=>by
 have:b≠id:=λh=>by rw[h,Nat.beq_refl]at d;cases d
 simp only[Exit.inBlock,this,EM];exact h a w f i g
theorem zz{id a:Nat}(h:At n ds w0 e H (Q (.exit a)))(b:Nat.beq a id=false:=by kernel_rfl):At n ds w0 e H (Exit.inBlock id Q (.exit a)):=uW b h
theorem xV(d:c=.ret)(h:At n ds w0 e H (Q .ret)):At n ds w0 e H (c.wpR ro P Q):=
 λa w b g f=>by rw[d];exact wpIn_ret (h a w b g f)
theorem zx(h:At n ds w0 e H (Q .ret))(a:c=.ret:=by kernel_rfl):At n ds w0 e H (c.wpR ro P Q):=xV a h
theorem nd(o:Operand)(x y:Code)(d:c=.cond o x y)(g:jP e o=some VT)(h:At n ds w0 e H (x.wpR ro P Q)):At n ds w0 e H (c.wpR ro P Q):=
 λa w b i f=>by rw[d];exact wpIn_cond_true (b.eval g) (h a w b i f)
theorem ma(o:Operand)(x y:Code)(d:c=.cond o x y)(g:jP e o=some VF)(h:At n ds w0 e H (y.wpR ro P Q)):At n ds w0 e H (c.wpR ro P Q):=
 λa w b i f=>by rw[d];exact wpIn_cond_false (b.eval g) (h a w b i f)
def ms(ro:Option Nat)(P:Program)(n:Nat)(ds:List Deferred)(w0:World)(ops:Array Oper)(i:Nat)(e:Env)(H:Array Obj)(Q:Exit->Act->World->Prop):Prop:=
 ∀a w,Agree n ds e a->w.heap=H->Same w0 w->wpListIn (BW ro) 0 P ops Q (ops.toList.drop i) a w
theorem pX(id:Nat)(ops:Array Oper)(d:c=.region id ops false)(h:ms ro P n ds w0 ops 0 e H Q):At n ds w0 e H (c.wpR ro P Q):=
 λa w b g f=>by rw[d];exact wpIn_region_list (by simpa using h a w b g f)
theorem wi{ops:Array Oper}{i:Nat}(d:ops.toList.drop i=[])(h:At n ds w0 e H (Q .normal)):ms ro P n ds w0 ops i e H Q:=
 λa w b g f=>by rw[d];exact wpListIn_nil (h a w b g f)
theorem zq{ops:Array Oper}{i:Nat}(h:At n ds w0 e H (Q .normal))(a:ops.toList.drop i=[]:=by kernel_rfl):ms ro P n ds w0 ops i e H Q:=wi a h
def wj(P:Program)(n:Nat)(ops:Array Oper)(o:Oper)(e:Env)(w:World):Option (Env×World):=
 match lm ops e o with
 | some true=>
  bif mI e o then
   match(execOp (CB e) o).run P w with
   | .ok (.value v) w'=>(u3 n e o.dst v).map (·,w')
   | .ok .skip w'=>(u3 n e o.dst undef).map (·,w')
   | _=>none
  else none
 | some false=>(u3 n e o.dst undef).map (·,w)
 | none=>none
def BX(P:Program)(n:Nat)(ops:Array Oper):List Oper->Env->World->Option (Env×World)
 | [],e,w=>some (e,w)
 | o::l,e,w=>match wj P n ops o e w with
  | some (e',w')=>BX P n ops l e' w'
  | none=>none
def Da(e':Env)(r:Option (Env×World)):Option (List (Option Value)×World):=r.map λx=>(e'.map (λp=>x.1.get p.1),x.2)
def keep(e':Env)(w:World):Option (List (Option Value)×World):=some (e'.map (λp=>some p.2),w)
theorem tP{ops:Array Oper}{o:Oper}{w p:World}{a:Act}{g:List Oper}(d:wj P n ops o e w=some (e',p))(j:Agree n ds e a)
  (h: ∀l,Agree n ds e' l->wpListIn (BW ro) 0 P ops Q g l p):wpListIn (BW ro) 0 P ops Q (o::g) a w:=by
 unfold wj at d;unfold wpListIn
 cases k:lm ops e o with
 | none=>simp[k]at d
 | some b=>
  simp only[k]at d;rw[j.wanted k]
  cases b with
  | false=>
   simp only[Option.map_eq_some_iff,EX]at d;obtain⟨m,f,rfl,rfl⟩:=d;rw[kb Bool.false_ne_true];exact⟨λ_ _=>trivial,h _ (j.put f)⟩
  | true=>
   simp only[EE];by_cases i:mI e o=true
   ·simp only[i,cond_true]at d;refine⟨λ_ _=>trivial,?_⟩;rw[j.sem i];generalize (execOp (CB e) o).run P w=r at d⊢
    cases r with
    | halt _ _=>simp at d
    | ok q s=>
     cases q<;>simp only[reduceCtorEq,Option.map_eq_some_iff,EX]at d
     case value v=>
      obtain⟨m,f,rfl,rfl⟩:=d;exact h _ (j.put f)
     case skip=>
      obtain⟨m,f,rfl,rfl⟩:=d;exact h _ (j.put f)
   ·simp[i]at d
theorem pY{ops:Array Oper}: ∀(l:List Oper) {rest:List Oper} {e e':Env} {w b:World} {a:Act},BX P n ops l e w=some (e',b)->Agree n ds e a->
  (∀d,Agree n ds e' d->wpListIn (BW ro) 0 P ops Q rest d b)->wpListIn (BW ro) 0 P ops Q (l++rest) a w
 | [],rest,e,e',w,b,a,hr,ha,h=>by simp[BX]at hr;obtain⟨rfl,rfl⟩:=hr;exact h _ ha
 | o::l,rest,e,e',w,b,a,hr,ha,h=>by
  simp only[BX]at hr
  cases g:wj P n ops o e w with
  | none=>simp[g]at hr
  | some r=>
   obtain⟨i,j⟩:=r;simp only[g]at hr;exact tP g ha λd f=>pY l hr f h
theorem wk{ops:Array Oper}{i:Nat}(k:Nat)(e':Env)(o: ∀w,Da e' (BX P n ops ((ops.toList.drop i).take k) e w)=keep e' w)
  (h:ms ro P n ds w0 ops (i+k) e' H Q):ms ro P n ds w0 ops i e H Q:=λa w m q p=>by
 have b:=o w
 cases g:BX P n ops ((ops.toList.drop i).take k) e w with
 | none=>rw[g]at b;simp[Da,keep]at b
 | some r=>
  obtain⟨t,s⟩:=r;rw[g]at b;simp only[Da,keep,Option.map_some,EQ,EX]at b;obtain⟨d,rfl⟩:=b;have j:=pY (Q:=Q) (rest:=ops.toList.drop (i+k)) _ g m λl f=>h l s (f.sub d) q p;rw[show ops.toList.drop (i+k)=(ops.toList.drop i).drop k by rw[FH],List.take_append_drop]at j;exact j
def dU(P:Program)(ops:Array Oper)(i:Nat)(e:Env)(w:World):Option (Option Tmp×Result Next):=
 match ops.toList.drop i with
 | []=>none
 | o::_=>
  match lm ops e o with
  | some true=>bif mI e o then some (o.dst,(execOp (CB e) o).run P w)else none
  | _=>none
theorem iY{ops:Array Oper}{i:Nat}{w:World}{d:Option Tmp}{r:Result Next}(h:dU P ops i e w=some (d,r)):
  ∃o,ops.toList.drop i=o::ops.toList.drop (i+1)/\lm ops e o=some true/\mI e o=true/\o.dst=d/\(execOp (CB e) o).run P w=r:=by
 unfold dU at h
 cases g:ops.toList.drop i with
 | nil=>simp[g]at h
 | cons o l=>
  simp only[g]at h
  cases f:lm ops e o with
  | none=>simp[f]at h
  | some b=>
   cases b with
   | false=>simp[f]at h
   | true=>
    simp only[f]at h;by_cases a:mI e o=true
    ·simp only[a,cond_true,EQ,EX]at h;refine⟨o,?_,f,a,h.1,h.2⟩;have:ops.toList.drop (i+1)=l:=by rw[<-FH,g];rfl
     rw[this]
    ·simp[a]at h
theorem xl{ops:Array Oper}{i:Nat}(d:Option Tmp)(S:Sem Next)(R:Value->Array Obj->Prop)(z: ∀w,dU P ops i e w=some (d,S.run P w))(q:SS P S H R)
  (h: ∀v H',R v H'-> ∃e',fM n e d v e'/\ms ro P n ds w0 ops (i+1) e' H' Q):ms ro P n ds w0 ops i e H Q:=λa w k u s=>by
 obtain⟨o,r,f,m,g,j⟩:=iY (z w);rw[r];unfold wpListIn;rw[k.wanted f];simp only[EE];refine⟨λ_ _=>trivial,?_⟩;rw[k.sem m,j];obtain⟨v,A,t,b,p⟩:=q w u;rw[t];obtain⟨e',l,hk⟩:=h v _ p;simp only[Oper.uponIn];rw[g];exact hk _ _ (k.putSub l) rfl (s.trans b)
theorem pZ{ops:Array Oper}{i:Nat}(d:Option Tmp)(S:Sem Next)(R:Array Obj->Prop)(z: ∀w,dU P ops i e w=some (d,S.run P w))
  (r: ∀w,w.heap=H-> ∃k,S.run P w=.ok .skip k/\Same w k/\R k.heap)
  (h: ∀H',R H'-> ∃e',fM n e d undef e'/\ms ro P n ds w0 ops (i+1) e' H' Q):ms ro P n ds w0 ops i e H Q:=λa w l v t=>by
 obtain⟨o,s,f,p,g,j⟩:=iY (z w);rw[s];unfold wpListIn;rw[l.wanted f];simp only[EE];refine⟨λ_ _=>trivial,?_⟩;rw[l.sem p,j];obtain⟨k,u,b,q⟩:=r w v;rw[u];obtain⟨e',m,hk⟩:=h _ q;simp only[Oper.uponIn];rw[g];exact hk _ _ (l.putSub m) rfl (t.trans b)
theorem Am{ops:Array Oper}{i:Nat}(d:Option Tmp)(f:FuncId)(args:Array Value)(B: ∀w,dU P ops i e w=some (d,.ok (.enter f args) w)){R:Value->Array Obj->Prop}(r:HC P f args H R)
  (h: ∀v H',R v H'-> ∃e',fM n e d v e'/\ms ro P n ds w0 ops (i+1) e' H' Q):ms ro P n ds w0 ops i e H Q:=λa w l A z=>by
 obtain⟨o,s,g,p,j,k⟩:=iY (B w);rw[s];unfold wpListIn;rw[l.wanted g];simp only[EE];refine⟨λ_ _=>trivial,?_⟩;rw[l.sem p,k];simp only[Oper.uponIn];refine⟨λu=>(by cases u),Gk (show CallsIn (BW ro) _ P f args w _ from Gl.2 (r w A)) λC D ⟨v,t,b,q⟩=>?_⟩;subst t;obtain⟨e',m,hk⟩:=h v _ q;simp only[];rw[j];exact hk _ _ (l.putSub m) rfl (z.trans b)
def DF(w0:World)(H:Array Obj)(w:World):Prop:=w.heap=H/\Same w0 w
def Bl(P:Program)(n:Nat)(ds:List Deferred)(w0:World)(ops:Array Oper)(i:Nat)(e:Env)(H:Array Obj)(Q:Exit->Act->World->Prop):Prop:=
 ∀a,Agree n ds e a->wpQuiet P ops (DF w0 H) (λa'=> ∀w',DF w0 H w'->Q .normal a' w') (ops.toList.drop i) a
theorem rJ(id:Nat)(ops:Array Oper)(g:c=.region id ops true)(hm:P.follows .mixedOrders=true)(d:Region.lexB .any ops=true)(h:Bl P n ds w0 ops 0 e H Q):At n ds w0 e H (c.wpR none P Q):=
 λa w f i b=>by
  rw[g];exact wpIn_wide.2 (wp_region_quiet (C:=DF w0 H) hm d ⟨i,⟨b.os,b.tape,b.output,Nat.le_succ_of_le b.drawn⟩⟩ (by simpa using h a f))
theorem AH{ops:Array Oper}{i:Nat}(f:ops.toList.drop i=[])(h:At n ds w0 e H (Q .normal)):Bl P n ds w0 ops i e H Q:=
 λa d=>by rw[f];exact wpQuiet_nil λg b=>h a g d b.1 b.2
def qa(P:Program)(ops:Array Oper)(o:Oper)(e:Env)(w:World):Option (Value×World):=
 match lm ops e o with
 | some true=>
  bif mI e o then
   match(execOp (CB e) o).run P w with
   | .ok (.value v) w'=>some (v,w')
   | .ok .skip w'=>some (undef,w')
   | _=>none
  else none
 | some false=>some (undef,w)
 | none=>none
theorem Ag{ops:Array Oper}{i:Nat}(v:Value)(e':Env)(d:Option Tmp)(j:(ops.toList.drop i).head?.map (·.dst)=some d)
  (k: ∀w,((ops.toList.drop i).head?.bind λo=>qa P ops o e w)=some (v,w)) (t:fM n e d v e')
  (h:Bl P n ds w0 ops (i+1) e' H Q):Bl P n ds w0 ops i e H Q:=λa p=>by
 cases q:ops.toList.drop i with
 | nil=>rw[q]at j;simp at j
 | cons o l=>
  rw[q]at j k;simp only[List.head?_cons,Option.map_some,EQ,Option.bind_some]at j k;subst j;have s:ops.toList.drop (i+1)=l:=by rw[<-FH,q];rfl
  have hk:=h _ (p.putSub t);rw[s]at hk;unfold wpQuiet
  cases m:lm ops e o with
  | none=>have:=k default;simp[qa,m]at this
  | some b=>
   rw[p.wanted m]
   cases b with
   | false=>
    have:=k default;simp only[qa,m,EQ,EX,and_true]at this;subst this;simpa using hk
   | true=>
    simp only[EE];refine⟨v,λw _=>?_,hk⟩;have f:=k w;simp only[qa,m]at f;by_cases g:mI e o=true
    ·simp only[g,cond_true]at f;unfold Oper.quietAt;rw[p.exec g];generalize (execOp (CB e) o).run P w=r at f⊢
     cases r with
     | halt _ _=>simp at f
     | ok z A=>
      cases z<;>simp only[reduceCtorEq,EQ,EX]at f
      case value u=>exact⟨f.2,f.1⟩
      case skip=>exact⟨f.2,f.1.symm⟩
    ·simp[g]at f
theorem Bc{ops:Array Oper}{i:Nat}(d:Option Tmp)(S:Sem Next)(v:Value)(p: ∀w,dU P ops i e w=some (d,S.run P w))(q: ∀w,w.heap=H->S.run P w=.ok (.value v) w)
  (e':Env) (r:fM n e d v e') (h:Bl P n ds w0 ops (i+1) e' H Q):Bl P n ds w0 ops i e H Q:=λa k=>by
 obtain⟨o,m,b,l,g,_⟩:=iY (p default);rw[m];unfold wpQuiet;rw[k.wanted b];simp only[EE];subst g;refine⟨v,λw s=>?_,h _ (k.putSub r)⟩;obtain⟨t,f,_,_,_,j⟩:=iY (p w);rw[m]at f;obtain⟨rfl,_⟩:=List.cons.inj f;unfold Oper.quietAt;rw[k.exec l,j,q w s.1];exact⟨rfl,rfl⟩
theorem iQ{ops:Array Oper}{i:Nat}(e':Env)(d:Sub e' e)(h:Bl P n ds w0 ops i e' H Q):Bl P n ds w0 ops i e H Q:=λa b=>h a (b.sub d)
theorem xW{ops:Array Oper}{i:Nat}(e':Env)(d:Sub e' e)(h:ms ro P n ds w0 ops i e' H Q):ms ro P n ds w0 ops i e H Q:=λa w b=>h a w (b.sub d)
theorem bI{σ:Type}(b:σ->Env)(I:σ->Array Obj->Prop)(μ:σ->Array Obj->Nat)(g:σ)(B:c=.loop x)(z:I g H)(C:Sub (b g) e)
  (round: ∀s H',I s H'->At n ds w0 (b s) H' (x.wpR ro P (Exit.then (λa w=> ∃f,Agree n ds (b f) a/\Same w0 w/\I f w.heap/\μ f w.heap<μ s H') Q))):
  At n ds w0 e H (c.wpR ro P Q):=λa w A r D=>by
 rw[B];refine wpIn_loop_ghost (λk a w=> ∃s,Agree n ds (b s) a/\Same w0 w/\I s w.heap/\μ s w.heap=k) (μ g H) ⟨g,A.sub C,D,r▸z,by rw[r]⟩ ?_;rintro k u t ⟨s,j,p,h,rfl⟩;refine wpIn_mono (round s t.heap h u t j rfl p) ?_;intro v E G d
 cases v with
 | normal=>
  obtain⟨f,m,q,i,o⟩:=d;exact⟨_,o,f,m,q,i,rfl⟩
 | exit id=>exact d
 | goto l=>exact d
 | ret=>exact d
 | panic F=>exact d
 | outgrown=>exact d
theorem aQ{σ:Type}{d:σ->Env}{I:σ->Array Obj->Prop}{μ:σ->Array Obj->Nat}{s:σ}{f:Array Obj}(b:σ)(j:Sub (d b) e)(g:I b H/\μ b H<μ s f):
  At n ds w0 e H (λa w=> ∃b,Agree n ds (d b) a/\Same w0 w/\I b w.heap/\μ b w.heap<μ s f):=
 λa w i h k=>⟨b,i.sub j,k,by rw[h];exact g.1,by rw[h];exact g.2⟩
end rules
def CE:Nat->List Value->Env
 | _,[]=> []
 | i,v::l=>(i,v)::CE (i+1) l
theorem qb: ∀(l:List Value) (i t:Nat) (v:Value),(CE i l).get t=some v->i<=t/\l[t-i]?=some v
 | [],_,_,_,h=>by cases h
 | u::l,i,t,v,h=>by
  simp only[CE]at h;rw[Env.get_cons]at h;by_cases a:i=t
  ·subst a;simp only[EE,EQ]at h;subst h;simp
  ·rw[kb a]at h;obtain⟨g,b⟩:=qb l (i+1) t v h;refine⟨GF,?_⟩;obtain⟨j,rfl⟩: ∃j,t=i+1+j:=⟨t-(i+1),GF⟩;have d:i+1+j-(i+1)=j:=GF;have f:i+1+j-i=j+1:=GF;rw[d]at b;rw[f];simpa using b
def kn(P:Program)(fn:Func)(w0:World)(R:Value->Array Obj->Prop)(a:Act)(w:World):Prop:=
 LeavesInM Fence.wide 0 P fn a.tmps (λe w'=> ∃v,e=.returned v/\Same w0 w'/\R v w'.heap) a.defers .returning w
theorem zf{P:Program}{f:FuncId}{c:Code}{args:Array Value}{H:Array Obj}{R:Value->Array Obj->Prop}(n:Nat)(j:P.funcs[f]?=some g)(i:g.body=some c)(hn:g.ntmps=n)(k:args.size<=n)
  (h: ∀(w0:World) (Q:Exit->Act->World->Prop),
   (∀a w,kn P g w0 R a w->Q .ret a w/\Q .normal a w)->At n [] w0 (CE 0 args.toList) H (c.wpR none P Q)):HC P f args H R:=λw m=>by
 refine Gl.1 (callsIn_of_wp_marks j i trivial (n:=0) ?_);refine h w (bodyPostM Fence.wide 0 P g _) (λa o d=>⟨d,d⟩) _ _ ?_ m (Fy w);refine⟨?_,rfl,λt v l=>?_⟩
 ·simp only[Array.size_append,Array.size_replicate];omega
 ·obtain⟨_,b⟩:=qb _ _ _ _ l;simp only[Nat.sub_zero,Array.getElem?_toList]at b;show(args++Array.replicate (g.ntmps-args.size) undef)[t]?=some v
  have:t<args.size:=by
   rcases EC t args.size with h | h
   ·exact h
   ·simp[Array.getElem?_eq_none h]at b
  rw[Array.getElem?_append_left this];exact b
variable {ds:List Deferred} {ro:Option Nat}
def hat(H:Array Obj)(a:Addr):Option Value:=
 match H[a.block]? with
 | some (.cells c _ _)=>if a.spot.isSome then none else c[a.off]?
 | _=>none
def Dh(H:Array Obj)(a:Addr):Bool:=
 match H[a.block]? with
 | some (.cells _ _ (lo,hi))=>lo<=a.off && a.off<hi
 | _=>false
def Bq(H:Array Obj)(a:Addr)(v:Value):Array Obj:=
 H.modify a.block λ
  | .cells c elem frozen=> .cells (if a.spot.isSome then c else c.setIfInBounds a.off v) elem frozen
  | o=>o
theorem lS(w:World)(a:Addr):w.cell? a=hat w.heap a:=rfl
theorem uX(w:World)(a:Addr):w.frozen? a=Dh w.heap a:=rfl
theorem nV(w:World)(a:Addr)(v:Value):(w.setCell a v).heap=Bq w.heap a v:=rfl
theorem sZ(w:World)(a:Addr)(v:Value):Same w (w.setCell a v):=⟨rfl,rfl,rfl,Er _⟩
def oH(H:Array Obj)(a:Addr):Prop:=(hat H a).isSome=true/\Dh H a=false
def aL(H:Array Obj)(a:Addr):List Value->Nat->Array Obj
 | [],_=>H
 | v::vs,i=>aL (Bq H (a.add i) v) a vs (i+1)
theorem pH(H:Array Obj)(a b:Addr)(v:Value)(h:(hat H b).isSome=true):(hat (Bq H a v) b).isSome=true:=by
 unfold hat Bq at*;rw[Array.getElem?_modify];by_cases d:a.block=b.block
 ·rw[ka d]
  cases g:H[b.block]? with
  | none=>simp[g]at h
  | some o=>
   simp only[g]at h;simp only[Option.map_some]
   cases o with
   | cells c i j=>
    by_cases f:b.spot.isSome=true
    ·simp[f]at h
    ·simp only[f,EV,EM]at h⊢;split<;>simpa using h
   | _=>exact h
 ·rw[kb d];exact h
theorem xX(H:Array Obj)(a b:Addr)(v:Value):Dh (Bq H a v) b=Dh H b:=by
 unfold Dh Bq;rw[Array.getElem?_modify];by_cases d:a.block=b.block
 ·rw[ka d]
  cases f:H[b.block]? with
  | none=>simp
  | some o=>cases o<;>simp
 ·rw[kb d]
theorem oH.put{H:Array Obj}(h:oH H b)(a:Addr)(v:Value):oH (Bq H a v) b:=⟨pH H a b v h.1,by rw[xX];exact h.2⟩
@[simp] theorem Ej (b o n:Nat):Addr.add ⟨b,o,none⟩ n=⟨b,o+n,none⟩:=by
 unfold Addr.add;split<;>simp_all
def ta(P:Program)(H:Array Obj)(t:TypeId)(a:Addr)(v:Value):Prop:= ∀w,w.heap=H->(loadVar t a).run P w=.ok v w
theorem Ek{α β:Type}{P:Program}{s:Sem α}{k:α->Sem β}{w w':World}{x:α}(h:s.run P w=.ok x w'):(s>>=k).run P w=(k x).run P w':=by
 rw[EO,h];rfl
theorem tQ{P:Program}{w:World}{v:Value}(h:w.cell? b=some v):(load b).run P w=.ok v w:=by
 show Sem.run P (Sem.load .plain b Sem.pure) w=_;simp only[Sem.run,h]
theorem io{P:Program}{H:Array Obj}(f: ∀w,(isAgg d).run P w=.ok false w)(h:hat H b=some a):ta P H d b a:=λw g=>by
 unfold loadVar;rw[Ek (f w)];simp only[EV,EM];exact tQ (by rw[lS,g];exact h)
def aI(H:Array Obj)(a:Addr):Nat->List Value->Prop
 | _,[]=>True
 | i,v::vs=>hat H (a.add i)=some v/\aI H a (i+1) vs
theorem kM{P:Program}{w:World}{a:Addr}: ∀(vs:List Value) (i:Nat) (b:Array Value),aI w.heap a i vs->(loadCellsFrom a i vs.length b).run P w=.ok (b++vs.toArray) w
 | [],i,b,_=>by simp[loadCellsFrom,pure]
 | v::vs,i,b,h=>by
  simp only[List.length_cons,loadCellsFrom];rw[Ek (tQ (P:=P) (v:=v) (w:=w) h.1)];rw[kM vs (i+1) _ h.2];simp
theorem aR{P:Program}{H:Array Obj}{vs:List Value}(a: ∀w,(isAgg d).run P w=.ok true w)(hn: ∀w,(sizeOf d).run P w=.ok vs.length w)(h:aI H b 0 vs):ta P H d b (.agg vs.toArray):=λw f=>by
 unfold loadVar;rw[Ek (a w)];simp only[EE];rw[Ek (hn w)];unfold loadCells;rw[Ek (kM (P:=P) vs 0 #[] (by rw[f];exact h))];simp[pure]
def aZ(t:TypeId)(v:Value):Sem Next:=do pure (.value (<-Instr.loadAt t v))
theorem jC{P:Program}{H:Array Obj}(h:ta P H d b a)(w:World)(g:w.heap=H):(aZ d (Vq b)).run P w=.ok (.value a) w:=by
 have f:(Instr.loadAt d (Vq b)).run P w=.ok a w:=h w g;unfold aZ;rw[Ek f];rfl
theorem wQ{P:Program}{w:World}(i:(match a with | .agg _ | .tuple _=>false | _=>true)=true)(h:oH w.heap b):(store b a).run P w=.ok () (w.setCell b a):=by
 obtain⟨u,g⟩:=FQ.1 h.1;have f:w.frozen? b=false:=by rw[uX];exact h.2
 have d:w.cell? b=some u:=by rw[lS];exact g
 show Sem.run P (Sem.store .plain b a (Sem.pure ())) w=_;cases a<;>simp at i<;>simp only[Sem.run,d,f,EV,EM]
def kF:List Value->Bool
 | []=>true
 | v::vs=>(match v with | .agg _ | .tuple _=>false | _=>true) && kF vs
def aF(H:Array Obj)(a:Addr):Nat->Nat->Prop
 | _,0=>True
 | i,n+1=>oH H (a.add i)/\aF H a (i+1) n
theorem aF.put{H:Array Obj}{b:Addr}(a:Addr)(v:Value): ∀{n i:Nat},aF H b i n->aF (Bq H a v) b i n
 | 0,_,_=>trivial
 | _+1,_,h=>⟨h.1.put a v,aF.put a v h.2⟩
theorem ln{P:Program}{a:Addr}: ∀(vs:List Value) (i:Nat) (w:World),kF vs=true->aF w.heap a i vs.length->
  ∃w',(storeCells a vs i).run P w=.ok () w'/\Same w w'/\w'.heap=aL w.heap a vs i
 | [],_,w,_,_=>⟨w,rfl,Fy w,rfl⟩
 | v::vs,i,w,h1,h2=>by
  simp only[kF,EF]at h1;obtain⟨w',d,f,b⟩:=ln (P:=P) (a:=a) vs (i+1) (w.setCell (a.add i) v) h1.2 (by rw[nV];exact h2.2.put _ _);refine⟨w',?_,(sZ w _ _).trans f,by rw[b,nV];rfl⟩;unfold storeCells;rw[Ek (wQ h1.1 h2.1)];exact d
def jR(t:TypeId)(a v:Value):Sem Next:=do Instr.storeAt t a v;pure .skip
theorem ji{P:Program}{H:Array Obj}{t:TypeId}{a:Addr}{v:Value}(vs:List Value)(k:Nat)(j:v.cells.toList=vs)(hk:vs.length=k)(hn: ∀w,(sizeOf t).run P w=.ok k w)(f:kF vs=true)(g:aF H a 0 k):
  ∀w,w.heap=H-> ∃b,(jR t (Vq a) v).run P w=.ok .skip b/\Same w b/\b.heap=aL H a vs 0:=λw d=>by
 subst j;subst hk;obtain⟨b,l,m,i⟩:=ln (P:=P) (a:=a) v.cells.toList 0 w f (by rw[d];exact g);refine⟨b,?_,m,by rw[i,d]⟩
 have h:(Instr.storeAt t (Vq a) v).run P w=.ok () b:=by
  show(storeVar t a v).run P w=_;unfold storeVar;rw[Ek (hn w)];simp only[Array.length_toList,ne_eq,not_true_eq_false,EM];exact l
 unfold jR;rw[Ek h];rfl
section
variable {P:Program} {n:Nat} {w0:World} {e e':Env} {H H':Array Obj} {Q:Exit->Act->World->Prop}
theorem AJ{ops:Array Oper}{i:Nat}(d:Option Tmp)(f:Nat->Value)(o:Obj)(t: ∀w,dU P ops i e w=some (d,.ok (.value (f w.heap.size)) {w with heap:=w.heap.push o}))
  (h: ∀b H',b=H.size->H'=H.push o-> ∃e',fM n e d (f b) e'/\ms ro P n ds w0 ops (i+1) e' H' Q):ms ro P n ds w0 ops i e H Q:=λa w l q s=>by
 obtain⟨u,r,g,p,j,k⟩:=iY (t w);rw[r];unfold wpListIn;rw[l.wanted g];simp only[EE];refine⟨λ_ _=>trivial,?_⟩;rw[l.sem p,k];obtain⟨e',m,hk⟩:=h w.heap.size (w.heap.push o) (by rw[q]) (by rw[q]);simp only[Oper.uponIn];rw[j];exact hk _ _ (l.putSub m) rfl (s.trans ⟨rfl,rfl,rfl,GH⟩)
theorem rL{ops:Array Oper}{i:Nat}(d:Option Tmp)(S:Sem Next)(v:Value)(g: ∀w,dU P ops i e w=some (d,S.run P w))(b: ∀w,w.heap=H->S.run P w=.ok (.value v) w)
  (e':Env) (f:fM n e d v e') (h:ms ro P n ds w0 ops (i+1) e' H Q):ms ro P n ds w0 ops i e H Q:=
 xl d S (λu H'=>u=v/\H'=H) g (λw a=>⟨v,w,b w a,Fy w,rfl,a⟩) (by rintro _ _ ⟨rfl,rfl⟩;exact⟨e',f,h⟩)
end
def bJ(t:TypeId)(x i:Value):Sem Next:=do pure (.value (<-Instr.indexAt t x i))
theorem dV{P:Program}{t elem sz:Nat}{a:Addr}{len cap:Nat}{k:IntKind}{i:Int}(g:P.underlying t=some (.slice elem))(h: ∀w,(sizeOf elem).run P w=.ok sz w)
  (d:0<=i) (f:i<len) (w:World):(bJ t (vs (some a) len cap) (.int k i)).run P w=.ok (.value (Vq (a.add (i.toNat*sz)))) w:=by
 have b:=h w;simp[bJ,Instr.indexAt,EO,asIntOf,underlying,program,g,d,f,b,Sem.run,pure,Result.andThen]
theorem cG{P:Program}{t elem sz n:Nat}{a:Addr}{k:IntKind}{i:Int}(g:P.underlying t=some (.array n elem))(h: ∀w,(sizeOf elem).run P w=.ok sz w)
  (d:0<=i) (f:i<n) (w:World):(bJ t (Vq a) (.int k i)).run P w=.ok (.value (Vq (a.add (i.toNat*sz)))) w:=by
 have b:=h w;simp[bJ,Instr.indexAt,EO,asIntOf,underlying,program,g,d,f,b,Sem.run,pure,Result.andThen,Instr.sureAddr]
def fD(t:TypeId)(x i:Value):Sem Next:=do pure (.value (<-Instr.index t x i))
theorem bM{P:Program}{t:Nat}{s:ByteArray}{k:IntKind}{i:Int}{c:UInt8}(d:P.underlying t=some .string)(a:0<=i)(b:s[i.toNat]?=some c)(w:World):
  (fD t (.string s) (.int k i)).run P w=.ok (.value (.int .u8 c.toNat)) w:=by
 simp[fD,Instr.index,EO,asIntOf,underlying,program,d,a,b,Sem.run,pure,Result.andThen]
theorem kX{P:Program}{t elem n:Nat}{f:Array Value}{k:IntKind}{i:Int}(l:P.underlying t=some (.array n elem))(o: ∀w,(sizeOf elem).run P w=.ok 1 w)(j: ∀w,(isAgg elem).run P w=.ok false w)
  (g:0<=i) (h:i<n) (m:f[i.toNat]?=some a) (w:World):(fD t (.agg f) (.int k i)).run P w=.ok (.value a) w:=by
 have d:=o w;have b:=j w;simp[fD,Instr.index,EO,asIntOf,underlying,program,l,g,h,d,b,m,Sem.run,pure,Result.andThen,part]
def Cb(op:BinOp)(t:TypeId)(x y:Value):Sem Next:=do pure (.value (<-binOp op t x y))
def k8(k:IntKind)(x y:Int):Int:=k.wrap (x*2 ^ (min y.toNat k.bits))
def o0(k:IntKind)(x y:Int):Int:=x.fdiv (2 ^ (min y.toNat k.bits))
theorem tc{P:Program}{t:TypeId}{k k':IntKind}{x y:Int}(a:0<=y)(w:World):(Cb .shl t (.int k x) (.int k' y)).run P w=.ok (.value (.int k (k8 k x y))) w:=by
 have: ¬y<0:=GF;simp[Cb,binOp,Op.shift,this,EO,Sem.run,pure,Result.andThen,k8]
theorem wm{P:Program}{t:TypeId}{k k':IntKind}{x y:Int}(a:0<=y)(w:World):(Cb .shr t (.int k x) (.int k' y)).run P w=.ok (.value (.int k (o0 k x y))) w:=by
 have: ¬y<0:=GF;simp[Cb,binOp,Op.shift,this,EO,Sem.run,pure,Result.andThen,o0]
def l3(k:IntKind)(x y:Int):Int:=k.wrap (BitVec.ofInt k.bits x &&& BitVec.ofInt k.bits y).toNat
def mp(k:IntKind)(x y:Int):Int:=k.wrap (BitVec.ofInt k.bits x ||| BitVec.ofInt k.bits y).toNat
def i0(t:TypeId)(x:Value)(lo hi mx:Option Value):Sem Next:=do pure (.value (<-Instr.sliceAt t x lo hi mx))
theorem nf{P:Program}{t elem sz:Nat}{a:Option Addr}{len cap:Nat}(g d:Option Value)(l h:Nat)(u:P.underlying t=some (.slice elem))(i: ∀w,(sizeOf elem).run P w=.ok sz w)
  (f:(g=none/\l=0)\/ ∃k,g=some (.int k l)) (b:(d=none/\h=len)\/ ∃k,d=some (.int k h)) (r:l<=h) (s:h<=cap) (w:World):
  (i0 t (vs a len cap) g d none).run P w=.ok (.value (vs (if cap=l then a else a.map (·.add (l*sz))) (h-l) (cap-l))) w:=by
 have j:=i w;have m:(0:Int)<=(h:Int):=GF;have o:(h:Int)<=(cap:Int):=GF;have p:(0:Int)<=(l:Int):=GF;have q:(l:Int)<=(h:Int):=GF
 rcases f with⟨rfl,rfl⟩ | ⟨k,rfl⟩<;>rcases b with⟨rfl,rfl⟩ | ⟨v,rfl⟩<;>
  simp_all [i0,Instr.sliceAt,Instr.slice,Instr.sliceBounds,Instr.sliceBound,EO,asIntOf,underlying,program,Sem.run,pure,Result.andThen]
theorem fR{P:Program}{t:Nat}{s:ByteArray}(f b:Option Value)(l h:Nat)(q:P.underlying t=some .string)
  (d:(f=none/\l=0)\/ ∃k,f=some (.int k l)) (a:(b=none/\h=s.size)\/ ∃k,b=some (.int k h)) (o:l<=h) (p:h<=s.size) (w:World):
  (i0 t (.string s) f b none).run P w=.ok (.value (.string (s.extract l h))) w:=by
 have g:(0:Int)<=(h:Int):=GF;have i:(h:Int)<=(s.size:Int):=GF;have j:(0:Int)<=(l:Int):=GF;have m:(l:Int)<=(h:Int):=GF
 rcases d with⟨rfl,rfl⟩ | ⟨k,rfl⟩<;>rcases a with⟨rfl,rfl⟩ | ⟨r,rfl⟩<;>
  simp_all [i0,Instr.sliceAt,Instr.slice,Instr.sliceBounds,Instr.sliceBound,EO,asIntOf,underlying,program,Sem.run,pure,Result.andThen]
def Cz:List Value->Value
 | [v]=>v
 | vs=> .tuple vs.toArray
inductive bG (P:Program) (H:Array Obj) (e:Env):List ResultVar->List Value->Prop where
 | nil:bG P H e [] []
 | tmp {t:Nat} {v:Value} {rs:List ResultVar} {vs:List Value} (h:e.get t=some v) (r:bG P H e rs vs):bG P H e (.tmp t::rs) (v::vs)
 | cell {b t:Nat} {a:Addr} {v:Value} {rs:List ResultVar} {vs:List Value} (h:e.get b=some (Vq a)) (hl:ta P H t a v) (r:bG P H e rs vs):bG P H e (.cell b t::rs) (v::vs)
theorem Agree.getD{n:Nat}{e:Env}{a:Act}(h:Agree n ds e a){t:Nat}{v:Value}(b:e.get t=some v):a.tmps.getD t undef=v:=by
 have:=h.vals t v b;simp[Array.getD_eq_getD_getElem?,this]
theorem bG.list{P:Program}{H:Array Obj}{n:Nat}{e:Env}{a:Act}{w:World}(d:Agree n ds e a)(f:w.heap=H): ∀{i:List ResultVar} {vs:List Value},bG P H e i vs->
  Sem.run P (i.mapM (λr:ResultVar=>match r with | .tmp t=>(pure (a.tmps.getD t undef):Sem Value) | .cell b t=>do loadVar t (<-asAddr (a.tmps.getD b undef)))) w=Result.ok vs w
 | _,_,.nil=>rfl
 | _,_,.tmp h r=>by
  have g:=bG.list d f r;rw[List.mapM_cons];simp only[Fj,d.getD h];rw[Ek g];rfl
 | _,_,.cell h hl r=>by
  have g:=bG.list d f r;rw[List.mapM_cons];simp only[d.getD h];rw[Ek (x:=_) (w':=w) (by show Sem.run P (loadVar _ _) w=_;exact hl w f),Ek g];rfl
theorem bG.run{P:Program}{H:Array Obj}{n:Nat}{e:Env}{a:Act}{w:World}{vs:List Value}(d:Agree n ds e a)(f:w.heap=H)(h:bG P H e g.results.toList vs):
  (results g a.tmps).run P w=.ok (Cz vs) w:=by
 have b:=bG.list d f h;unfold results;rw[Array.mapM_eq_mapM_toList];simp only[bind_map_left];refine(Ek (x:=vs) (w':=w) b).trans ?_
 match vs with
 | []=>rfl
 | [v]=>rfl
 | v::u::vs=>simp[Cz,pure]
section
variable {P:Program} {n:Nat} {w0:World} {e:Env} {H:Array Obj} {Q:Exit->Act->World->Prop}
def marks(Ds:List Nat):List Deferred:=Ds.map λD=>{target:=.collected D,args:= #[]}
def Shut:List Nat->Array Obj->(Array Obj->Prop)->Prop
 | [],H,K=>K H
 | D::Ds,H,K=>H[D]?=some (.deferred (some []))/\Shut Ds (H.setIfInBounds D (.deferred none)) K
theorem Shut.mono{K b:Array Obj->Prop}(hk: ∀H',K H'->b H'): ∀{a:List Nat} {H:Array Obj},Shut a H K->Shut a H b
 | [],_,h=>hk _ h
 | _::_,_,h=>⟨h.1,Shut.mono hk h.2⟩
theorem Shut.leave{fn:Func}{R:Value->Array Obj->Prop}{d:Array Value}(b: ∀w vs,bG P w.heap e fn.results.toList vs->(results fn d).run P w=.ok (Cz vs) w): ∀(a:List Nat) (w:World),Same w0 w->Shut a w.heap (λH'=> ∃vs,bG P H' e fn.results.toList vs/\R (Cz vs) H')->
  LeavesInM Fence.wide 0 P fn d (λe f=> ∃v,e=.returned v/\Same w0 f/\R v f.heap) (marks a) .returning w
 | [],w,hs,⟨vs,h⟩=>⟨_,b w vs h.1,_,rfl,hs,h.2⟩
 | D::a,w,hs,h=>⟨GH,.inl ⟨D,_,rfl,run_takeDeferred h.1,Shut.leave b a _ ⟨hs.os,hs.tape,hs.output,hs.drawn⟩ h.2⟩⟩
theorem pM{fn:Func}{R:Value->Array Obj->Prop}(b:List Nat)(f: ∀a w,kn P fn w0 R a w->Q .ret a w/\Q .normal a w)
  (h:Shut b H (λH'=> ∃vs,bG P H' e fn.results.toList vs/\R (Cz vs) H')):At n (marks b) w0 e H (Q .ret):=λa w d j i=>
 (f a w (by unfold kn;rw[d.defers];exact Shut.leave (λk vs g=>g.run d rfl) b w i (by rw[j];exact h))).1
theorem xY{R:Value->Array Obj->Prop}(b:List Nat)(f: ∀a w,kn P g w0 R a w->Q .ret a w/\Q .normal a w)
  (h:Shut b H (λH'=> ∃vs,bG P H' e g.results.toList vs/\R (Cz vs) H')):At n (marks b) w0 e H (Q .normal):=λa w d k j=>
 (f a w (by unfold kn;rw[d.defers];exact Shut.leave (λl vs i=>i.run d rfl) b w j (by rw[k];exact h))).2
theorem bY{fn:Func}{R:Value->Array Obj->Prop}(vs:List Value)
  (d: ∀a w,kn P fn w0 R a w->Q .ret a w/\Q .normal a w)
  (b:bG P H e fn.results.toList vs) (h:R (Cz vs) H):At n [] w0 e H (Q .ret):=pM [] d ⟨vs,b,h⟩
theorem jD{fn:Func}{R:Value->Array Obj->Prop}(vs:List Value)
  (d: ∀a w,kn P fn w0 R a w->Q .ret a w/\Q .normal a w)
  (b:bG P H e fn.results.toList vs) (h:R (Cz vs) H):At n [] w0 e H (Q .normal):=xY [] d ⟨vs,b,h⟩
theorem j2{σ:Type}{c:Code}(d:σ->Env)(J:σ->Array Obj->Prop)(hk: ∀s H',J s H'->At n ds w0 (d s) H' (Q .normal))
  (h:At n ds w0 e H (c.wpR ro P (Exit.then (λa w=> ∃s,Agree n ds (d s) a/\Same w0 w/\J s w.heap) Q))):At n ds w0 e H (c.wpR ro P Q):=λa w m p o=>by
 refine wpIn_mono (h a w m p o) ?_;intro j i q b
 cases j with
 | normal=>obtain⟨s,f,g,k⟩:=b;exact hk s _ k i q f rfl g
 | exit id=>exact b
 | goto l=>exact b
 | ret=>exact b
 | panic r=>exact b
 | outgrown=>exact b
theorem dL{σ:Type}{b:σ->Env}{J:σ->Array Obj->Prop}(s:σ)(g:Sub (b s) e)(d:J s H):At n ds w0 e H (λa w=> ∃s,Agree n ds (b s) a/\Same w0 w/\J s w.heap):=
 λa w f i h=>⟨s,f.sub g,h,by rw[i];exact d⟩
theorem td(a:List Nat){K:Act->World->Prop}(b:ds=marks a)(h:At n (marks a) w0 e H K):At n ds w0 e H K:=b▸h
theorem gU{ops:Array Oper}{i:Nat}(a:Env)(hk:At n ds w0 a H (Q .normal))(h:At n ds w0 a H (Q .normal)->ms ro P n ds w0 ops i e H Q):ms ro P n ds w0 ops i e H Q:=h hk
theorem cW(e':Env)(a:e=e'){K:Act->World->Prop}(h:At n ds w0 e' H K):At n ds w0 e H K:=a▸h
theorem bW{ops:Array Oper}{i:Nat}(e':Env)(a:e=e')(h:ms ro P n ds w0 ops i e' H Q):ms ro P n ds w0 ops i e H Q:=a▸h
theorem AW{ops:Array Oper}{i:Nat}(e':Env)(a:e=e')(h:Bl P n ds w0 ops i e' H Q):Bl P n ds w0 ops i e H Q:=a▸h
end
def fY(p:Option Addr)(A:Prop)(B:Addr->Prop):Prop:=match p with | none=>A | some a=>B a
@[simp] theorem Ev {A:Prop} {B:Addr->Prop}:fY none A B=A:=rfl
@[simp] theorem El {A:Prop} {B:Addr->Prop} {a:Addr}:fY (some a) A B=B a:=rfl
theorem sb{e' e:Env}(h:e'.map (λp=>e.get p.1)=e'.map (λp=>some p.2)):Sub e' e:=h
theorem ps{n:Nat}{e:Env}{d:Option Nat}{e':Env}(h:(u3 n e d a).map (λb=>e'.map (λp=>b.get p.1))=some (e'.map (λp=>some p.2))):fM n e d a e':=h
def Code.fa:Code->Code
 | .seq a _=>a
 | .cond _ a _=>a
 | .block _ b=>b
 | .loop b=>b
 | .scope b=>b
 | .rangeFunc _ _ a _=>a
 | c=>c
def Code.fb:Code->Code
 | .seq _ b=>b
 | .cond _ _ b=>b
 | .rangeFunc _ _ _ b=>b
 | c=>c
def Code.ops:Code->Array Oper
 | .region _ o _=>o
 | _=> #[]
def Func.code(f:Func):Code:=f.body.getD .skip
variable {ds:List Deferred} {ro:Option Nat}
def QN(Q:Exit->Act->World->Prop):Exit->Act->World->Prop
 | .panic _,_,_=>False
 | e,a,w=>Q e a w
theorem QN.imp{Q:Exit->Act->World->Prop}: ∀(e:Exit) (a:Act) (w:World),QN Q e a w->Q e a w:=λe a w h=>by
 cases e<;>first | exact h | exact(h:False).elim
section
variable {P:Program} {ops:Array Oper} {Q:Exit->Act->World->Prop} {md:Region.Mode} {S:Array Bool->World->Prop}
def Closed(md:Region.Mode)(ops:Array Oper)(L:Array Bool):Prop:=
 L.size=ops.size/\ ∀j oj,ops[j]?=some oj->L.getD j false=true-> ∀e∈oj.after,Region.binds md e=true->L.getD e.on false=true
theorem Closed.set{L:Array Bool}{i:Nat}(h:Closed md ops L)(o:i∈Region.ready md ops L):Closed md ops (L.setIfInBounds i true):=by
 obtain⟨_,p,d,a⟩:=mem_ready.1 o;refine⟨by simpa using h.1,?_⟩;intro j m k l e g f;by_cases b:i=j
 ·subst b;have:m=p:=FN (k.symm.trans d);subst this;exact getD_set_true (a e g f)
 ·rw[getD_set_ne false b]at l;exact getD_set_true (h.2 j m k l e g f)
theorem Closed.none(m:Nat)(hm:ops.size=m):Closed md ops (Array.replicate m false):=⟨by simp[hm],λj b _ a=>by
 have:(Array.replicate m false).getD j false=false:=by
  rcases EC j m with h | h<;>simp[h]
 rw[this]at a;cases a⟩
def mM(md:Region.Mode)(ops:Array Oper):Nat->Nat->Nat->Bool
 | 0,_,_=>false
 | f+1,k,i=>match ops[k]? with
  | some o=>o.after.any (λe=>Region.binds md e && e.on==i) || o.after.any (λe=>Region.binds md e && mM md ops f e.on i)
  | none=>false
theorem oY{L:Array Bool}(d:Closed md ops L): ∀{f k i:Nat},mM md ops f k i=true->L.getD k false=true->L.getD i false=true
 | 0,_,_,h,_=>by simp[mM]at h
 | f+1,k,i,h,hk=>by
  unfold mM at h
  cases b:ops[k]? with
  | none=>simp[b]at h
  | some o=>
   simp only[b,EU]at h;rcases h with h | h
   ·obtain⟨e,g,a⟩:=Array.any_eq_true'.1 h;simp only[EF,Fc]at a;have:=d.2 k o b hk e g a.1;rw[a.2]at this;exact this
   ·obtain⟨e,g,a⟩:=Array.any_eq_true'.1 h;simp only[EF]at a;exact oY d a.2 (d.2 k o b hk e g a.1)
def jZ(P:Program)(md:Region.Mode)(ops:Array Oper)(S:Array Bool->World->Prop)(i:Nat)(o:Oper)(v:Value)(a:Act):Prop:=
 (∀c,o.op≠.defer c)/\((Region.wanted o (yielded ops a.tmps)=true/\ ∀L w,Closed md ops L->L.getD i true=false->S L w->(execOp a.eval o).run P w=.ok (.value v) w)\/
 (Region.wanted o (yielded ops a.tmps)=false/\v=undef))
theorem jZ.wpOp{i:Nat}{o:Oper}{p:Act}(l:ops[i]?=some o)(f:jZ P md ops S i o a p)
  {K:Act->World->Prop} {w:World} {L:Array Bool} (k:Closed md ops L) (g:L.getD i true=false) (j:S L w) (h:K (p.put o.dst a) w):wpOpIn (BW ro) 0 P ops Q i K p w:=by
 unfold Go.wpOpIn;simp only[l];have b:o.semAt (BW ro).round p.eval=execOp p.eval o:=Oper.semAt_eq ro _ o f.1;rcases f.2 with⟨d,m⟩ | ⟨d,rfl⟩
 ·simp only[d,EE,Oper.wpIn,b,m L w k g j,Oper.uponIn];exact⟨λ_ _=>trivial,h⟩
 ·simp only[d,EV,EM];exact⟨λ_ _=>trivial,h⟩
theorem jZ.of_same{i:Nat}{o:Oper}{h b:Act}(g:jZ P md ops S i o a h)(d:execOp b.eval o=execOp h.eval o)
  (f:Region.wanted o (yielded ops b.tmps)=Region.wanted o (yielded ops h.tmps)):jZ P md ops S i o a b:=by
 unfold jZ at*;rw[d,f];exact g
theorem wR{i j:Nat}{g k:Oper}(M:ops[j]?=some k)(A:g.apart ops k=true)
  (C: ∀v b,g.op≠.select v b) (D: ∀v b,k.op≠.select v b) (B: ∀c,k.op≠.defer c)
  (z: ∀c N w,¬Q (.panic c) N w) {K:Act->World->Prop} {N:Act} {w:World}
  (o:jZ P md ops S i g a N) (h:wpOpIn (BW ro) 0 P ops Q j K (N.put g.dst a) w):
  wpOpIn (BW ro) 0 P ops Q j (λG F=>jZ P md ops S i g a G/\K (G.put g.dst a) F) N w:=by
 obtain⟨I,p,J⟩:=Oper.apart_spec A
 have keep: ∀(N:Act),jZ P md ops S i g a N-> ∀u,jZ P md ops S i g a (N.put k.dst u):=λN o u=>
  o.of_same (execOp_put g C N k.dst u J) (wanted_put g N k.dst u J)
 have q: ∀d,jZ P md ops S i g a {N with defers:=d::N.defers}:=λd=>o.of_same rfl rfl;unfold wpOpIn at*;simp only[M]at*;rw[wanted_put k N g.dst a I]at h;have s: ∀ρ,k.semAt (BW ro).round ρ=execOp ρ k:=λρ=>Oper.semAt_eq ro ρ k B;split
 ·rename_i E
  simp only[E,EE]at h;refine⟨λ_ _=>trivial,?_⟩;have h:=h.2;rw[s,execOp_put k D N g.dst a I]at h;rw[s];generalize (execOp N.eval k).run P w=r at*
  cases r with
  | ok n F=>
   cases n<;>simp only[Oper.uponIn]at h⊢
   case value u=>exact⟨keep N o u,by rw[<-FZ N a u p];exact h⟩
   case skip=>exact⟨keep N o _,by rw[<-FZ N a undef p];exact h⟩
   case defer d=>
    refine⟨keep _ (q d) _,?_⟩;rw[<-FZ _ a undef p,<-Act.put_defers];exact h
   case enter f args=>
    refine⟨h.1,Gk h.2 λe t m=>?_⟩
    cases e with
    | returned u=>exact⟨keep N o u,by rw[<-FZ N a u p];exact m⟩
    | panicked c=>exact(z _ _ _ m).elim
    | outgrown=>exact m
   case row row args=>exact⟨h.1,RowsIn.mono h.2 λu t m=>⟨keep N o u,by rw[<-FZ N a u p];exact m⟩⟩
   case round l f tmps assign body=>
    refine⟨h.1,RoundIn.mono h.2 λe t m=>?_⟩
    cases e with
    | returned u=>exact⟨keep N o u,by rw[<-FZ N a u p];exact m⟩
    | panicked c=>exact(z _ _ _ m).elim
    | outgrown=>exact m
  | halt x F=>
   cases x<;>simp only[Oper.uponIn]at h⊢
   case panic u=>exact(z _ _ _ h).elim
 ·rename_i E
  simp only[E]at h;exact⟨λ_ _=>trivial,keep N o _,by rw[<-FZ N a undef p];exact h.2⟩
def Di(ro:Option Nat)(P:Program)(md:Region.Mode)(ops:Array Oper)(Q:Exit->Act->World->Prop)(S:Array Bool->World->Prop):Nat->Array Bool->Act->World->Prop
 | 0,L,a,w=>Region.ready md ops L=[]/\Q .normal a w
 | fuel+1,L,a,w=>
  (Region.ready md ops L=[]->Q .normal a w)/\
  ∀i∈Region.ready md ops L,wpOpIn (BW ro) 0 P ops Q i (λa' w'=>S (L.setIfInBounds i true) w'/\Di ro P md ops Q S fuel (L.setIfInBounds i true) a' w') a w
theorem qc: ∀(fuel:Nat) (L:Array Bool) (a:Act) (w:World),Di ro P md ops Q S fuel L a w->wpAnyIn (BW ro) 0 P md ops Q fuel L a w
 | 0,_,_,_,h=>h
 | fuel+1,_,_,_,h=>⟨h.1,λi f=>wpOpIn_mono (λb g d=>qc fuel _ b g d.2) (h.2 i f)⟩
theorem rO{i:Nat}{oi:Oper}{v:Value}(T:ops[i]?=some oi)(q: ∀(j:Nat) (o:Oper) u b,ops[j]?=some o->o.op≠.select u b)(C: ∀(j:Nat) (o:Oper) c,ops[j]?=some o->o.op≠.defer c)
  (hQ: ∀c a w,¬Q (.panic c) a w) (t: ∀L w,S (L.setIfInBounds i true) w ↔ S L w):
  ∀(fuel:Nat) (L:Array Bool) (a:Act) (w:World),
   (∀j r,ops[j]?=some r->j≠i->L.getD j true=false->(∀e∈r.after,Region.binds md e=true->e.on≠i)->oi.apart ops r=true)->
   Closed md ops L->i∈Region.ready md ops L->jZ P md ops S i oi v a->S L w->
   Di ro P md ops Q S fuel (L.setIfInBounds i true) (a.put oi.dst v) w->Di ro P md ops Q S (fuel+1) L a w:=by
 intro fuel
 induction fuel with
 | zero=>
  intro L a w _ J m M z H;refine⟨λh=>(by rw[h]at m;cases m),λj D=>?_⟩;by_cases d:j=i
  ·subst d;exact M.wpOp T J (mem_ready.1 m).1 z ⟨(t L w).2 z,H⟩
  ·have:=ready_mono D d;rw[H.1]at this;cases this
 | succ fuel ih=>
  intro L a w f J m M z H;refine⟨λh=>(by rw[h]at m;cases m),λj D=>?_⟩;by_cases d:j=i
  ·subst d;exact M.wpOp T J (mem_ready.1 m).1 z ⟨(t L w).2 z,H⟩
  ·have s:=H.2 j (ready_mono D d);obtain⟨p,r,l,B⟩:=mem_ready.1 D
   have F: ∀e∈r.after,Region.binds md e=true->e.on≠i:=λe he hb R=>by
    have s:=B e he hb;have W:=(mem_ready.1 m).1;rw[R]at s;rcases EC i L.size with N | N
    ·simp[N]at W s;rw[W]at s;cases s
    ·simp[Array.getElem?_eq_none N]at s
   have Z:=wR l (f j r l d p F) (λu b=>q i oi u b T) (λu b=>q j r u b l) (λc=>C j r c l) hQ M s
   have g: ∀k I,ops[k]?=some I->k≠i->(L.setIfInBounds j true).getD k true=false->
     (∀e∈I.after,Region.binds md e=true->e.on≠i)->oi.apart ops I=true:=λk I hk U G V=>by
    refine f k I hk U ?_ V;by_cases E:j=k
    ·subst E;exact p
    ·rw[getD_set_ne true E]at G;exact G
   refine wpOpIn_mono (λY X O=>?_) Z
   have A:S (L.setIfInBounds j true) X:=by
    have:=O.2.1;rw[Array.setIfInBounds_comm _ _ (Ne.symm d)]at this;exact(t _ _).1 this
   refine⟨A,ih (L.setIfInBounds j true) Y X g (J.set D) (ready_mono m (Ne.symm d)) O.1 A ?_⟩;rw[Array.setIfInBounds_comm _ _ d];exact O.2.2
end
def ko(ops:Array Oper):Bool:=ops.toList.all λo=>match o.op with | .defer _=>false | _=>true
theorem kY{ops:Array Oper}(h:ko ops=true)(j:Nat)(o:Oper)(c:Call)(b:ops[j]?=some o):o.op≠.defer c:=λa=>by
 have hm:o∈ops.toList:=by
  have:=Array.mem_of_getElem? b;simpa using this
 have:=F3.1 h o hm;simp[a]at this
abbrev Facts:=List (Nat×Addr×List Value)
def fS(fs:Facts)(L:Array Bool)(w:World):Prop:= ∀f∈fs,L.getD f.1 false=false->aI w.heap f.2.1 0 f.2.2
def aP(fs:Facts)(L:Array Bool)(H:Array Obj):Prop:=
 match fs with
 | []=>True
 | f::fs=>(bif L.getD f.1 false then True else aI H f.2.1 0 f.2.2)/\aP fs L H
theorem aP.ok{L:Array Bool}{w:World}: ∀{fs:Facts},aP fs L w.heap->fS fs L w
 | [],_,f,hf,_=>by cases hf
 | g::fs,h,f,hf,hL=>by
  cases hf with
  | head=>have:=h.1;rw[hL]at this;exact this
  | tail _ hm=>exact aP.ok h.2 f hm hL
theorem fS.at{L:Array Bool}{w:World}: ∀{fs:Facts},fS fs L w->aP fs L w.heap
 | [],_=>trivial
 | g::fs,h=>⟨by
   cases a:L.getD g.1 false with
   | true=>trivial
   | false=>exact h g (FT ..) a,fS.at λf b=>h f (FF _ b)⟩
theorem fS.set{fs:Facts}{i:Nat}(g:fs.all (λf=>f.1 !=i)=true)(L:Array Bool)(w:World):fS fs (L.setIfInBounds i true) w ↔ fS fs L w:=by
 have b: ∀f∈fs,i≠f.1:=λf a=>by
  have:=F3.1 g f a;simp at this;exact λh=>this h.symm
 constructor<;>intro h f a d<;>refine h f a ?_
 ·rw[getD_set_ne false (b f a)];exact d
 ·rw[getD_set_ne false (b f a)]at d;exact d
def u5(ro:Option Nat)(P:Program)(n:Nat)(ds:List Deferred)(w0:World)(ops:Array Oper)(fs:Facts)(fuel:Nat)(L:Array Bool)(e:Env)(H:Array Obj)(Q:Exit->Act->World->Prop):Prop:=
 ∀a w,Agree n ds e a->w.heap=H->Same w0 w->Closed .any ops L->fS fs L w->Di ro P .any ops (QN Q) (fS fs) fuel L a w
section
variable {P:Program} {n:Nat} {w0:World} {e:Env} {H:Array Obj} {Q:Exit->Act->World->Prop} {c:Code} {ops:Array Oper} {fs:Facts} {fuel:Nat} {L:Array Bool}
theorem wS(id:Nat)(ops:Array Oper)(fs:Facts)(k:Nat)(L:Array Bool)(j:c=.region id ops true)(hm:P.follows .mixedOrders=true)(f:Region.noSelect ops=true)(hk:ops.size=k)(g:Array.replicate k false=L)(l:aP fs L H)
  (h:u5 ro P n ds w0 ops fs k L e H Q):At n ds w0 e H (c.wpR ro P Q):=λa w i d b=>by
 rw[j];refine wpIn_mono (wpIn_region_any hm ?_) QN.imp;subst hk;subst g;refine qc _ _ _ _ (h a _ i ?_ ?_ (Closed.none _ rfl) ?_)
 ·exact d
 ·exact⟨b.os,b.tape,b.output,Nat.le_succ_of_le b.drawn⟩
 ·exact aP.ok (by show aP fs _ w.heap;rw[d];exact l)
theorem yY(id:Nat)(ops:Array Oper)(fs:Facts)(k:Nat)(L:Array Bool)(d:aP fs L H)(h:u5 ro P n ds w0 ops fs k L e H Q)(b:c=.region id ops true:=by kernel_rfl)(hm:P.follows .mixedOrders=true:=by kernel_rfl)(f:Region.noSelect ops=true:=by kernel_rfl)(hk:ops.size=k:=by kernel_rfl)(a:Array.replicate k false=L:=by kernel_rfl):At n ds w0 e H (c.wpR ro P Q):=wS id ops fs k L b hm f hk a d h
theorem AK(d:Region.ready .any ops L=[])(h:At n ds w0 e H (Q .normal)):u5 ro P n ds w0 ops fs fuel L e H Q:=λa w b i g _ _=>by
 cases fuel with
 | zero=>exact⟨d,h a w b i g⟩
 | succ f=>exact⟨λ_=>h a w b i g,by rw[d];simp⟩
theorem yx(h:At n ds w0 e H (Q .normal))(a:Region.ready .any ops L=[]:=by kernel_rfl):u5 ro P n ds w0 ops fs fuel L e H Q:=AK a h
theorem gm(e':Env)(d:Sub e' e)(h:u5 ro P n ds w0 ops fs fuel L e' H Q):u5 ro P n ds w0 ops fs fuel L e H Q:=λa w b=>h a w (b.sub d)
theorem AX(e':Env)(a:e=e')(h:u5 ro P n ds w0 ops fs fuel L e' H Q):u5 ro P n ds w0 ops fs fuel L e H Q:=a▸h
theorem jE{i:Nat}{w:World}{d:Option Tmp}{r:Result Next}(h:dU P ops i e w=some (d,r)): ∃o,ops[i]?=some o/\lm ops e o=some true/\mI e o=true/\o.dst=d/\(execOp (CB e) o).run P w=r:=by
 obtain⟨o,j,a,b,f,g⟩:=iY h;refine⟨o,?_,a,b,f,g⟩
 have:ops.toList[i]?=some o:=by
  have:=Eg List.head? j;simpa[List.head?_drop]using this
 simpa using this
theorem oI(i:Nat)(d:Option Tmp)(v:Value)(C:Array Bool)(e':Env)(S:Sem Next)(E: ∀w,dU P ops i e w=some (d,S.run P w))
  (J: ∀L w,Closed .any ops L->L.getD i true=false->fS fs L w->S.run P w=.ok (.value v) w)
  (O:(Region.ready .any ops L).contains i=true) (q:Region.noSelect ops=true) (b:ko ops=true) (N:Region.free .any ops L i=true) (l:fs.all (λf=>f.1 !=i)=true) (I:L.setIfInBounds i true=C) (M:fM n e d v e')
  (h:u5 ro P n ds w0 ops fs fuel C e' H Q):u5 ro P n ds w0 ops fs (fuel+1) L e H Q:=λa w u T R D k=>by
 obtain⟨o,r,g,B,j,_⟩:=jE (E default);subst I;have m:i∈Region.ready .any ops L:=by simpa using O
 refine rO (oi:=o) (v:=v) r (Region.noSelect_spec q) (kY b) (λ_ _ _ h=>h) (fS.set l) fuel L a w (Region.free_spec r N) D m ?_ k ?_
 ·refine⟨λc=>kY b i o c r,.inl ⟨u.wanted g,λG F z s t=>?_⟩⟩;obtain⟨U,A,_,_,_,p⟩:=jE (E F);obtain rfl:o=U:=FN (r.symm.trans A);rw[u.exec B,p];exact J G F z s t
 ·subst j;exact h _ _ (u.putSub M) T R (D.set m) ((fS.set l L w).2 k)
theorem xZ(i:Nat)(d:Option Tmp)(t:Array Bool)(e':Env)(s:(ops[i]?).bind (λo=>(lm ops e o).map (λb=>(o.dst,b)))=some (d,false))
  (D:(Region.ready .any ops L).contains i=true) (r:Region.noSelect ops=true) (g:ko ops=true) (C:Region.free .any ops L i=true) (m:fs.all (λf=>f.1 !=i)=true) (A:L.setIfInBounds i true=t) (B:fM n e d undef e')
  (h:u5 ro P n ds w0 ops fs fuel t e' H Q):u5 ro P n ds w0 ops fs (fuel+1) L e H Q:=λa w u F E z l=>by
 cases p:ops[i]? with
 | none=>rw[p]at s;cases s
 | some o=>
  simp only[p,Option.bind_some,Option.map_eq_some_iff,EX]at s;obtain⟨b,j,k,rfl⟩:=s;subst A;have q:i∈Region.ready .any ops L:=by simpa using D
  refine rO (oi:=o) (v:=undef) p (Region.noSelect_spec r) (kY g) (λ_ _ _ h=>h) (fS.set m) fuel L a w (Region.free_spec p C) z q ⟨λc=>kY g i o c p,.inr ⟨u.wanted j,rfl⟩⟩ l ?_;subst k;exact h _ _ (u.putSub B) F E (z.set q) ((fS.set m L w).2 l)
theorem rP{vs:List Value}{i:Nat}(k:Nat)(hm:(k,b,vs)∈fs)(a:mM .any ops 16 k i=true\/Nat.ble ops.size k=true){L:Array Bool}{w:World}(f:Closed .any ops L)(d:L.getD i true=false)(j:fS fs L w):aI w.heap b 0 vs:=by
 refine j _ hm ?_;rcases a with a | a
 ·cases hk:L.getD k false with
  | false=>rfl
  | true=>
   have:=oY f a hk
   have g:L.getD i false=false:=by
    rcases EC i L.size with h | h
    ·simp[h]at d⊢;exact d
    ·simp[Array.getElem?_eq_none h]
   rw[g]at this;cases this
 ·have:L.size<=k:=by rw[f.1];exact Nat.le_of_ble_eq_true a
  simp[Array.getElem?_eq_none this]
theorem kR{v:Value}{i:Nat}(k:Nat)(h: ∀w,(isAgg d).run P w=.ok false w)(hm:(k,b,[v])∈fs)(j:mM .any ops 16 k i=true\/Nat.ble ops.size k=true):
  ∀L w,Closed .any ops L->L.getD i true=false->fS fs L w->(aZ d (Vq b)).run P w=.ok (.value v) w:=λ_ w f a g=>
 jC (H:=w.heap) (io h (rP k hm j f a g).1) w rfl
theorem yW{t:TypeId}{a:Addr}{v:Value}{i:Nat}(k:Nat)(hm:(k,a,[v])∈fs)(b: ∀w,(isAgg t).run P w=.ok false w:=by intro _;kernel_rfl)(d:mM .any ops 16 k i=true:=by kernel_rfl):∀L w,Closed .any ops L->L.getD i true=false->fS fs L w->(aZ t (Vq a)).run P w=.ok (.value v) w:=kR k b hm (.inl d)
theorem kq{t:TypeId}{a:Addr}{vs:List Value}{i:Nat}(k:Nat)(g: ∀w,(isAgg t).run P w=.ok true w)(hn: ∀w,(sizeOf t).run P w=.ok vs.length w)(hm:(k,a,vs)∈fs)(h:mM .any ops 16 k i=true\/Nat.ble ops.size k=true):
  ∀L w,Closed .any ops L->L.getD i true=false->fS fs L w->(aZ t (Vq a)).run P w=.ok (.value (.agg vs.toArray)) w:=λ_ w d b f=>
 jC (H:=w.heap) (aR g hn (rP k hm h d b f)) w rfl
theorem uY(i:Nat)(d:Option Tmp)(m:Array Bool)(S:Sem Next)(R:Value->Array Obj->Prop)(s:Region.ready .any ops L=[i])(J: ∀w,dU P ops i e w=some (d,S.run P w))(C:SS P S H R)(A:L.setIfInBounds i true=m)
  (h: ∀v H',R v H'-> ∃e',fM n e d v e'/\aP fs m H'/\u5 ro P n ds w0 ops fs fuel m e' H' Q):u5 ro P n ds w0 ops fs (fuel+1) L e H Q:=λa w p I F D _=>by
 obtain⟨o,E,f,r,g,l⟩:=jE (J w);refine⟨λu=>(by rw[s]at u;cases u),λj z=>?_⟩;have t:i∈Region.ready .any ops L:=by rw[s];simp
 rw[s]at z;obtain rfl:j=i:=by simpa using z
 unfold wpOpIn;simp only[E];rw[p.wanted f];simp only[EE];refine⟨λ_ _=>trivial,?_⟩;rw[p.sem r,l];obtain⟨v,M,G,b,B⟩:=C w I;rw[G];obtain⟨e',q,k,hk⟩:=h v _ B;subst A;subst g;simp only[Oper.uponIn];exact⟨aP.ok k,hk _ _ (p.putSub q) rfl (F.trans b) (D.set t) (aP.ok k)⟩
theorem gR(i:Nat)(d:Option Tmp)(p:Array Bool)(S:Sem Next)(R:Array Obj->Prop)(t:Region.ready .any ops L=[i])(J: ∀w,dU P ops i e w=some (d,S.run P w))
  (C: ∀w,w.heap=H-> ∃m,S.run P w=.ok .skip m/\Same w m/\R m.heap) (A:L.setIfInBounds i true=p)
  (h: ∀H',R H'-> ∃e',fM n e d undef e'/\aP fs p H'/\u5 ro P n ds w0 ops fs fuel p e' H' Q):u5 ro P n ds w0 ops fs (fuel+1) L e H Q:=λa w q I F D _=>by
 obtain⟨o,E,f,s,g,l⟩:=jE (J w);refine⟨λv=>(by rw[t]at v;cases v),λj z=>?_⟩;have u:i∈Region.ready .any ops L:=by rw[t];simp
 rw[t]at z;obtain rfl:j=i:=by simpa using z
 unfold wpOpIn;simp only[E];rw[q.wanted f];simp only[EE];refine⟨λ_ _=>trivial,?_⟩;rw[q.sem s,l];obtain⟨m,G,b,B⟩:=C w I;rw[G];obtain⟨e',r,k,hk⟩:=h _ B;subst A;subst g;simp only[Oper.uponIn];exact⟨aP.ok k,hk _ _ (q.putSub r) rfl (F.trans b) (D.set u) (aP.ok k)⟩
theorem An(i:Nat)(d:Option Tmp)(q:Array Bool)(f:FuncId)(args:Array Value)(z:Region.ready .any ops L=[i])(N: ∀w,dU P ops i e w=some (d,.ok (.enter f args) w)){R:Value->Array Obj->Prop}(b:HC P f args H R)(D:L.setIfInBounds i true=q)
  (h: ∀v H',R v H'-> ∃e',fM n e d v e'/\aP fs q H'/\u5 ro P n ds w0 ops fs fuel q e' H' Q):u5 ro P n ds w0 ops fs (fuel+1) L e H Q:=λa w r M J F _=>by
 obtain⟨o,I,k,u,l,p⟩:=jE (N w);refine⟨λB=>(by rw[z]at B;cases B),λj C=>?_⟩;have A:i∈Region.ready .any ops L:=by rw[z];simp
 rw[z]at C;obtain rfl:j=i:=by simpa using C
 unfold wpOpIn;simp only[I];rw[r.wanted k];simp only[EE];refine⟨λ_ _=>trivial,?_⟩;rw[r.sem u,p];simp only[Oper.uponIn];refine⟨λG=>(by cases G),Gk (show CallsIn (BW ro) _ P f args w _ from Gl.2 (b w M)) λO T ⟨v,t,g,E⟩=>?_⟩;subst t;obtain⟨e',s,m,hk⟩:=h v _ E;subst D;subst l;simp only[];exact⟨aP.ok m,hk _ _ (r.putSub s) rfl (J.trans g) (F.set A) (aP.ok m)⟩
theorem yq(i:Nat)(d:Option Tmp)(b:Array Bool)(f:FuncId)(args:Array Value){R:Value->Array Obj->Prop}(a:HC P f args H R)(h: ∀v H',R v H'-> ∃e',fM n e d v e'/\aP fs b H'/\u5 ro P n ds w0 ops fs fuel b e' H' Q)(j:Region.ready .any ops L=[i]:=by kernel_rfl)(k: ∀w,dU P ops i e w=some (d,.ok (.enter f args) w):=by intro _;kernel_rfl)(g:L.setIfInBounds i true=b:=by kernel_rfl):u5 ro P n ds w0 ops fs (fuel+1) L e H Q:=An i d b f args j k a g h
theorem rQ(i:Nat)(d:Option Tmp)(p:Array Bool)(f:Nat->Value)(o:Obj)(t:Region.ready .any ops L=[i])(F: ∀w,dU P ops i e w=some (d,.ok (.value (f w.heap.size)) {w with heap:=w.heap.push o}))(B:L.setIfInBounds i true=p)
  (h: ∀b H',b=H.size->H'=H.push o-> ∃e',fM n e d (f b) e'/\aP fs p H'/\u5 ro P n ds w0 ops fs fuel p e' H' Q):u5 ro P n ds w0 ops fs (fuel+1) L e H Q:=λa w q A E C _=>by
 obtain⟨G,D,g,s,k,m⟩:=jE (F w);refine⟨λv=>(by rw[t]at v;cases v),λj z=>?_⟩;have u:i∈Region.ready .any ops L:=by rw[t];simp
 rw[t]at z;obtain rfl:j=i:=by simpa using z
 unfold wpOpIn;simp only[D];rw[q.wanted g];simp only[EE];refine⟨λ_ _=>trivial,?_⟩;rw[q.sem s,m];obtain⟨e',r,l,hk⟩:=h w.heap.size (w.heap.push o) (by rw[A]) (by rw[A]);subst B;subst k;simp only[Oper.uponIn];exact⟨aP.ok l,hk _ _ (q.putSub r) rfl (E.trans ⟨rfl,rfl,rfl,GH⟩) (C.set u) (aP.ok l)⟩
def wn(ro:Option Nat)(P:Program)(n:Nat)(ds:List Deferred)(w0:World)(ops:Array Oper)(fs:Facts)(fuel:Nat)(L:Array Bool)(e:Env)(H:Array Obj)(Q:Exit->Act->World->Prop)(i:Nat):Prop:=
 ∀a w,Agree n ds e a->w.heap=H->Same w0 w->Closed .any ops L->wpOpIn (BW ro) 0 P ops (QN Q) i (λa' w'=>fS fs (L.setIfInBounds i true) w'/\Di ro P .any ops (QN Q) (fS fs) fuel (L.setIfInBounds i true) a' w') a w
theorem x7(i j:Nat)(g:Region.ready .any ops L=[i,j])(m:wn ro P n ds w0 ops fs fuel L e H Q i)(o:wn ro P n ds w0 ops fs fuel L e H Q j):u5 ro P n ds w0 ops fs (fuel+1) L e H Q:=λa w d l h f _=>by
 refine⟨λb=>(by rw[g]at b;cases b),λk hk=>?_⟩;rw[g]at hk;rcases Ew.1 hk with rfl | hk
 ·exact m a w d l h f
 ·obtain rfl:k=j:=by simpa using hk
  exact o a w d l h f
theorem ya(i:Nat)(d:Option Tmp)(p:Array Bool)(f:FuncId)(args:Array Value)(E:List.elem i (Region.ready .any ops L)=true)(I: ∀w,dU P ops i e w=some (d,.ok (.enter f args) w)){R:Value->Array Obj->Prop}(b:HC P f args H R)(z:L.setIfInBounds i true=p)
  (h: ∀v H',R v H'-> ∃e',fM n e d v e'/\aP fs p H'/\u5 ro P n ds w0 ops fs fuel p e' H' Q):wn ro P n ds w0 ops fs fuel L e H Q i:=λa w q G F B=>by
 obtain⟨o,D,j,t,k,m⟩:=jE (I w);have u:i∈Region.ready .any ops L:=List.elem_iff.1 E;unfold wpOpIn;simp only[D];rw[q.wanted j];simp only[EE];refine⟨λ_ _=>trivial,?_⟩;rw[q.sem t,m];simp only[Oper.uponIn];refine⟨λC=>(by cases C),Gk (show CallsIn (BW ro) _ P f args w _ from Gl.2 (b w G)) λJ M ⟨v,s,g,A⟩=>?_⟩;subst s;obtain⟨e',r,l,hk⟩:=h v _ A;subst z;subst k;simp only[];exact⟨aP.ok l,hk _ _ (q.putSub r) rfl (F.trans g) (B.set u) (aP.ok l)⟩
theorem Ah(i:Nat)(d:Option Tmp)(m:Array Bool)(f:Nat->Value)(o:Obj)(A:List.elem i (Region.ready .any ops L)=true)(C: ∀w,dU P ops i e w=some (d,.ok (.value (f w.heap.size)) {w with heap:=w.heap.push o}))(u:L.setIfInBounds i true=m)
  (h: ∀b H',b=H.size->H'=H.push o-> ∃e',fM n e d (f b) e'/\aP fs m H'/\u5 ro P n ds w0 ops fs fuel m e' H' Q):wn ro P n ds w0 ops fs fuel L e H Q i:=λa w p t B v=>by
 obtain⟨D,z,g,r,j,l⟩:=jE (C w);have s:i∈Region.ready .any ops L:=List.elem_iff.1 A;unfold wpOpIn;simp only[z];rw[p.wanted g];simp only[EE];refine⟨λ_ _=>trivial,?_⟩;rw[p.sem r,l];obtain⟨e',q,k,hk⟩:=h w.heap.size (w.heap.push o) (by rw[t]) (by rw[t]);subst u;subst j;simp only[Oper.uponIn];exact⟨aP.ok k,hk _ _ (p.putSub q) rfl (B.trans ⟨rfl,rfl,rfl,GH⟩) (v.set s) (aP.ok k)⟩
end
def bV(H:Array Obj)(b:Option Addr)(xs:List Value):Prop:=
 match b with
 | none=>xs=[]
 | some a=>aI H a 0 xs
@[simp] theorem Ge {H:Array Obj} {xs:List Value}:bV H none xs=(xs=[]):=rfl
@[simp] theorem SrcAt_some {H:Array Obj} {a:Addr} {xs:List Value}:bV H (some a) xs=aI H a 0 xs:=rfl
theorem lq{P:Program}{w:World}{g n c:Nat}{b:Option Addr}{d:List Value}(h:bV w.heap b d)(f:b≠none->d.length=n*g):(Builtin.firstCells g n (vs b n c)).run P w=.ok d.toArray w:=by
 cases b with
 | none=>simp only[Ge]at h;subst h;rfl
 | some a=>
  have f:=f GH;show Sem.run P (loadCells a (n*g)) w=_;rw[<-f];unfold loadCells;rw[kM (P:=P) d 0 #[] h];simp
def eM(ats:Array TypeId)(ty:TypeId)(args:Array Value):Sem Next:=do pure (.value (<-Builtin.append_ ats ty args))
def dY(sz T bytes:Nat)(zero:List Value)(base:Option Addr)(n c:Nat)(xb:Option Addr)(m:Nat)(H:Array Obj)(K:Option Addr->Nat->Array Obj->Prop):Prop:=
 ∃xs:List Value,bV H xb xs/\(xb≠none->xs.length=m*sz)/\kF xs=true/\
  (n+m<=c->fY base (K none c H) (λa=>aF H (a.add (n*sz)) 0 xs.length/\K (some a) c (aL H (a.add (n*sz)) xs 0)))/\
  (c<n+m-> ∃ys:List Value,bV H base ys/\(base≠none->ys.length=n*sz)/\Builtin.nextslicecap (n+m) c*bytes<=2 ^ 48/\
   ∀(c' b:Nat) (H':Array Obj),n+m<=c'->b=H.size->H'=H.push (.cells ((ys++xs).toArray++Builtin.zeroCells zero.toArray (c'-(n+m))) T)->K (some ⟨b,0,none⟩) c' H')
theorem cT{P:Program}{H:Array Obj}{ty sT N T sz bytes:Nat}{zero:Value}{f:TypeInfo}{K:Option Addr->Nat->Array Obj->Prop}{i O:Option Addr}{n c m xc:Nat}{d:TypeDesc}
  (hu:P.underlying sT=some (.slice T)) (I:P.underlying N=some d) (hd:(match d with | .int _=>true | _=>false)=false)
  (Z:P.info? T=some f) (a3:f.size=sz) (hb:f.bytes=bytes) (V:bytes≠0) (hz:f.zero=some zero)
  (h:dY sz T bytes zero.cells.toList i n c O m H K):
  SS P (eM #[sT,N] ty #[vs i n c,vs O m xc]) H (λv H'=> ∃b' c',v=vs b' (n+m) c'/\K b' c' H'):=λw s=>by
 obtain⟨D,hx,J,G,F,z⟩:=h;have j: ∀k,d≠.int k:=λk hk=>by subst hk;simp at hd
 have ak:(Sem.run P (do let r<-underlying N;pure (match r with | .int _=>true | _=>false):Sem Bool) w)=.ok false w:=by
  rw[Ek (x:=d) (w':=w) (by simp[underlying,program,Sem.run,I,EO,pure,Result.andThen])];cases d<;>first | rfl | exact absurd rfl (j _)
 have g: ∀w,(sizeOf T).run P w=.ok sz w:=λw=>by simp[sizeOf,typeInfo,program,Sem.run,EO,Z,a3,pure,Result.andThen]
 have B: ∀w,(typeInfo T).run P w=.ok f w:=λw=>by simp[typeInfo,program,Sem.run,EO,Z,pure,Result.andThen]
 have a5: ∀w,(zeroValue T).run P w=.ok zero w:=λw=>by simp[zeroValue,typeInfo,program,Sem.run,EO,Z,hz,pure,Result.andThen]
 have C: ∀w,(underlying sT).run P w=.ok (.slice T) w:=λw=>by simp[underlying,program,Sem.run,hu,EO,pure,Result.andThen]
 have l: ∀w,(underlying N).run P w=.ok d w:=λw=>by simp[underlying,program,Sem.run,I,EO,pure,Result.andThen]
 have E:(Builtin.firstCells sz m (vs O m xc)).run P w=.ok D.toArray w:=lq (by rw[s];exact hx) J;by_cases p:n+m<=c
 ·have hk:=F p
  cases i with
  | none=>
   refine⟨_,w,?_,Fy w,none,c,rfl,by rw[s];exact hk⟩;unfold eM;rw[Ek (x:=Value.slice none (n+m) c) (w':=w)]
   ·rfl
   ·unfold Builtin.append_;simp only[List.getElem?_toArray,List.getElem?_cons_zero,List.getElem?_cons_succ];rw[Ek (C w)];simp only[];rw[Ek (g w)];simp only[Fj];rw[Ek (l w)];cases d<;>first | exact absurd rfl (j _) | (simp only[EV,EM,Builtin.lenOf,Fj,Ep,EE,p];rw[Ek E];rfl)
  | some a=>
   simp only[El]at hk;obtain⟨w',a2,hs,hh⟩:=ln (P:=P) (a:=a.add (n*sz)) D 0 w G (by rw[s];exact hk.1);refine⟨_,w',?_,hs,some a,c,rfl,by rw[hh,s];exact hk.2⟩;unfold eM;rw[Ek (x:=Value.slice (some a) (n+m) c) (w':=w')]
   ·rfl
   ·unfold Builtin.append_;simp only[List.getElem?_toArray,List.getElem?_cons_zero,List.getElem?_cons_succ];rw[Ek (C w)];simp only[];rw[Ek (g w)];simp only[Fj];rw[Ek (l w)];cases d<;>first | exact absurd rfl (j _) | (simp only[EV,EM,Builtin.lenOf,Fj,Ep,EE,p];rw[Ek E];simp only[];rw[Ek a2];rfl)
 ·have a0:c<n+m:=GF;obtain⟨R,hy,a4,ab,hk⟩:=z a0;have Y: ∀b:World,b.heap=w.heap->(Builtin.firstCells sz n (vs i n c)).run P b=.ok R.toArray b:=λb U=>lq (by rw[U,s];exact hy) a4;have X: ∀b:World,b.heap=w.heap->(Builtin.firstCells sz m (vs O m xc)).run P b=.ok D.toArray b:=λb U=>lq (by rw[U,s];exact hx) J
  let q:Question:=.appendCap (n+m) c T
  let t:Nat:=q.cut (w.tape w.drawn q)
  have a1:n+m<=t:=Nat.le_add_right _ _
  let b:World:={w with drawn:=w.drawn+1}
  let o:Obj:=.cells ((R++D).toArray++Builtin.zeroCells zero.cells (t-(n+m))) T
  let M:World:={b with heap:=b.heap.push o}
  refine⟨vs (some ⟨w.heap.size,0,none⟩) (n+m) t,M,?_,⟨rfl,rfl,rfl,Nat.le_succ _⟩,_,t,rfl,?_⟩
  ·have W:(choose q:Sem Nat).run P w=.ok t b:=by
    show Sem.run P (Sem.choose q Sem.pure) w=_;simp only[Sem.run,q,Question.forced,EV,EM];rfl
   have A: ∀k,(askRoom k:Sem Unit).run P b=.ok () b:=λk=>by
    unfold askRoom;split<;>rfl
   unfold eM;rw[Ek (x:=Value.slice (some ⟨w.heap.size,0,none⟩) (n+m) t) (w':=M)]
   ·rfl
   ·unfold Builtin.append_;simp only[List.getElem?_toArray,List.getElem?_cons_zero,List.getElem?_cons_succ];rw[Ek (C w)];simp only[];rw[Ek (g w)];simp only[Fj];rw[Ek (l w)];have u: ¬(Builtin.nextslicecap (n+m) c*bytes>2 ^ 48):=GF
    cases d<;>first | exact absurd rfl (j _) | (
     simp only[EV,EM,Builtin.lenOf,Fj,Ep,EE,p,false_or];rw[Ek (B w)];simp only[hb,V,and_false,EM];rw[Ek (B w)];simp only[hb,u,EM];rw[Ek W];rw[Ek (B b)];rw[Ek (A _)];rw[Ek (Y b rfl)];rw[Ek (X b rfl)];rw[Ek (a5 b),show R.toArray++D.toArray=(R++D).toArray by simp];rfl)
  ·show K (some ⟨w.heap.size,0,none⟩) t M.heap;exact hk t w.heap.size M.heap a1 (by rw[s]) (by show w.heap.push o=_;rw[s])
def lr(t:TypeId)(l c:Value):Sem Next:=do pure (.value (<-Instr.makeSlice t l c))
theorem te{P:Program}{H:Array Obj}{t T:TypeId}{a:TypeInfo}{zero:Value}{l c:Int}(C:P.underlying t=some (.slice T))(h:P.info? T=some a)(D:a.zero=some zero)
  (G:0<=l) (I:l<=c) (J:a.bytes*c<=2 ^ 48) (M:c<=9223372036854775807) (p:a.size=zero.cells.size) (q:a.size≠0):
  SS P (lr t (vi l) (vi c)) H (λv H'=>v=vs (some ⟨H.size,0,none⟩) l.toNat c.toNat/\H'=H.push (.cells (Builtin.zeroCells zero.cells c.toNat) T)):=λw m=>by
 have i: ∀w,(typeInfo T).run P w=.ok a w:=λw=>by simp[typeInfo,program,Sem.run,EO,h,pure,Result.andThen]
 have o: ∀w,(zeroValue T).run P w=.ok zero w:=λw=>by simp[zeroValue,typeInfo,program,Sem.run,EO,h,D,pure,Result.andThen]
 have j: ∀w,(underlying t).run P w=.ok (.slice T) w:=λw=>by simp[underlying,program,Sem.run,C,EO,pure,Result.andThen]
 have g: ∀w,(sizeOf T).run P w=.ok a.size w:=λw=>by simp[sizeOf,typeInfo,program,Sem.run,EO,h,pure,Result.andThen]
 have d: ∀k,(askRoom k:Sem Unit).run P w=.ok () w:=λk=>by
  unfold askRoom;split<;>rfl
 have F:IntKind.wrap .i64 l=l:=Go.IntWalk.i64_in l GF;have E:IntKind.wrap .i64 c=c:=Go.IntWalk.i64_in c GF;refine⟨_,{w with heap:=w.heap.push (.cells (Builtin.zeroCells zero.cells c.toNat) T)},?_,⟨rfl,rfl,rfl,Er _⟩,rfl,by rw[m]⟩;unfold lr;rw[Ek (x:=Value.slice (some ⟨H.size,0,none⟩) l.toNat c.toNat) (w':={w with heap:=w.heap.push (.cells (Builtin.zeroCells zero.cells c.toNat) T)})]
 ·rfl
 ·unfold Instr.makeSlice;rw[Ek (j w)];simp only[asInt,asIntOf,Fj];rw[Ek (i w)];simp only[F,E];have s: ¬(c<0):=GF;have u: ¬((a.bytes:Int)*c>2 ^ 48):=GF;have z: ¬(l<0):=GF;have A: ¬(l>c):=GF;simp only[s,u,z,A,decide_false,Bool.or_false,Bool.false_or,EV,EM];rw[Ek (d _),Ek (g w)];by_cases b:c.toNat*a.size=0
  ·have r:Builtin.zeroCells zero.cells c.toNat= #[]:=by unfold Builtin.zeroCells;rw[<-p,b];simp
   simp only[b,EE];rw[r,<-m];have B: ∀f:Nat->Value,Array.map f (Array.range 0)= #[]:=λf=>GH;rw[B];rfl
  ·simp only[b,EM];rw[Ek (o w),<-m];unfold Builtin.zeroCells;rw[<-p];rfl
structure Ext (H H':Array Obj):Prop where
 size:H.size<=H'.size
 old: ∀i,i<H.size->H'[i]?=H[i]?
theorem Ext.refl(H:Array Obj):Ext H H:=⟨Er _,λ_ _=>rfl⟩
theorem ED:type_of% @Ext.refl:=@Ext.refl
theorem Ext.trans{a b c:Array Obj}(h:Ext a b)(k:Ext b c):Ext a c:=
 ⟨Fe h.size k.size,λi d=>(k.old i (Fh d h.size)).trans (h.old i d)⟩
theorem Ext.push(H:Array Obj)(o:Obj):Ext H (H.push o):=
 ⟨GH,λi a=>by rw[Array.getElem?_push,kb GF]⟩
theorem Ext.push'{H H':Array Obj}{o:Obj}(h:H'=H.push o):Ext H H':=h▸Ext.push H o
theorem Eh:type_of% @Ext.push':=@Ext.push'
theorem Ext.get{H H':Array Obj}(h:Ext H H'){b:Nat}{o:Obj}(a:H[b]?=some o):H'[b]?=some o:=by
 have:b<H.size:=by
  rcases EC b H.size with h | h
  ·exact h
  ·simp[Array.getElem?_eq_none h]at a
 rw[h.old b this];exact a
theorem Ext.hat{H H':Array Obj}(h:Ext H H'){a:Addr}{v:Value}(b:hat H a=some v):hat H' a=some v:=by
 unfold Go.Proofs.YtillhdiiglamhaaGreatDoor.hat at*
 cases d:H[a.block]? with
 | none=>simp[d]at b
 | some o=>rw[h.get d];rw[d]at b;exact b
theorem aK{H H':Array Obj}{b:Nat}{o:Obj}(d:b=H.size)(a:H'=H.push o):H'[b]?=some o:=by
 subst d;subst a;simp
theorem aS{H:Array Obj}{b:Nat}{o:Obj}(h:H[b]?=some o):b<H.size:=by
 rcases EC b H.size with a | a
 ·exact a
 ·simp[Array.getElem?_eq_none a]at h
theorem aW{H:Array Obj}{b o:Nat}{a:Array Value}{f:Nat×Nat}(h:H[b]?=some (.cells a d f)):hat H ⟨b,o,none⟩=a[o]?:=by
 unfold hat;simp[h]
theorem uZ{H:Array Obj}{b o:Nat}{a:Array Value}(h:H[b]?=some (.cells a d (0,0)))(f:o<a.size):oH H ⟨b,o,none⟩:=by
 refine⟨by rw[aW h];simp[f],?_⟩;unfold Dh;simp[h]
theorem cZ{H:Array Obj}{b:Nat}{a:Array Value}{T:TypeId}(h:H[b]?=some (.cells a T (0,0))): ∀(n o i:Nat),o+i+n<=a.size->aF H ⟨b,o,none⟩ i n
 | 0,_,_,_=>trivial
 | n+1,o,i,hn=>⟨by rw[Ej];exact uZ h GF,cZ h n o (i+1) GF⟩
def bR(H:Array Obj)(b:Nat)(o:Obj):Array Obj:=H.setIfInBounds b o
theorem bL{H:Array Obj}{b:Nat}{o:Obj}(a:b<H.size):(bR H b o)[b]?=some o:=by
 unfold bR;simp[a]
theorem iz{H:Array Obj}{b a:Nat}{o:Obj}(d:b≠a):(bR H b o)[a]?=H[a]?:=by
 unfold bR;rw[Array.getElem?_setIfInBounds_ne d]
@[simp] theorem setBlk_size {H:Array Obj} {b:Nat} {o:Obj}:(bR H b o).size=H.size:=by unfold bR;simp
theorem oZ{H:Array Obj}{b:Nat}{o:Obj}(h:H[b]?=some o):bR H b o=H:=by
 refine Gs λi=>?_;by_cases a:b=i
 ·subst a;rw[bL (aS h),h]
 ·rw[iz a]
theorem nW{H:Array Obj}{b:Nat}{o a:Obj}:bR (bR H b o) b a=bR H b a:=by
 unfold bR;simp
def splice(cs:Array Value)(o:Nat):List Value->Array Value
 | []=>cs
 | v::vs=>splice (cs.setIfInBounds o v) (o+1) vs
@[simp] theorem Fo (cs:Array Value): ∀(vs:List Value) (o:Nat),(splice cs o vs).size=cs.size
 | [],_=>rfl
 | v::vs,o=>by simp only[splice];rw[Fo _ vs (o+1)];simp
theorem eN(a:Array Value): ∀(vs:List Value) (o i:Nat),i<o->(splice a o vs)[i]?=a[i]?
 | [],_,_,_=>rfl
 | v::vs,o,i,h=>by simp only[splice];rw[eN _ vs (o+1) i GF,Array.getElem?_setIfInBounds_ne GF]
theorem gt(a:Array Value): ∀(vs:List Value) (o i:Nat),o+vs.length<=i->(splice a o vs)[i]?=a[i]?
 | [],_,_,_=>rfl
 | v::vs,o,i,h=>by
  simp only[List.length_cons]at h;simp only[splice];rw[gt _ vs (o+1) i GF,Array.getElem?_setIfInBounds_ne GF]
theorem fE(a:Array Value): ∀(vs:List Value) (o j:Nat),o+vs.length<=a.size->j<vs.length->(splice a o vs)[o+j]?=vs[j]?
 | [],_,_,_,h=>by simp at h
 | v::vs,o,0,h,_=>by
  simp only[List.length_cons]at h;simp only[splice,Nat.add_zero,List.getElem?_cons_zero];rw[eN _ vs (o+1) o GF];have b:o<a.size:=GF;simp[b]
 | v::vs,o,j+1,h,hj=>by
  simp only[List.length_cons]at h hj;simp only[splice,List.getElem?_cons_succ];have:=fE (a.setIfInBounds o v) vs (o+1) j (by simp;omega) GF;rw[show o+(j+1)=o+1+j by omega];exact this
theorem yb{H:Array Obj}{b o:Nat}{f:Array Value}{g:Nat×Nat}(h:H[b]?=some (.cells f d g))(v:Value):Bq H ⟨b,o,none⟩ v=bR H b (.cells (f.setIfInBounds o v) d g):=by
 refine Gs λi=>?_;unfold Bq;rw[Array.getElem?_modify];by_cases a:b=i
 ·subst a;rw[ka rfl,h,bL (aS h)];rfl
 ·rw[kb a,iz a]
theorem dX{b:Nat}{T:TypeId}{d:Nat×Nat}: ∀(vs:List Value) (H:Array Obj) (a:Array Value) (o i:Nat),H[b]?=some (.cells a T d)->aL H ⟨b,o,none⟩ vs i=bR H b (.cells (splice a (o+i) vs) T d)
 | [],H,a,o,i,h=>by simp only[aL,splice];rw[oZ h]
 | v::vs,H,a,o,i,h=>by
  simp only[aL,Ej,splice];rw[yb h,dX vs _ (a.setIfInBounds (o+i) v) o (i+1) (bL (aS h)),nW,show o+(i+1)=o+i+1 by omega]
theorem cX{H:Array Obj}{b:Nat}{a:Array Value}{T:TypeId}{d:Nat×Nat}(h:H[b]?=some (.cells a T d)): ∀(vs:List Value) (o i:Nat),(∀j,j<vs.length->a[o+i+j]?=vs[j]?)->aI H ⟨b,o,none⟩ i vs
 | [],_,_,_=>trivial
 | v::vs,o,i,hv=>⟨by rw[Ej,aW h];have:=hv 0 GH;simpa using this,
   cX h vs o (i+1) λj f=>by have:=hv (j+1) (by simp;omega);rw[show o+(i+1)+j=o+i+(j+1)by omega,this];simp⟩
theorem gM{H:Array Obj}{a:Addr}: ∀{vs:List Value} {i:Nat},aI H a i vs-> ∀j v,vs[j]?=some v->hat H (a.add (i+j))=some v
 | [],_,_,j,v,hv=>by simp at hv
 | u::vs,i,h,0,v,hv=>by simp at hv;subst hv;exact h.1
 | u::vs,i,h,j+1,v,hv=>by
  have:=gM h.2 j v (by simpa using hv);rw[show i+(j+1)=i+1+j by omega];exact this
theorem Ext.rowAt{H H':Array Obj}(h:Ext H H'){a:Addr}: ∀{vs:List Value} {i:Nat},aI H a i vs->aI H' a i vs
 | [],_,_=>trivial
 | _::_,_,hr=>⟨h.hat hr.1,Ext.rowAt h hr.2⟩
theorem Ext.set{a H:Array Obj}(h:Ext a H){b:Nat}{o:Obj}(f:a.size<=b):Ext a (bR H b o):=
 ⟨by simpa using h.size,λi d=>by rw[iz GF];exact h.old i d⟩
theorem E7{H H1:Array Obj}{b:Nat}{f:Array Value}{vs:List Value}{n:Nat}(g:H[b]?=some (.cells f d (0,0)))(hn:f.size=n)(m:vs.length=n):
  aF H ⟨b,0,none⟩ 0 n/\(∀H1,H1=aL H ⟨b,0,none⟩ vs 0->aI H1 ⟨b,0,none⟩ 0 vs/\ ∀a:Array Obj,Ext a H->a.size<=b->Ext a H1):=by
 refine⟨cZ g n 0 0 GF,λH1 k=>?_⟩;rw[dX vs H f 0 0 g]at k;subst k;refine⟨cX (bL (aS g)) vs 0 0 λj l=>?_,λa h i=>h.set i⟩;rw[show 0+0+j=0+j by omega];exact fE f vs 0 j GF l
theorem HC.via{P:Program}{f:FuncId}{args:Array Value}{H:Array Obj}{a:Value->Array Obj->Prop}(h: ∀R:Value->Array Obj->Prop,(∀v H',a v H'->R v H')->HC P f args H R):HC P f args H a:=h a λ_ _ h=>h
theorem Ei:type_of% @HC.via:=@HC.via
abbrev aO(w:Int):Prop:=0<=w/\w<18446744073709551616
theorem n5{n:Int}(h: -9223372036854775808<=n/\n<=9223372036854775807):IntKind.wrap .i64 n=n:=Go.IntWalk.i64_in n h
theorem BN{n:Int}(h:0<=n/\n<=18446744073709551615):IntKind.wrap .u64 n=n:=Go.IntWalk.u64_in n h
theorem CQ{n:Int}(h: -2147483648<=n/\n<=2147483647):IntKind.wrap .i32 n=n:=Go.IntWalk.i32_in n h
theorem Df{n:Int}(h:0<=n/\n<=4294967295):IntKind.wrap .u32 n=n:=Go.IntWalk.u32_in n h
theorem nX(n:Int):IntKind.wrap .u64 n=n % 18446744073709551616:=by
 unfold IntKind.wrap;simp only[IntKind.bits,IntKind.signed,FM,EV,EM];rfl
theorem nY(n:Int):IntKind.wrap .u32 n=n % 4294967296:=by
 unfold IntKind.wrap;simp only[IntKind.bits,IntKind.signed,FM,EV,EM];rfl
theorem zg(n:Int):IntKind.wrap .i64 n=(if n % 18446744073709551616>=9223372036854775808 then n % 18446744073709551616-18446744073709551616 else n % 18446744073709551616):=by
 unfold IntKind.wrap;have a:(2:Int) ^ IntKind.i64.bits=18446744073709551616:=GG;have b:(2:Int) ^ (IntKind.i64.bits-1)=9223372036854775808:=GG;simp only[a,b,IntKind.signed,Bool.true_and,Ex]
theorem kN{x:Int}(a:0<=x)(b:x<18446744073709551616):(BitVec.ofInt IntKind.u64.bits x).toNat=x.toNat:=by
 rw[Gr];show(x % ((2 ^ 64:Nat):Int)).toNat=_;rw[Fu a (by simpa using b)]
theorem tR{x y:Int}(a:0<=x/\x<18446744073709551616)(b:0<=y/\y<18446744073709551616):l3 .u64 x y=((x.toNat &&& y.toNat:Nat):Int):=by
 unfold l3;rw[BitVec.toNat_and,kN a.1 a.2,kN b.1 b.2];apply BN;have:x.toNat &&& y.toNat<=x.toNat:=Nat.and_le_left;omega
theorem mb{x y:Int}(a:0<=x/\x<18446744073709551616)(b:0<=y/\y<18446744073709551616):mp .u64 x y=((x.toNat ||| y.toNat:Nat):Int):=by
 unfold mp;rw[BitVec.toNat_or,kN a.1 a.2,kN b.1 b.2];apply BN;have:x.toNat ||| y.toNat<2 ^ 64:=Nat.or_lt_two_pow GF GF;omega
theorem rR{x:Int}(b:Nat)(g:b<64)(f:0<=x/\x<18446744073709551616)(m:Int)(hm:m=2 ^ b-1):l3 .u64 x m=x % (2 ^ b:Int):=by
 have h:(0:Int)<2 ^ b:=Int.pow_pos GG;have d:(2:Nat) ^ b<=2 ^ 63:=Gq GG GF;have a:((2 ^ b:Nat):Int)=(2:Int) ^ b:=GH;rw[tR f GF,hm];have e:((2:Int) ^ b-1).toNat=2 ^ b-1:=GF;rw[e,Nat.and_two_pow_sub_one_eq_mod];have:x=(x.toNat:Int):=GF;rw[Int.natCast_emod,a,<-this]
theorem lI{x y:Int}(b:Nat)(k:0<=x/\x<18446744073709551616)(h:x % (2 ^ b:Int)=0)(l:0<=y/\y< (2 ^ b:Int))(g:b<=64):mp .u64 x y=x+y:=by
 have a:((2 ^ b:Nat):Int)=(2:Int) ^ b:=GH;have j:(2:Nat) ^ b<=2 ^ 64:=Gq GG g;rw[mb k GF]
 have i:x.toNat % 2 ^ b=0:=by
  have:((x.toNat % 2 ^ b:Nat):Int)=0:=by rw[Int.natCast_emod,a,show((x.toNat:Nat):Int)=x by omega];exact h
  omega
 have f:x.toNat=2 ^ b*(x.toNat / 2 ^ b):=by
  have:=Nat.div_add_mod x.toNat (2 ^ b);omega
 have d:y.toNat<2 ^ b:=GF;rw[f,<-Nat.two_pow_add_eq_or_of_lt d,<-f];omega
theorem kr{k:IntKind}{x:Int}(y:Int)(n:Nat)(a:y=n)(hn:n<=k.bits):o0 k x y=x / (2 ^ n:Int):=by
 unfold o0;subst a;rw[show min (n:Int).toNat k.bits=n by rw[F4];exact FG hn];rw[Int.fdiv_eq_ediv_of_nonneg _ (Int.pow_nonneg GG)]
theorem kt{x:Int}(y:Int)(n:Nat)(a:y=n)(hn:n<=64):k8 .u64 x y=(x*2 ^ n) % 18446744073709551616:=by
 unfold k8;subst a;rw[show min (n:Int).toNat IntKind.u64.bits=n by rw[F4];exact FG hn,nX]
theorem yc{x:Int}(y:Int)(n:Nat)(a:y=n)(hn:n<=64):k8 .i64 x y=IntKind.wrap .i64 (x*2 ^ n):=by
 unfold k8;subst a;rw[show min (n:Int).toNat IntKind.i64.bits=n by rw[F4];exact FG hn]
theorem lT{x y:Int}(a:0<=x):Int.tdiv x y=x / y:=Int.tdiv_eq_ediv_of_nonneg a
theorem lU{x y:Int}(a:0<=x):Int.tmod x y=x % y:=Gx a
theorem zZ{b:Bool}(h:¬b=true):b=false:=eq_false_of_ne_true h
theorem zX{p:Prop}[Decidable p](h:p):decide p=true:=decide_eq_true h
theorem zQ{p:Prop}[Decidable p](h:¬p):decide p=false:=decide_eq_false h
theorem zJ{α:Type}[BEq α][LawfulBEq α]{a b:α}(h:a≠b):(a==b)=false:=beq_eq_false_iff_ne.mpr h
theorem zK{α:Type}[BEq α][LawfulBEq α]{a b:α}(h:a=b):(a==b)=true:=Fc.mpr h
theorem GB:True:=trivial
theorem GA:type_of% @List.getElem_append_right:=@List.getElem_append_right
theorem Gv:type_of% @of_decide_eq_true:=@of_decide_eq_true
theorem Gt:type_of% @List.getElem_append_left:=@List.getElem_append_left
theorem Gn:type_of% @List.mem_append_right:=@List.mem_append_right
theorem Gh:type_of% @List.getElem_of_mem:=@List.getElem_of_mem
theorem Gf:type_of% @List.length_eq_zero_iff:=@List.length_eq_zero_iff
theorem FV:type_of% @Nat.mul_le_mul_right:=@Nat.mul_le_mul_right
theorem Fz:type_of% @Nat.add_mul:=@Nat.add_mul
theorem Fp:type_of% @List.mem_append_left:=@List.mem_append_left
theorem Fm:type_of% @Nat.zero_le:=@Nat.zero_le
theorem E9:type_of% @List.append_nil:=@List.append_nil
theorem E3:type_of% @List.length_append:=@List.length_append
theorem E2:type_of% @List.length_map:=@List.length_map
theorem EZ:type_of% @List.mem_map:=@List.mem_map
theorem EJ:type_of% @bind_assoc:=@bind_assoc
theorem EG:type_of% @Nat.mul_one:=@Nat.mul_one
theorem Eu:type_of% @List.getElem_mem:=@List.getElem_mem
theorem Eo:type_of% @Nat.zero_add:=@Nat.zero_add
variable{H g:zV}{a:TypeId}{b:zW}{d:List Value}
structure Fr (S:List Nat) (H H':zV):Prop where
 size:H.size<=H'.size
 old: ∀i,i<H.size->i ∉ S->H'[i]?=H[i]?
theorem Fr.refl(S:List Nat)(H:zV):Fr S H H:=⟨Er _,λ_ _ _=>rfl⟩
theorem Ey:type_of% @Fr.refl:=@Fr.refl
theorem Fr.trans'{S b S'':List Nat}{c:zV}(h:Fr S H g)(k:Fr b g c)(d: ∀i,i∈S->i<H.size->i∈S'')(e: ∀i,i∈b->i<H.size->i∈S''):Fr S'' H c:=
 ⟨Fe h.size k.size,λi a hn=>(k.old i (Fh a h.size) (λhm=>hn (e i hm a))).trans (h.old i a (λhm=>hn (d i hm a)))⟩
theorem Fr.trans{S:List Nat}{a b c:zV}(h:Fr S a b)(k:Fr S b c):Fr S a c:=h.trans' k (λ_ h _=>h) (λ_ h _=>h)
theorem Fr.mono{S c:List Nat}{a b:zV}(h:Fr S a b)(e: ∀i,i∈S->i<a.size->i∈c):Fr c a b:=
 ⟨h.size,λi d hn=>h.old i d λhm=>hn (e i hm d)⟩
theorem Ext.fr{S:List Nat}(h:Ext H g):Fr S H g:=⟨h.size,λi a _=>h.old i a⟩
theorem Fr.ext{S:List Nat}{a b:zV}(h:Fr S a b)(d: ∀i,i∈S->a.size<=i):Ext a b:=
 ⟨h.size,λi c=>h.old i c λhm=>by have:=d i hm;omega⟩
theorem Ext.fr_trans{S:List Nat}{c:zV}(h:Ext H g)(k:Fr S g c)(b: ∀i,i∈S->H.size<=i):Ext H c:=
 ⟨Fe h.size k.size,λi a=>(k.old i (Fh a h.size) λhm=>by have:=b i hm;omega).trans (h.old i a)⟩
theorem Fr.get{S:List Nat}(h:Fr S H g){b:Nat}{o:Obj}(hn:b ∉ S)(a:H[b]?=some o):g[b]?=some o:=by
 rw[h.old b (aS a) hn];exact a
theorem Fr.set{b:Nat}{o:Obj}:Fr [b] H (bR H b o):=
 ⟨GH,λi _ a=>by rw[iz (by simp at a;omega)]⟩
theorem Ez:type_of% @Fr.set:=@Fr.set
theorem Fr.hat{S:List Nat}{H d:zV}(h:Fr S H d){a:Addr}{v:Value}(hn:a.block ∉ S)(b:hat H a=some v):hat d a=some v:=by
 unfold Go.Proofs.YtillhdiiglamhaaGreatDoor.hat at*
 cases c:H[a.block]? with
 | none=>simp[c]at b
 | some o=>rw[h.get hn c];rw[c]at b;exact b
theorem Fr.rowAt{S:List Nat}{H b:zV}(h:Fr S H b){a:Addr}(hn:a.block ∉ S): ∀{vs:List Value} {i:Nat},aI H a i vs->aI b a i vs
 | [],_,_=>trivial
 | _::_,_,hr=>⟨h.hat (by rw[show(a.add _).block=a.block by unfold Addr.add;split<;>rfl];exact hn) hr.1,Fr.rowAt h hn hr.2⟩
def Own(H:zV)(T:TypeId)(sz:Nat)(p:zW)(n c:Nat)(xs:List Value):Prop:=
 match p with
 | none=>n=0/\c=0/\xs=[]
 | some a=>a=⟨a.block,0,none⟩/\ ∃cs:Array Value,H[a.block]?=some (.cells cs T (0,0))/\cs.size=c*sz/\n<=c/\xs.length=n*sz/\ ∀j,j<n*sz->cs[j]?=xs[j]?
def l6(p:zW):List Nat:=match p with | none=> [] | some a=> [a.block]
@[simp] theorem blks_none:l6 none=[]:=rfl
@[simp] theorem blks_some {a:Addr}:l6 (some a)=[a.block]:=rfl
theorem gW{b:Nat}:Own H a b none 0 0 []:=⟨rfl,rfl,rfl⟩
theorem Own.len{H:zV}{T:TypeId}{sz n c:Nat}(h:Own H T sz b n c d):d.length=n*sz:=by
 cases b with
 | none=>obtain⟨rfl,rfl,rfl⟩:=h;simp
 | some a=>obtain⟨_,e,_,_,_,h,_⟩:=h;exact h
theorem Own.le{e n c:Nat}(h:Own H a e b n c d):n<=c:=by
 cases b with
 | none=>obtain⟨rfl,rfl,rfl⟩:=h;exact Er _
 | some g=>obtain⟨_,f,_,_,h,_,_⟩:=h;exact h
theorem Own.keep{S:List Nat}{T:TypeId}{e n c:Nat}(h:Own H T e b n c d)(k:Fr S H g)(l: ∀o,o∈l6 b->o ∉ S):Own g T e b n c d:=by
 cases b with
 | none=>exact h
 | some a=>obtain⟨i,f,j,m⟩:=h;exact⟨i,f,k.get (l _ GH) j,m⟩
theorem Own.ext{e n c:Nat}(h:Own H a e b n c d)(k:Ext H g):Own g a e b n c d:=
 h.keep (S:=[]) k.fr (λ_ _=>GH)
theorem Own.lt{f n c:Nat}{p:zW}(h:Own H a f p n c d): ∀b,b∈l6 p->b<H.size:=by
 cases p with
 | none=>intro b e;simp at e
 | some i=>obtain⟨_,g,e,_⟩:=h;intro b hm;simp at hm;subst hm;exact aS e
theorem Own.at{H:zV}{T:TypeId}{sz n c:Nat}{p:zW}{b:List Value}(h:Own H T sz p n c b){j:Nat}{v:Value}(d:b[j]?=some v): ∃a,p=some a/\hat H (a.add j)=some v:=by
 have i:j<b.length:=by
  rcases EC j b.length with h | h
  ·exact h
  ·simp[List.getElem?_eq_none h]at d
 cases p with
 | none=>obtain⟨rfl,rfl,rfl⟩:=h;simp at i
 | some a=>
  obtain⟨e,k,f,_,_,l,g⟩:=h;refine⟨a,rfl,?_⟩;rw[e,Ej,aW f,Eo,g j GF,d]
theorem jS{H:zV}{a:Addr}: ∀{vs:List Value} {i:Nat},(∀j v,vs[j]?=some v->hat H (a.add (i+j))=some v)->aI H a i vs
 | [],_,_=>trivial
 | v::vs,i,h=>⟨by have:=h 0 v rfl;simpa using this,jS λj u b=>by have:=h (j+1) u (by simpa using b);rw[show i+1+j=i+(j+1)by omega];exact this⟩
theorem Own.src{i n c:Nat}(h:Own H a i b n c d):bV H b d:=by
 cases b with
 | none=>obtain⟨rfl,rfl,rfl⟩:=h;rfl
 | some l=>
  refine jS λj v g=>?_;obtain⟨k,e,f⟩:=h.at g;cases e;rw[Eo];exact f
theorem lu{z:Array Value}{n:Nat}:(Builtin.zeroCells z n).size=n*z.size:=by
 unfold Builtin.zeroCells;simp
theorem np{z:Array Value}{n k j:Nat}(hk:k<n)(a:j<z.size):(Builtin.zeroCells z n)[k*z.size+j]?=z[j]?:=by
 have b:(k+1)*z.size<=n*z.size:=FV _ hk;rw[Fz,Nat.one_mul]at b;unfold Builtin.zeroCells;rw[Array.getElem?_map,Array.getElem?_range];rw[ka GF];simp only[Option.map_some];rw[show(k*z.size+j) % z.size=j by rw[Nat.add_comm,Nat.add_mul_mod_self_right,Nat.mod_eq_of_lt a]];rw[getElem!_pos z j a,Array.getElem?_eq_getElem a]
theorem dE{d e n c m:Nat}{q:zW}{g xs ys:List Value}{K:zW->Nat->zV->Prop}
  (h:Own H a d b n c xs) (L:bV H q ys) (i:ys.length=m*d) (r:kF ys=true) (N:g.length=d) (o:(n+m)*e<=140737488355328)
  (x: ∀D t k,Own k a d D (n+m) t (xs++ys)->Fr (l6 b) H k->(∀Q,Q∈l6 D->Q∈l6 b\/H.size<=Q)->K D t k):
  dY d a e g b n c q m H K:=by
 refine⟨ys,L,λ_=>i,r,λp=>?_,λC=>?_⟩
 ·cases b with
  | none=>
   obtain⟨rfl,rfl,rfl⟩:=h;have hm:m=0:=GF;subst hm;have M:ys=[]:=Gf.1 GF;subst M;exact x none 0 H ⟨rfl,rfl,rfl⟩ (Ey _ _) (λQ f=> .inl f)
  | some P=>
   obtain⟨E,u,f,F,hn,s,I⟩:=h;have J:n*d+m*d<=u.size:=by rw[F,<-Fz];exact FV _ p
   have G:P.add (n*d)=⟨P.block,n*d,none⟩:=by rw[E];simp
   rw[El,G];refine⟨by rw[i];exact cZ f _ _ _ GF,?_⟩;rw[dX ys H u (n*d) 0 f,Nat.add_zero];refine x (some P) c _ ⟨E,splice u (n*d) ys,bL (aS f),by rw[Fo];exact F,p,by rw[E3,s,i,Fz],λj A=>?_⟩ Ez (λQ f=> .inl f);rw[Fz]at A;rcases EC j (n*d)with w | w
   ·rw[eN _ _ _ _ w,I j w,List.getElem?_append_left GF]
   ·have B:j=n*d+(j-n*d):=GF;rw[B,fE u ys (n*d) (j-n*d) GF GF,List.getElem?_append_right GF,s];congr 1;omega
 ·have v:=h.len;refine⟨xs,h.src,λ_=>v,growslice_fits C o,λt Q k z f l=>?_⟩;refine x _ t k ⟨rfl,_,aK f l,?_,z,by rw[E3,v,i,Fz],λj A=>?_⟩ ((Eh l).fr) (λO y=> .inr (by simp at y;omega))
  ·rw[Array.size_append,lu];simp only[List.size_toArray,E3,v,i,N];rw[<-Fz,<-Fz];congr 1;omega
  ·rw[Fz]at A;rw[Array.getElem?_append_left (by simp only[List.size_toArray,E3,v,i];omega)];simp
