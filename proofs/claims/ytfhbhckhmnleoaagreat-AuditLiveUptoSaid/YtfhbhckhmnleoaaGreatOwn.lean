/-
 A calculus of sparse frames over Code.wpIn (in a function, or in a round of a range over a function): environments (slot, value), judgements At / RegN / RegQ, laws for each kind of operation. Proves nothing of any one program.
-/
import Derived.Calls
import Derived.Orders
import Derived.OrdersIn
import Derived.TacticsIn
import Derived.RangeFuncRecord
import Derived.Sort.LoopGhostIn
import Derived.Deep.Quiet
import Derived.Deep.LoopGhost
import Derived.KernelRfl
import Derived.Laws.Sem
import Derived.IntWalk
import Derived.Laws.Append
set_option linter.unusedVariables false
set_option linter.unusedSimpArgs false
namespace Go.Proofs.YtfhbhckhmnleoaaGreat
open Go
theorem EH:type_of% @Nat.pow_le_pow_right:=@Nat.pow_le_pow_right
theorem EG:type_of% @List.take_append_drop:=@List.take_append_drop
theorem EE:type_of% @List.all_eq_true:=@List.all_eq_true
theorem Ey:type_of% @callsIn_wide:=@callsIn_wide
theorem Ex:type_of% @CallsIn.mono:=@CallsIn.mono
theorem Eg:type_of% @Act.put_comm:=@Act.put_comm
theorem Ee:type_of% @List.mem_cons_self:=@List.mem_cons_self
theorem D8:type_of% @List.cons.injEq:=@List.cons.injEq
theorem D4:type_of% @Option.isSome_iff_exists:=@Option.isSome_iff_exists
theorem DM:type_of% @Int.toNat_natCast:=@Int.toNat_natCast
theorem DJ:type_of% @Nat.lt_of_lt_of_le:=@Nat.lt_of_lt_of_le
theorem DH:type_of% @Option.some.inj:=@Option.some.inj
theorem DD:type_of% @pure_bind:=@pure_bind
theorem DB:type_of% @Prod.mk.injEq:=@Prod.mk.injEq
theorem Dz:type_of% @Nat.le_trans:=@Nat.le_trans
theorem Dw:type_of% @Bool.or_eq_true:=@Bool.or_eq_true
theorem Dt:type_of% @List.mem_cons_of_mem:=@List.mem_cons_of_mem
theorem Dr:type_of% @Sem.run_bind:=@Sem.run_bind
theorem Dp:type_of% @Option.some.injEq:=@Option.some.injEq
theorem Dj:type_of% @Bool.false_eq_true:=@Bool.false_eq_true
theorem Df:type_of% @if_false:=@if_false
theorem C6:type_of% @Nat.lt_or_ge:=@Nat.lt_or_ge
theorem C5:type_of% @Bool.not_false:=@Bool.not_false
theorem CZ:type_of% @Bool.and_eq_true:=@Bool.and_eq_true
theorem CU:type_of% @Nat.le_refl:=@Nat.le_refl
theorem CR:type_of% @List.mem_cons:=@List.mem_cons
theorem CJ:type_of% @congrArg:=@congrArg
theorem qB{c:Prop}{h:Decidable c}(k:c){α:Sort _}{t e:α}:ite c t e=t:=if_pos k
theorem za{c:Prop}{h:Decidable c}(k:¬c){α:Sort _}{t e:α}:ite c t e=e:=if_neg k
variable{d:Value}{i:Addr}{j:TypeId}{k:Func}
abbrev vi(n:Int):Value:=.int .i64 n
abbrev vu(n:Int):Value:=.int .u64 n
abbrev vp(a:Option Addr):Value:=.pointer a
abbrev vs(b:Option Addr)(n c:Nat):Value:=.slice b n c
abbrev Vq(a:Addr):Value:=.pointer (some a)
abbrev VT:Value:=.bool true
abbrev VF:Value:=.bool false
abbrev VN:Value:=.slice none 0 0
theorem Bo{c:Prop}[Decidable c]{A B G:Prop}(k:c->A->G)(l:¬c->B->G)(h:if c then A else B):G:=by
 by_cases q:c
 ·rw[qB q]at h;exact k q h
 rw[za q]at h;exact l q h
theorem qx{c:Prop}{d:Decidable c}{A B G:Prop}(h:@ite _ c d A B)(k:c->A->G)(l:¬c->B->G):G:=Bo k l h
theorem iP_{c:Prop}[Decidable c]{A B:Prop}(h:c->A)(k:¬c->B):if c then A else B:=by
 by_cases q:c
 ·rw[qB q];exact h q
 rw[za q];exact k q
theorem iQ_{c:Prop}[Decidable c]{A B:Prop}(k:¬c->B)(h:c->A):if c then A else B:=iP_ h k
abbrev zV:=Array Obj
abbrev zW:=Option Addr
abbrev zY(n:Int):Int:=IntKind.wrap .i64 n
abbrev zv:=Value->Array Obj->Prop
abbrev zw:=Int->Array Obj->Prop
abbrev yZ(i n:Int):Prop:=(0:Int)<=i/\i<n
theorem yX{α:Type}{a:α}{l:List α}:a∈a::l:=List.Mem.head _
theorem yQ{α:Type}{b a:α}{l:List α}:a∈b::a::l:=List.Mem.tail _ (List.Mem.head _)
theorem yJ{α:Type}{b d a:α}{l:List α}:a∈b::d::a::l:=List.Mem.tail _ (List.Mem.tail _ (List.Mem.head _))
theorem yK{α:Type}{b d f a:α}{l:List α}:a∈b::d::f::a::l:=List.Mem.tail _ (List.Mem.tail _ (List.Mem.tail _ (List.Mem.head _)))
theorem yV{α:Type}{b d f g a:α}{l:List α}:a∈b::d::f::g::a::l:=List.Mem.tail _ (List.Mem.tail _ (List.Mem.tail _ (List.Mem.tail _ (List.Mem.head _))))
theorem yW{α:Type}{b d f g h a:α}{l:List α}:a∈b::d::f::g::h::a::l:=List.Mem.tail _ (List.Mem.tail _ (List.Mem.tail _ (List.Mem.tail _ (List.Mem.tail _ (List.Mem.head _)))))
variable {ds:List Deferred} {ro:Option Nat}
def Am(ro:Option Nat):Fence:={fn:=λ_=>True,depth:=none,alive:=false,round:=ro}
abbrev _root_.Go.Code.wpR(c:Code)(ro:Option Nat)(P:Program)(Q:Exit->Act->World->Prop):Act->World->Prop:=c.wpIn (Am ro) 0 P Q
abbrev Env:=List (Nat×Value)
def Env.get:Env->Nat->Option Value
 | [],_=>none
 | (k,v)::e,t=>bif Nat.beq k t then some v else Env.get e t
def kt(e:Env):Operand->Option Value
 | .tmp t=>e.get t
 | .const v=>some v
 | .global g=>some (vp (some ⟨g,0,none⟩))
 | .func f=>some (.func (.func f) #[] #[])
def Be(e:Env)(x:Operand):Value:=(kt e x).getD undef
def allIn(e:Env):List Operand->Bool
 | []=>true
 | x::l=>(kt e x).isSome && allIn e l
def mI(e:Env)(o:Oper):Bool:=(match o.op with | .select .. =>false | .defer _=>false | _=>true) && allIn e o.op.operands.toList
def lH(ops:Array Oper)(e:Env)(o:Oper):Option Bool:=
 match o.guard with
 | none=>some true
 | some (j,b)=>
  match(ops[j]?).bind (·.dst)with
  | none=>none
  | some t=>match e.get t with
   | some (.bool c)=>some (c==b)
   | some (.tuple _)=>some false
   | _=>none
def yN(n:Nat)(e:Env)(d:Option Nat)(v:Value):Option Env:=
 match d with
 | none=>some e
 | some d=>bif Nat.blt d n then some ((d,v)::e)else none
structure Agree (n:Nat) (ds:List Deferred) (e:Env) (a:Act):Prop where
 size:a.tmps.size=n
 defers:a.defers=ds
 vals: ∀t v,e.get t=some v->a.tmps[t]?=some v
structure Same (w w':World):Prop where
 os:w'.os=w.os
 tape:w'.tape=w.tape
 output:w'.output=w.output
 drawn:w.drawn<=w'.drawn
theorem Same.refl(w:World):Same w w:=⟨rfl,rfl,rfl,CU _⟩
theorem D0:type_of% @Same.refl:=@Same.refl
theorem Same.trans{a b c:World}(h:Same a b)(k:Same b c):Same a c:=⟨k.os.trans h.os,k.tape.trans h.tape,k.output.trans h.output,Dz h.drawn k.drawn⟩
theorem Env.get_cons(k:Nat)(v:Value)(e:Env)(t:Nat):Env.get ((k,v)::e) t=if k=t then some v else e.get t:=by
 simp only[Env.get]
 by_cases h:k=t
 ·subst h;simp
 ·have:Nat.beq k t=false:=by rw[<-Bool.not_eq_true,Nat.beq_eq];exact h
  simp[this,h]
theorem Agree.eval{n:Nat}{e:Env}{a:Act}(h:Agree n ds e a){x:Operand}(b:kt e x=some d):a.eval x=d:=by
 cases x with
 | tmp t=>
  have:=h.vals t d b
  simp[Act.eval,Array.getD_eq_getD_getElem?,this]
 | const i=>simpa[kt,Act.eval]using b
 | global g=>simpa[kt,Act.eval]using b
 | func f=>simpa[kt,Act.eval]using b
theorem ou{e:Env}: ∀{l:List Operand},allIn e l=true-> ∀x∈l,(kt e x).isSome=true
 | [],_,x,hx=>by cases hx
 | y::l,h,x,hx=>by
  simp only[allIn,CZ]at h
  cases hx with
  | head=>exact h.1
  | tail _ hm=>exact ou h.2 x hm
theorem Agree.exec{n:Nat}{e:Env}{a:Act}(h:Agree n ds e a){o:Oper}(d:mI e o=true):execOp a.eval o=execOp (Be e) o:=by
 simp only[mI,CZ]at d
 refine execOp_congr o (λk b i=>by rw[i]at d;simp at d) λx j=>?_
 have g:=ou d.2 x (by simpa using j)
 obtain⟨v,f⟩:=D4.1 g
 rw[h.eval f]
 simp[Be,f]
theorem Agree.sem{n:Nat}{e:Env}{a:Act}(h:Agree n ds e a){o:Oper}(b:mI e o=true):o.semAt (Am ro).round a.eval=execOp (Be e) o:=by
 rw[show(Am ro).round=ro from rfl,Oper.semAt_eq ro _ o (λc d=>by simp[mI,d]at b),h.exec b]
theorem Agree.wanted{n:Nat}{e:Env}{a:Act}(h:Agree n ds e a){ops:Array Oper}{o:Oper}{b:Bool}(d:lH ops e o=some b):Region.wanted o (yielded ops a.tmps)=b:=by
 unfold lH at d
 unfold Region.wanted
 cases i:o.guard with
 | none=>simp[i]at d;simp[d]
 | some p=>
  obtain⟨j,c⟩:=p
  simp only[i]at d
  unfold yielded
  cases f:(ops[j]?).bind (·.dst)with
  | none=>simp[f]at d
  | some t=>
   simp only[f]at d
   cases g:e.get t with
   | none=>simp[g]at d
   | some v=>
    have:=h.vals t v g
    simp only[g]at d
    simp only[]
    rw[f,Option.bind_some,this]
    cases v<;>simp at d<;>simp[<-d]
theorem Agree.put{n:Nat}{e:Env}{a:Act}(h:Agree n ds e a){d:Option Nat}{v:Value}{e':Env}(f:yN n e d v=some e'):Agree n ds e' (a.put d v):=by
 cases d with
 | none=>simp[yN]at f;subst f;exact h
 | some d=>
  simp only[yN]at f
  by_cases i:Nat.blt d n=true
  ·simp only[i,cond_true,Dp]at f
   subst f
   have j:d<n:=by simpa[Nat.blt_eq]using i
   refine⟨by simp[Act.put,h.size],h.defers,λt u g=>?_⟩
   rw[Env.get_cons]at g
   by_cases b:d=t
   ·subst b
    simp only[if_true,Dp]at g
    subst g
    have:d<a.tmps.size:=by rw[h.size];exact j
    simp[Act.put,this]
   ·rw[za b]at g
    have:=h.vals t u g
    simp only[Act.put]
    rw[Array.getElem?_setIfInBounds_ne b]
    exact this
  ·simp[i]at f
def Sub(e' e:Env):Prop:=e'.map (λp=>e.get p.1)=e'.map (λp=>some p.2)
theorem Env.get_mem{e:Env}{t:Nat}(h:e.get t=some d):(t,d)∈e:=by
 induction e with
 | nil=>cases h
 | cons p e a=>
  obtain⟨k,u⟩:=p
  rw[Env.get_cons]at h
  by_cases hk:k=t
  ·subst hk;simp only[if_true,Dp]at h;subst h;exact Ee ..
  ·rw[za hk]at h;exact Dt _ (a h)
theorem Sub.get{e' e:Env}(h:Sub e' e){t:Nat}(a:e'.get t=some d):e.get t=some d:=by
 have hm:=Env.get_mem a
 clear a
 unfold Sub at h
 induction e' with
 | nil=>cases hm
 | cons p e' b=>
  simp only[List.map_cons,D8]at h
  cases hm with
  | head=>exact h.1
  | tail _ hm=>exact b h.2 hm
theorem Agree.sub{n:Nat}{e e':Env}{a:Act}(h:Agree n ds e a)(b:Sub e' e):Agree n ds e' a:=
 ⟨h.size,h.defers,λt v d=>h.vals t v (b.get d)⟩
def fU(n:Nat)(e:Env)(d:Option Nat)(v:Value)(e':Env):Prop:=(yN n e d v).map (λe1=>e'.map (λp=>e1.get p.1))=some (e'.map (λp=>some p.2))
theorem fU.get{n:Nat}{e:Env}{f:Option Nat}{e':Env}(h:fU n e f d e'): ∃a,yN n e f d=some a/\Sub e' a:=by
 unfold fU at h
 cases b:yN n e f d with
 | none=>rw[b]at h;cases h
 | some a=>rw[b]at h;simp only[Option.map_some,Dp]at h;exact⟨a,rfl,h⟩
theorem Agree.putSub{n:Nat}{e:Env}{a:Act}(h:Agree n ds e a){j:Option Nat}{e':Env}(g:fU n e j d e'):Agree n ds e' (a.put j d):=by
 obtain⟨i,b,f⟩:=g.get
 exact(h.put b).sub f
def At(n:Nat)(ds:List Deferred)(w0:World)(e:Env)(H:Array Obj)(K:Act->World->Prop):Prop:=
 ∀a w,Agree n ds e a->w.heap=H->Same w0 w->K a w
def HC(P:Program)(f:FuncId)(args:Array Value)(H:Array Obj)(R:Value->Array Obj->Prop):Prop:=
 ∀w,w.heap=H->Calls P f args w (λe w'=> ∃v,e=.returned v/\Same w w'/\R v w'.heap)
theorem HC.mono{P:Program}{f:FuncId}{args:Array Value}{H:Array Obj}{R a:Value->Array Obj->Prop}(h:HC P f args H R)(g: ∀v H',R v H'->a v H'):HC P f args H a:=
 λw j=>(h w j).mono λ_ _ ⟨v,d,i,b⟩=>⟨v,d,i,g _ _ b⟩
def SS(P:Program)(S:Sem Next)(H:Array Obj)(R:Value->Array Obj->Prop):Prop:=
 ∀w,w.heap=H-> ∃v w',S.run P w=.ok (.value v) w'/\Same w w'/\R v w'.heap
section rules
variable {P:Program} {n:Nat} {w0:World} {e e':Env} {H H':Array Obj} {Q:Exit->Act->World->Prop} {K:Act->World->Prop} {c x y:Code}
theorem vo(e':Env)(f:Sub e' e)(h:At n ds w0 e' H K):At n ds w0 e H K:=λa w d g b=>h a w (d.sub f) g b
theorem vq(x y:Code)(d:c=.seq x y)(h:At n ds w0 e H (x.wpR ro P (Exit.then (y.wpR ro P Q) Q))):At n ds w0 e H (c.wpR ro P Q):=
 λa w b g f=>by rw[d];exact wpIn_seq (h a w b g f)
theorem aC(h:At n ds w0 e H K):At n ds w0 e H (Exit.then K Q .normal):=h
theorem vt(d:c=.skip)(h:At n ds w0 e H (Q .normal)):At n ds w0 e H (c.wpR ro P Q):=
 λa w b g f=>by rw[d];exact wpIn_skip (h a w b g f)
theorem ut(id:Nat)(x:Code)(d:c=.block id x)(h:At n ds w0 e H (x.wpR ro P (Exit.inBlock id Q))):At n ds w0 e H (c.wpR ro P Q):=
 λa w b g f=>by rw[d];exact wpIn_block (h a w b g f)
theorem aA{id:Nat}(h:At n ds w0 e H (Q .normal)):At n ds w0 e H (Exit.inBlock id Q .normal):=h
theorem xP(id:Nat)(d:c=.exit id)(h:At n ds w0 e H (Q (.exit id))):At n ds w0 e H (c.wpR ro P Q):=
 λa w b g f=>by rw[d];exact wpIn_exit (h a w b g f)
theorem zk(id:Nat)(h:At n ds w0 e H (Q (.exit id)))(a:c=.exit id:=by kernel_rfl):At n ds w0 e H (c.wpR ro P Q):=xP id a h
theorem aB{id:Nat}(h:At n ds w0 e H (Q (.exit id))):At n ds w0 e H (Exit.then K Q (.exit id)):=h
theorem aN{id:Nat}(h:At n ds w0 e H (Q .normal)):At n ds w0 e H (Exit.inBlock id Q (.exit id)):=λa w b f d=>by
 simp only[Exit.inBlock,if_true];exact h a w b f d
theorem tN{id b:Nat}(d:Nat.beq b id=false)(h:At n ds w0 e H (Q (.exit b))):At n ds w0 e H (Exit.inBlock id Q (.exit b)):=λa w f i g=>by
 have:b≠id:=λh=>by rw[h,Nat.beq_refl]at d;cases d
 simp only[Exit.inBlock,this,Df];exact h a w f i g
theorem zj{id a:Nat}(h:At n ds w0 e H (Q (.exit a)))(b:Nat.beq a id=false:=by kernel_rfl):At n ds w0 e H (Exit.inBlock id Q (.exit a)):=tN b h
theorem uu(d:c=.ret)(h:At n ds w0 e H (Q .ret)):At n ds w0 e H (c.wpR ro P Q):=
 λa w b g f=>by rw[d];exact wpIn_ret (h a w b g f)
theorem zx(h:At n ds w0 e H (Q .ret))(a:c=.ret:=by kernel_rfl):At n ds w0 e H (c.wpR ro P Q):=uu a h
theorem m0(o:Operand)(x y:Code)(d:c=.cond o x y)(g:kt e o=some VT)(h:At n ds w0 e H (x.wpR ro P Q)):At n ds w0 e H (c.wpR ro P Q):=
 λa w b i f=>by rw[d];exact wpIn_cond_true (b.eval g) (h a w b i f)
theorem m4(o:Operand)(x y:Code)(d:c=.cond o x y)(g:kt e o=some VF)(h:At n ds w0 e H (y.wpR ro P Q)):At n ds w0 e H (c.wpR ro P Q):=
 λa w b i f=>by rw[d];exact wpIn_cond_false (b.eval g) (h a w b i f)
def u3(ro:Option Nat)(P:Program)(n:Nat)(ds:List Deferred)(w0:World)(ops:Array Oper)(i:Nat)(e:Env)(H:Array Obj)(Q:Exit->Act->World->Prop):Prop:=
 ∀a w,Agree n ds e a->w.heap=H->Same w0 w->wpListIn (Am ro) 0 P ops Q (ops.toList.drop i) a w
theorem pv(id:Nat)(ops:Array Oper)(d:c=.region id ops false)(h:u3 ro P n ds w0 ops 0 e H Q):At n ds w0 e H (c.wpR ro P Q):=
 λa w b g f=>by rw[d];exact wpIn_region_list (by simpa using h a w b g f)
theorem uv{ops:Array Oper}{i:Nat}(d:ops.toList.drop i=[])(h:At n ds w0 e H (Q .normal)):u3 ro P n ds w0 ops i e H Q:=
 λa w b g f=>by rw[d];exact wpListIn_nil (h a w b g f)
theorem zq{ops:Array Oper}{i:Nat}(h:At n ds w0 e H (Q .normal))(a:ops.toList.drop i=[]:=by kernel_rfl):u3 ro P n ds w0 ops i e H Q:=uv a h
def uw(P:Program)(n:Nat)(ops:Array Oper)(o:Oper)(e:Env)(w:World):Option (Env×World):=
 match lH ops e o with
 | some true=>
  bif mI e o then
   match(execOp (Be e) o).run P w with
   | .ok (.value v) w'=>(yN n e o.dst v).map (·,w')
   | .ok .skip w'=>(yN n e o.dst undef).map (·,w')
   | _=>none
  else none
 | some false=>(yN n e o.dst undef).map (·,w)
 | none=>none
def Ao(P:Program)(n:Nat)(ops:Array Oper):List Oper->Env->World->Option (Env×World)
 | [],e,w=>some (e,w)
 | o::l,e,w=>match uw P n ops o e w with
  | some (e',w')=>Ao P n ops l e' w'
  | none=>none
def BC(e':Env)(r:Option (Env×World)):Option (List (Option Value)×World):=r.map λx=>(e'.map (λp=>x.1.get p.1),x.2)
def keep(e':Env)(w:World):Option (List (Option Value)×World):=some (e'.map (λp=>some p.2),w)
theorem sr{ops:Array Oper}{o:Oper}{w p:World}{a:Act}{g:List Oper}(d:uw P n ops o e w=some (e',p))(j:Agree n ds e a)
  (h: ∀l,Agree n ds e' l->wpListIn (Am ro) 0 P ops Q g l p):wpListIn (Am ro) 0 P ops Q (o::g) a w:=by
 unfold uw at d
 unfold wpListIn
 cases k:lH ops e o with
 | none=>simp[k]at d
 | some b=>
  simp only[k]at d
  rw[j.wanted k]
  cases b with
  | false=>
   simp only[Option.map_eq_some_iff,DB]at d
   obtain⟨m,f,rfl,rfl⟩:=d
   rw[za Bool.false_ne_true]
   exact⟨λ_ _=>trivial,h _ (j.put f)⟩
  | true=>
   simp only[if_true]
   by_cases i:mI e o=true
   ·simp only[i,cond_true]at d
    refine⟨λ_ _=>trivial,?_⟩
    rw[j.sem i]
    generalize (execOp (Be e) o).run P w=r at d⊢
    cases r with
    | halt _ _=>simp at d
    | ok q s=>
     cases q<;>simp only[reduceCtorEq,Option.map_eq_some_iff,DB]at d
     case value v=>
      obtain⟨m,f,rfl,rfl⟩:=d
      exact h _ (j.put f)
     case skip=>
      obtain⟨m,f,rfl,rfl⟩:=d
      exact h _ (j.put f)
   ·simp[i]at d
theorem pw{ops:Array Oper}: ∀(l:List Oper) {rest:List Oper} {e e':Env} {w b:World} {a:Act},Ao P n ops l e w=some (e',b)->Agree n ds e a->
  (∀d,Agree n ds e' d->wpListIn (Am ro) 0 P ops Q rest d b)->wpListIn (Am ro) 0 P ops Q (l++rest) a w
 | [],rest,e,e',w,b,a,hr,ha,h=>by simp[Ao]at hr;obtain⟨rfl,rfl⟩:=hr;exact h _ ha
 | o::l,rest,e,e',w,b,a,hr,ha,h=>by
  simp only[Ao]at hr
  cases g:uw P n ops o e w with
  | none=>simp[g]at hr
  | some r=>
   obtain⟨i,j⟩:=r
   simp only[g]at hr
   exact sr g ha λd f=>pw l hr f h
theorem ux{ops:Array Oper}{i:Nat}(k:Nat)(e':Env)(o: ∀w,BC e' (Ao P n ops ((ops.toList.drop i).take k) e w)=keep e' w)
  (h:u3 ro P n ds w0 ops (i+k) e' H Q):u3 ro P n ds w0 ops i e H Q:=λa w m q p=>by
 have b:=o w
 cases g:Ao P n ops ((ops.toList.drop i).take k) e w with
 | none=>rw[g]at b;simp[BC,keep]at b
 | some r=>
  obtain⟨t,s⟩:=r
  rw[g]at b
  simp only[BC,keep,Option.map_some,Dp,DB]at b
  obtain⟨d,rfl⟩:=b
  have j:=pw (Q:=Q) (rest:=ops.toList.drop (i+k)) _ g m λl f=>h l s (f.sub d) q p
  rw[show ops.toList.drop (i+k)=(ops.toList.drop i).drop k by rw[List.drop_drop],EG]at j
  exact j
def dE(P:Program)(ops:Array Oper)(i:Nat)(e:Env)(w:World):Option (Option Tmp×Result Next):=
 match ops.toList.drop i with
 | []=>none
 | o::_=>
  match lH ops e o with
  | some true=>bif mI e o then some (o.dst,(execOp (Be e) o).run P w)else none
  | _=>none
theorem jE{ops:Array Oper}{i:Nat}{w:World}{d:Option Tmp}{r:Result Next}(h:dE P ops i e w=some (d,r)):
  ∃o,ops.toList.drop i=o::ops.toList.drop (i+1)/\lH ops e o=some true/\mI e o=true/\o.dst=d/\(execOp (Be e) o).run P w=r:=by
 unfold dE at h
 cases g:ops.toList.drop i with
 | nil=>simp[g]at h
 | cons o l=>
  simp only[g]at h
  cases f:lH ops e o with
  | none=>simp[f]at h
  | some b=>
   cases b with
   | false=>simp[f]at h
   | true=>
    simp only[f]at h
    by_cases a:mI e o=true
    ·simp only[a,cond_true,Dp,DB]at h
     refine⟨o,?_,f,a,h.1,h.2⟩
     have:ops.toList.drop (i+1)=l:=by rw[<-List.drop_drop,g];rfl
     rw[this]
    ·simp[a]at h
theorem zi{ops:Array Oper}{i:Nat}(d:Option Tmp)(S:Sem Next)(R:Value->Array Obj->Prop)(z: ∀w,dE P ops i e w=some (d,S.run P w))(q:SS P S H R)
  (h: ∀v H',R v H'-> ∃e',fU n e d v e'/\u3 ro P n ds w0 ops (i+1) e' H' Q):u3 ro P n ds w0 ops i e H Q:=λa w k u s=>by
 obtain⟨o,r,f,m,g,j⟩:=jE (z w)
 rw[r]
 unfold wpListIn
 rw[k.wanted f]
 simp only[if_true]
 refine⟨λ_ _=>trivial,?_⟩
 rw[k.sem m,j]
 obtain⟨v,A,t,b,p⟩:=q w u
 rw[t]
 obtain⟨e',l,hk⟩:=h v _ p
 simp only[Oper.uponIn]
 rw[g]
 exact hk _ _ (k.putSub l) rfl (s.trans b)
theorem mK{ops:Array Oper}{i:Nat}(d:Option Tmp)(S:Sem Next)(R:Array Obj->Prop)(z: ∀w,dE P ops i e w=some (d,S.run P w))
  (r: ∀w,w.heap=H-> ∃k,S.run P w=.ok .skip k/\Same w k/\R k.heap)
  (h: ∀H',R H'-> ∃e',fU n e d undef e'/\u3 ro P n ds w0 ops (i+1) e' H' Q):u3 ro P n ds w0 ops i e H Q:=λa w l v t=>by
 obtain⟨o,s,f,p,g,j⟩:=jE (z w)
 rw[s]
 unfold wpListIn
 rw[l.wanted f]
 simp only[if_true]
 refine⟨λ_ _=>trivial,?_⟩
 rw[l.sem p,j]
 obtain⟨k,u,b,q⟩:=r w v
 rw[u]
 obtain⟨e',m,hk⟩:=h _ q
 simp only[Oper.uponIn]
 rw[g]
 exact hk _ _ (l.putSub m) rfl (t.trans b)
theorem xQ{ops:Array Oper}{i:Nat}(d:Option Tmp)(f:FuncId)(args:Array Value)(B: ∀w,dE P ops i e w=some (d,.ok (.enter f args) w)){R:Value->Array Obj->Prop}(r:HC P f args H R)
  (h: ∀v H',R v H'-> ∃e',fU n e d v e'/\u3 ro P n ds w0 ops (i+1) e' H' Q):u3 ro P n ds w0 ops i e H Q:=λa w l A z=>by
 obtain⟨o,s,g,p,j,k⟩:=jE (B w)
 rw[s]
 unfold wpListIn
 rw[l.wanted g]
 simp only[if_true]
 refine⟨λ_ _=>trivial,?_⟩
 rw[l.sem p,k]
 simp only[Oper.uponIn]
 refine⟨λu=>(by cases u),Ex (show CallsIn (Am ro) _ P f args w _ from Ey.2 (r w A)) λen C ⟨v,t,b,q⟩=>?_⟩
 subst t
 obtain⟨e',m,hk⟩:=h v _ q
 simp only[]
 rw[j]
 exact hk _ _ (l.putSub m) rfl (z.trans b)
def Cu(w0:World)(H:Array Obj)(w:World):Prop:=w.heap=H/\Same w0 w
def zs(P:Program)(n:Nat)(ds:List Deferred)(w0:World)(ops:Array Oper)(i:Nat)(e:Env)(H:Array Obj)(Q:Exit->Act->World->Prop):Prop:=
 ∀a,Agree n ds e a->wpQuiet P ops (Cu w0 H) (λa'=> ∀w',Cu w0 H w'->Q .normal a' w') (ops.toList.drop i) a
theorem qN(id:Nat)(ops:Array Oper)(g:c=.region id ops true)(hm:P.follows .mixedOrders=true)(d:Region.lexB .any ops=true)(h:zs P n ds w0 ops 0 e H Q):At n ds w0 e H (c.wpR none P Q):=
 λa w f i b=>by
  rw[g]
  exact wpIn_wide.2 (wp_region_quiet (C:=Cu w0 H) hm d ⟨i,⟨b.os,b.tape,b.output,Nat.le_succ_of_le b.drawn⟩⟩ (by simpa using h a f))
theorem yi{ops:Array Oper}{i:Nat}(f:ops.toList.drop i=[])(h:At n ds w0 e H (Q .normal)):zs P n ds w0 ops i e H Q:=
 λa d=>by rw[f];exact wpQuiet_nil λg b=>h a g d b.1 b.2
def px(P:Program)(ops:Array Oper)(o:Oper)(e:Env)(w:World):Option (Value×World):=
 match lH ops e o with
 | some true=>
  bif mI e o then
   match(execOp (Be e) o).run P w with
   | .ok (.value v) w'=>some (v,w')
   | .ok .skip w'=>some (undef,w')
   | _=>none
  else none
 | some false=>some (undef,w)
 | none=>none
theorem xL{ops:Array Oper}{i:Nat}(v:Value)(e':Env)(d:Option Tmp)(j:(ops.toList.drop i).head?.map (·.dst)=some d)
  (k: ∀w,((ops.toList.drop i).head?.bind λo=>px P ops o e w)=some (v,w)) (t:fU n e d v e')
  (h:zs P n ds w0 ops (i+1) e' H Q):zs P n ds w0 ops i e H Q:=λa p=>by
 cases q:ops.toList.drop i with
 | nil=>rw[q]at j;simp at j
 | cons o l=>
  rw[q]at j k
  simp only[List.head?_cons,Option.map_some,Dp,Option.bind_some]at j k
  subst j
  have s:ops.toList.drop (i+1)=l:=by rw[<-List.drop_drop,q];rfl
  have hk:=h _ (p.putSub t)
  rw[s]at hk
  unfold wpQuiet
  cases m:lH ops e o with
  | none=>have:=k default;simp[px,m]at this
  | some b=>
   rw[p.wanted m]
   cases b with
   | false=>
    have:=k default
    simp only[px,m,Dp,DB,and_true]at this
    subst this
    simpa using hk
   | true=>
    simp only[if_true]
    refine⟨v,λw _=>?_,hk⟩
    have f:=k w
    simp only[px,m]at f
    by_cases g:mI e o=true
    ·simp only[g,cond_true]at f
     unfold Oper.quietAt
     rw[p.exec g]
     generalize (execOp (Be e) o).run P w=r at f⊢
     cases r with
     | halt _ _=>simp at f
     | ok z A=>
      cases z<;>simp only[reduceCtorEq,Dp,DB]at f
      case value u=>exact⟨f.2,f.1⟩
      case skip=>exact⟨f.2,f.1.symm⟩
    ·simp[g]at f
theorem AD{ops:Array Oper}{i:Nat}(d:Option Tmp)(S:Sem Next)(v:Value)(p: ∀w,dE P ops i e w=some (d,S.run P w))(q: ∀w,w.heap=H->S.run P w=.ok (.value v) w)
  (e':Env) (r:fU n e d v e') (h:zs P n ds w0 ops (i+1) e' H Q):zs P n ds w0 ops i e H Q:=λa k=>by
 obtain⟨o,m,b,l,g,_⟩:=jE (p default)
 rw[m]
 unfold wpQuiet
 rw[k.wanted b]
 simp only[if_true]
 subst g
 refine⟨v,λw s=>?_,h _ (k.putSub r)⟩
 obtain⟨t,f,_,_,_,j⟩:=jE (p w)
 rw[m]at f
 obtain⟨rfl,_⟩:=List.cons.inj f
 unfold Oper.quietAt
 rw[k.exec l,j,q w s.1]
 exact⟨rfl,rfl⟩
theorem ni{ops:Array Oper}{i:Nat}(e':Env)(d:Sub e' e)(h:zs P n ds w0 ops i e' H Q):zs P n ds w0 ops i e H Q:=λa b=>h a (b.sub d)
theorem vv{ops:Array Oper}{i:Nat}(e':Env)(d:Sub e' e)(h:u3 ro P n ds w0 ops i e' H Q):u3 ro P n ds w0 ops i e H Q:=λa w b=>h a w (b.sub d)
theorem bL{σ:Type}(b:σ->Env)(I:σ->Array Obj->Prop)(μ:σ->Array Obj->Nat)(g:σ)(B:c=.loop x)(z:I g H)(C:Sub (b g) e)
  (round: ∀s H',I s H'->At n ds w0 (b s) H' (x.wpR ro P (Exit.then (λa w=> ∃f,Agree n ds (b f) a/\Same w0 w/\I f w.heap/\μ f w.heap<μ s H') Q))):
  At n ds w0 e H (c.wpR ro P Q):=λa w A r D=>by
 rw[B]
 refine wpIn_loop_ghost (λk a w=> ∃s,Agree n ds (b s) a/\Same w0 w/\I s w.heap/\μ s w.heap=k) (μ g H) ⟨g,A.sub C,D,r▸z,by rw[r]⟩ ?_
 rintro k u t ⟨s,j,p,h,rfl⟩
 refine wpIn_mono (round s t.heap h u t j rfl p) ?_
 intro v E G d
 cases v with
 | normal=>
  obtain⟨f,m,q,i,o⟩:=d
  exact⟨_,o,f,m,q,i,rfl⟩
 | exit id=>exact d
 | goto l=>exact d
 | ret=>exact d
 | panic F=>exact d
 | outgrown=>exact d
theorem aR{σ:Type}{d:σ->Env}{I:σ->Array Obj->Prop}{μ:σ->Array Obj->Nat}{s:σ}{f:Array Obj}(b:σ)(j:Sub (d b) e)(g:I b H/\μ b H<μ s f):
  At n ds w0 e H (λa w=> ∃b,Agree n ds (d b) a/\Same w0 w/\I b w.heap/\μ b w.heap<μ s f):=
 λa w i h k=>⟨b,i.sub j,k,by rw[h];exact g.1,by rw[h];exact g.2⟩
end rules
def Bd:Nat->List Value->Env
 | _,[]=> []
 | i,v::l=>(i,v)::Bd (i+1) l
theorem pz: ∀(l:List Value) (i t:Nat) (v:Value),(Bd i l).get t=some v->i<=t/\l[t-i]?=some v
 | [],_,_,_,h=>by cases h
 | u::l,i,t,v,h=>by
  simp only[Bd]at h
  rw[Env.get_cons]at h
  by_cases a:i=t
  ·subst a;simp only[if_true,Dp]at h;subst h;simp
  ·rw[za a]at h
   obtain⟨g,b⟩:=pz l (i+1) t v h
   refine⟨by omega,?_⟩
   obtain⟨j,rfl⟩: ∃j,t=i+1+j:=⟨t-(i+1),by omega⟩
   have d:i+1+j-(i+1)=j:=by omega
   have f:i+1+j-i=j+1:=by omega
   rw[d]at b;rw[f];simpa using b
def kI(P:Program)(fn:Func)(w0:World)(R:Value->Array Obj->Prop)(a:Act)(w:World):Prop:=
 LeavesInM Fence.wide 0 P fn a.tmps (λe w'=> ∃v,e=.returned v/\Same w0 w'/\R v w'.heap) a.defers .returning w
theorem wP{P:Program}{f:FuncId}{c:Code}{args:Array Value}{H:Array Obj}{R:Value->Array Obj->Prop}(n:Nat)(i:P.funcs[f]?=some k)(g:k.body=some c)(hn:k.ntmps=n)(j:args.size<=n)
  (h: ∀(w0:World) (Q:Exit->Act->World->Prop),
   (∀a w,kI P k w0 R a w->Q .ret a w/\Q .normal a w)->At n [] w0 (Bd 0 args.toList) H (c.wpR none P Q)):HC P f args H R:=λw m=>by
 refine Ey.1 (callsIn_of_wp_marks i g trivial (n:=0) ?_)
 refine h w (bodyPostM Fence.wide 0 P k _) (λa o d=>⟨d,d⟩) _ _ ?_ m (D0 w)
 refine⟨?_,rfl,λt v l=>?_⟩
 ·simp only[Array.size_append,Array.size_replicate];omega
 ·obtain⟨_,b⟩:=pz _ _ _ _ l
  simp only[Nat.sub_zero,Array.getElem?_toList]at b
  show(args++Array.replicate (k.ntmps-args.size) undef)[t]?=some v
  have:t<args.size:=by
   rcases C6 t args.size with h | h
   ·exact h
   ·simp[Array.getElem?_eq_none h]at b
  rw[Array.getElem?_append_left this]
  exact b
variable {ds:List Deferred} {ro:Option Nat}
def hat(H:Array Obj)(a:Addr):Option Value:=
 match H[a.block]? with
 | some (.cells c _ _)=>if a.spot.isSome then none else c[a.off]?
 | _=>none
def BT(H:Array Obj)(a:Addr):Bool:=
 match H[a.block]? with
 | some (.cells _ _ (lo,hi))=>lo<=a.off && a.off<hi
 | _=>false
def zE(H:Array Obj)(a:Addr)(v:Value):Array Obj:=
 H.modify a.block λ
  | .cells c elem frozen=> .cells (if a.spot.isSome then c else c.setIfInBounds a.off v) elem frozen
  | o=>o
theorem pA(w:World)(a:Addr):w.cell? a=hat w.heap a:=rfl
theorem tO(w:World)(a:Addr):w.frozen? a=BT w.heap a:=rfl
theorem nL(w:World)(a:Addr)(v:Value):(w.setCell a v).heap=zE w.heap a v:=rfl
theorem rJ(w:World)(a:Addr)(v:Value):Same w (w.setCell a v):=⟨rfl,rfl,rfl,CU _⟩
def ov(H:Array Obj)(a:Addr):Prop:=(hat H a).isSome=true/\BT H a=false
def aP(H:Array Obj)(a:Addr):List Value->Nat->Array Obj
 | [],_=>H
 | v::vs,i=>aP (zE H (a.add i) v) a vs (i+1)
theorem pg(H:Array Obj)(a b:Addr)(v:Value)(h:(hat H b).isSome=true):(hat (zE H a v) b).isSome=true:=by
 unfold hat zE at*
 rw[Array.getElem?_modify]
 by_cases d:a.block=b.block
 ·rw[qB d]
  cases g:H[b.block]? with
  | none=>simp[g]at h
  | some o=>
   simp only[g]at h
   simp only[Option.map_some]
   cases o with
   | cells c i j=>
    by_cases f:b.spot.isSome=true
    ·simp[f]at h
    ·simp only[f,Dj,Df]at h⊢
     split<;>simpa using h
   | _=>exact h
 ·rw[za d];exact h
theorem vx(H:Array Obj)(a b:Addr)(v:Value):BT (zE H a v) b=BT H b:=by
 unfold BT zE
 rw[Array.getElem?_modify]
 by_cases d:a.block=b.block
 ·rw[qB d]
  cases f:H[b.block]? with
  | none=>simp
  | some o=>cases o<;>simp
 ·rw[za d]
theorem ov.put{H:Array Obj}(h:ov H i)(a:Addr)(v:Value):ov (zE H a v) i:=⟨pg H a i v h.1,by rw[vx];exact h.2⟩
@[simp] theorem CH (b o n:Nat):Addr.add ⟨b,o,none⟩ n=⟨b,o+n,none⟩:=by
 unfold Addr.add;split<;>simp_all
def rK(P:Program)(H:Array Obj)(t:TypeId)(a:Addr)(v:Value):Prop:= ∀w,w.heap=H->(loadVar t a).run P w=.ok v w
theorem CL{α β:Type}{P:Program}{s:Sem α}{k:α->Sem β}{w w':World}{x:α}(h:s.run P w=.ok x w'):(s>>=k).run P w=(k x).run P w':=by
 rw[Dr,h];rfl
theorem ss{P:Program}{w:World}{v:Value}(h:w.cell? i=some v):(load i).run P w=.ok v w:=by
 show Sem.run P (Sem.load .plain i Sem.pure) w=_
 simp only[Sem.run,h]
theorem gJ{P:Program}{H:Array Obj}(a: ∀w,(isAgg j).run P w=.ok false w)(h:hat H i=some d):rK P H j i d:=λw b=>by
 unfold loadVar
 rw[CL (a w)]
 simp only[Dj,Df]
 exact ss (by rw[pA,b];exact h)
def aL(H:Array Obj)(a:Addr):Nat->List Value->Prop
 | _,[]=>True
 | i,v::vs=>hat H (a.add i)=some v/\aL H a (i+1) vs
theorem lZ{P:Program}{w:World}{a:Addr}: ∀(vs:List Value) (i:Nat) (b:Array Value),aL w.heap a i vs->(loadCellsFrom a i vs.length b).run P w=.ok (b++vs.toArray) w
 | [],i,b,_=>by simp[loadCellsFrom,pure]
 | v::vs,i,b,h=>by
  simp only[List.length_cons,loadCellsFrom]
  rw[CL (ss (P:=P) (v:=v) (w:=w) h.1)]
  rw[lZ vs (i+1) _ h.2]
  simp
theorem eR{P:Program}{H:Array Obj}{vs:List Value}(a: ∀w,(isAgg j).run P w=.ok true w)(hn: ∀w,(sizeOf j).run P w=.ok vs.length w)(h:aL H i 0 vs):rK P H j i (.agg vs.toArray):=λw b=>by
 unfold loadVar
 rw[CL (a w)]
 simp only[if_true]
 rw[CL (hn w)]
 unfold loadCells
 rw[CL (lZ (P:=P) vs 0 #[] (by rw[b];exact h))]
 simp[pure]
def aQ(t:TypeId)(v:Value):Sem Next:=do pure (.value (<-Instr.loadAt t v))
theorem ke{P:Program}{H:Array Obj}(h:rK P H j i d)(w:World)(b:w.heap=H):(aQ j (Vq i)).run P w=.ok (.value d) w:=by
 have a:(Instr.loadAt j (Vq i)).run P w=.ok d w:=h w b
 unfold aQ
 rw[CL a]
 rfl
theorem uN{P:Program}{w:World}(g:(match d with | .agg _ | .tuple _=>false | _=>true)=true)(h:ov w.heap i):(store i d).run P w=.ok () (w.setCell i d):=by
 obtain⟨u,f⟩:=D4.1 h.1
 have b:w.frozen? i=false:=by rw[tO];exact h.2
 have a:w.cell? i=some u:=by rw[pA];exact f
 show Sem.run P (Sem.store .plain i d (Sem.pure ())) w=_
 cases d<;>simp at g<;>simp only[Sem.run,a,b,Dj,Df]
def kz:List Value->Bool
 | []=>true
 | v::vs=>(match v with | .agg _ | .tuple _=>false | _=>true) && kz vs
def aH(H:Array Obj)(a:Addr):Nat->Nat->Prop
 | _,0=>True
 | i,n+1=>ov H (a.add i)/\aH H a (i+1) n
theorem aH.put{H:Array Obj}{b:Addr}(a:Addr)(v:Value): ∀{n i:Nat},aH H b i n->aH (zE H a v) b i n
 | 0,_,_=>trivial
 | _+1,_,h=>⟨h.1.put a v,aH.put a v h.2⟩
theorem lI{P:Program}{a:Addr}: ∀(vs:List Value) (i:Nat) (w:World),kz vs=true->aH w.heap a i vs.length->
  ∃w',(storeCells a vs i).run P w=.ok () w'/\Same w w'/\w'.heap=aP w.heap a vs i
 | [],_,w,_,_=>⟨w,rfl,D0 w,rfl⟩
 | v::vs,i,w,h1,h2=>by
  simp only[kz,CZ]at h1
  obtain⟨w',d,f,b⟩:=lI (P:=P) (a:=a) vs (i+1) (w.setCell (a.add i) v) h1.2 (by rw[nL];exact h2.2.put _ _)
  refine⟨w',?_,(rJ w _ _).trans f,by rw[b,nL];rfl⟩
  unfold storeCells
  rw[CL (uN h1.1 h2.1)]
  exact d
def jJ(t:TypeId)(a v:Value):Sem Next:=do Instr.storeAt t a v;pure .skip
theorem iR{P:Program}{H:Array Obj}{t:TypeId}{a:Addr}{v:Value}(vs:List Value)(k:Nat)(j:v.cells.toList=vs)(hk:vs.length=k)(hn: ∀w,(sizeOf t).run P w=.ok k w)(f:kz vs=true)(g:aH H a 0 k):
  ∀w,w.heap=H-> ∃b,(jJ t (Vq a) v).run P w=.ok .skip b/\Same w b/\b.heap=aP H a vs 0:=λw d=>by
 subst j;subst hk
 obtain⟨b,l,m,i⟩:=lI (P:=P) (a:=a) v.cells.toList 0 w f (by rw[d];exact g)
 refine⟨b,?_,m,by rw[i,d]⟩
 have h:(Instr.storeAt t (Vq a) v).run P w=.ok () b:=by
  show(storeVar t a v).run P w=_
  unfold storeVar
  rw[CL (hn w)]
  simp only[Array.length_toList,ne_eq,not_true_eq_false,Df]
  exact l
 unfold jJ
 rw[CL h]
 rfl
section
variable {P:Program} {n:Nat} {w0:World} {e e':Env} {H H':Array Obj} {Q:Exit->Act->World->Prop}
theorem yj{ops:Array Oper}{i:Nat}(d:Option Tmp)(f:Nat->Value)(o:Obj)(t: ∀w,dE P ops i e w=some (d,.ok (.value (f w.heap.size)) {w with heap:=w.heap.push o}))
  (h: ∀b H',b=H.size->H'=H.push o-> ∃e',fU n e d (f b) e'/\u3 ro P n ds w0 ops (i+1) e' H' Q):u3 ro P n ds w0 ops i e H Q:=λa w l q s=>by
 obtain⟨u,r,g,p,j,k⟩:=jE (t w)
 rw[r]
 unfold wpListIn
 rw[l.wanted g]
 simp only[if_true]
 refine⟨λ_ _=>trivial,?_⟩
 rw[l.sem p,k]
 obtain⟨e',m,hk⟩:=h w.heap.size (w.heap.push o) (by rw[q]) (by rw[q])
 simp only[Oper.uponIn]
 rw[j]
 exact hk _ _ (l.putSub m) rfl (s.trans ⟨rfl,rfl,rfl,by simp⟩)
theorem qO{ops:Array Oper}{i:Nat}(d:Option Tmp)(S:Sem Next)(v:Value)(g: ∀w,dE P ops i e w=some (d,S.run P w))(b: ∀w,w.heap=H->S.run P w=.ok (.value v) w)
  (e':Env) (f:fU n e d v e') (h:u3 ro P n ds w0 ops (i+1) e' H Q):u3 ro P n ds w0 ops i e H Q:=
 zi d S (λu H'=>u=v/\H'=H) g (λw a=>⟨v,w,b w a,D0 w,rfl,a⟩) (by rintro _ _ ⟨rfl,rfl⟩;exact⟨e',f,h⟩)
end
def bE(t:TypeId)(x i:Value):Sem Next:=do pure (.value (<-Instr.indexAt t x i))
theorem dZ{P:Program}{t elem sz:Nat}{a:Addr}{len cap:Nat}{k:IntKind}{i:Int}(g:P.underlying t=some (.slice elem))(h: ∀w,(sizeOf elem).run P w=.ok sz w)
  (d:0<=i) (f:i<len) (w:World):(bE t (vs (some a) len cap) (.int k i)).run P w=.ok (.value (Vq (a.add (i.toNat*sz)))) w:=by
 have b:=h w
 simp[bE,Instr.indexAt,Dr,asIntOf,underlying,program,g,d,f,b,Sem.run,pure,Result.andThen]
theorem bQ{P:Program}{t elem sz n:Nat}{a:Addr}{k:IntKind}{i:Int}(g:P.underlying t=some (.array n elem))(h: ∀w,(sizeOf elem).run P w=.ok sz w)
  (d:0<=i) (f:i<n) (w:World):(bE t (Vq a) (.int k i)).run P w=.ok (.value (Vq (a.add (i.toNat*sz)))) w:=by
 have b:=h w
 simp[bE,Instr.indexAt,Dr,asIntOf,underlying,program,g,d,f,b,Sem.run,pure,Result.andThen,Instr.sureAddr]
def mL(t:TypeId)(x i:Value):Sem Next:=do pure (.value (<-Instr.index t x i))
theorem kf{P:Program}{t elem n:Nat}{f:Array Value}{k:IntKind}{i:Int}(l:P.underlying t=some (.array n elem))(o: ∀w,(sizeOf elem).run P w=.ok 1 w)(j: ∀w,(isAgg elem).run P w=.ok false w)
  (g:0<=i) (h:i<n) (m:f[i.toNat]?=some d) (w:World):(mL t (.agg f) (.int k i)).run P w=.ok (.value d) w:=by
 have b:=o w
 have a:=j w
 simp[mL,Instr.index,Dr,asIntOf,underlying,program,l,g,h,b,a,m,Sem.run,pure,Result.andThen,part]
def Ap(op:BinOp)(t:TypeId)(x y:Value):Sem Next:=do pure (.value (<-binOp op t x y))
theorem uy{P:Program}{t:TypeId}{k:IntKind}{x y:Int}(a:y≠0)(w:World):(Ap .rem t (.int k x) (.int k y)).run P w=.ok (.value (.int k (x.tmod y))) w:=by
 simp[Ap,binOp,Op.intDiv,a,Dr,Sem.run,pure,Result.andThen]
def zG(k:IntKind)(x y:Int):Int:=k.wrap (x*2 ^ (min y.toNat k.bits))
def zc(k:IntKind)(x y:Int):Int:=x.fdiv (2 ^ (min y.toNat k.bits))
theorem wQ{P:Program}{t:TypeId}{k k':IntKind}{x y:Int}(a:0<=y)(w:World):(Ap .shl t (.int k x) (.int k' y)).run P w=.ok (.value (.int k (zG k x y))) w:=by
 have: ¬y<0:=by omega
 simp[Ap,binOp,Op.shift,this,Dr,Sem.run,pure,Result.andThen,zG]
theorem uz{P:Program}{t:TypeId}{k k':IntKind}{x y:Int}(a:0<=y)(w:World):(Ap .shr t (.int k x) (.int k' y)).run P w=.ok (.value (.int k (zc k x y))) w:=by
 have: ¬y<0:=by omega
 simp[Ap,binOp,Op.shift,this,Dr,Sem.run,pure,Result.andThen,zc]
def yF(k:IntKind)(x y:Int):Int:=k.wrap (BitVec.ofInt k.bits x &&& BitVec.ofInt k.bits y).toNat
def Bk(k:IntKind)(x y:Int):Int:=k.wrap (BitVec.ofInt k.bits x ||| BitVec.ofInt k.bits y).toNat
def lu(k:IntKind)(x y:Int):Int:=k.wrap (BitVec.ofInt k.bits x &&& ~~~BitVec.ofInt k.bits y).toNat
def AX:List Value->Value
 | [v]=>v
 | vs=> .tuple vs.toArray
inductive bV (P:Program) (H:Array Obj) (e:Env):List ResultVar->List Value->Prop where
 | nil:bV P H e [] []
 | tmp {t:Nat} {v:Value} {rs:List ResultVar} {vs:List Value} (h:e.get t=some v) (r:bV P H e rs vs):bV P H e (.tmp t::rs) (v::vs)
 | cell {b t:Nat} {a:Addr} {v:Value} {rs:List ResultVar} {vs:List Value} (h:e.get b=some (Vq a)) (hl:rK P H t a v) (r:bV P H e rs vs):bV P H e (.cell b t::rs) (v::vs)
theorem Agree.getD{n:Nat}{e:Env}{a:Act}(h:Agree n ds e a){t:Nat}{v:Value}(b:e.get t=some v):a.tmps.getD t undef=v:=by
 have:=h.vals t v b
 simp[Array.getD_eq_getD_getElem?,this]
theorem bV.list{P:Program}{H:Array Obj}{n:Nat}{e:Env}{a:Act}{w:World}(d:Agree n ds e a)(f:w.heap=H): ∀{i:List ResultVar} {vs:List Value},bV P H e i vs->
  Sem.run P (i.mapM (λr:ResultVar=>match r with | .tmp t=>(pure (a.tmps.getD t undef):Sem Value) | .cell b t=>do loadVar t (<-asAddr (a.tmps.getD b undef)))) w=Result.ok vs w
 | _,_,.nil=>rfl
 | _,_,.tmp h r=>by
  have g:=bV.list d f r
  rw[List.mapM_cons]
  simp only[DD,d.getD h]
  rw[CL g]
  rfl
 | _,_,.cell h hl r=>by
  have g:=bV.list d f r
  rw[List.mapM_cons]
  simp only[d.getD h]
  rw[CL (x:=_) (w':=w) (by show Sem.run P (loadVar _ _) w=_;exact hl w f),CL g]
  rfl
theorem bV.run{P:Program}{H:Array Obj}{n:Nat}{e:Env}{a:Act}{w:World}{vs:List Value}(d:Agree n ds e a)(f:w.heap=H)(h:bV P H e k.results.toList vs):
  (results k a.tmps).run P w=.ok (AX vs) w:=by
 have b:=bV.list d f h
 unfold results
 rw[Array.mapM_eq_mapM_toList]
 simp only[bind_map_left]
 refine(CL (x:=vs) (w':=w) b).trans ?_
 match vs with
 | []=>rfl
 | [v]=>rfl
 | v::u::vs=>simp[AX,pure]
section
variable {P:Program} {n:Nat} {w0:World} {e:Env} {H:Array Obj} {Q:Exit->Act->World->Prop}
def marks(Ds:List Nat):List Deferred:=Ds.map λD=>{target:=.collected D,args:= #[]}
def Shut:List Nat->Array Obj->(Array Obj->Prop)->Prop
 | [],H,K=>K H
 | D::Ds,H,K=>H[D]?=some (.deferred (some []))/\Shut Ds (H.setIfInBounds D (.deferred none)) K
theorem Shut.mono{K b:Array Obj->Prop}(hk: ∀H',K H'->b H'): ∀{a:List Nat} {H:Array Obj},Shut a H K->Shut a H b
 | [],_,h=>hk _ h
 | _::_,_,h=>⟨h.1,Shut.mono hk h.2⟩
theorem DS:type_of% @Shut.mono:=@Shut.mono
theorem Shut.leave{fn:Func}{R:Value->Array Obj->Prop}{d:Array Value}(b: ∀w vs,bV P w.heap e fn.results.toList vs->(results fn d).run P w=.ok (AX vs) w): ∀(a:List Nat) (w:World),Same w0 w->Shut a w.heap (λH'=> ∃vs,bV P H' e fn.results.toList vs/\R (AX vs) H')->
  LeavesInM Fence.wide 0 P fn d (λe f=> ∃v,e=.returned v/\Same w0 f/\R v f.heap) (marks a) .returning w
 | [],w,hs,⟨vs,h⟩=>⟨_,b w vs h.1,_,rfl,hs,h.2⟩
 | D::a,w,hs,h=>⟨by simp,.inl ⟨D,_,rfl,run_takeDeferred h.1,Shut.leave b a _ ⟨hs.os,hs.tape,hs.output,hs.drawn⟩ h.2⟩⟩
theorem lw{fn:Func}{R:Value->Array Obj->Prop}(b:List Nat)(f: ∀a w,kI P fn w0 R a w->Q .ret a w/\Q .normal a w)
  (h:Shut b H (λH'=> ∃vs,bV P H' e fn.results.toList vs/\R (AX vs) H')):At n (marks b) w0 e H (Q .ret):=λa w d j i=>
 (f a w (by unfold kI;rw[d.defers];exact Shut.leave (λk vs g=>g.run d rfl) b w i (by rw[j];exact h))).1
theorem vy{R:Value->Array Obj->Prop}(b:List Nat)(f: ∀a w,kI P k w0 R a w->Q .ret a w/\Q .normal a w)
  (h:Shut b H (λH'=> ∃vs,bV P H' e k.results.toList vs/\R (AX vs) H')):At n (marks b) w0 e H (Q .normal):=λa w d j i=>
 (f a w (by unfold kI;rw[d.defers];exact Shut.leave (λl vs g=>g.run d rfl) b w i (by rw[j];exact h))).2
theorem kW{fn:Func}{R:Value->Array Obj->Prop}(vs:List Value)
  (d: ∀a w,kI P fn w0 R a w->Q .ret a w/\Q .normal a w)
  (b:bV P H e fn.results.toList vs) (h:R (AX vs) H):At n [] w0 e H (Q .ret):=lw [] d ⟨vs,b,h⟩
theorem gH{fn:Func}{R:Value->Array Obj->Prop}(vs:List Value)
  (d: ∀a w,kI P fn w0 R a w->Q .ret a w/\Q .normal a w)
  (b:bV P H e fn.results.toList vs) (h:R (AX vs) H):At n [] w0 e H (Q .normal):=vy [] d ⟨vs,b,h⟩
theorem pD{σ:Type}{c:Code}(d:σ->Env)(J:σ->Array Obj->Prop)(hk: ∀s H',J s H'->At n ds w0 (d s) H' (Q .normal))
  (h:At n ds w0 e H (c.wpR ro P (Exit.then (λa w=> ∃s,Agree n ds (d s) a/\Same w0 w/\J s w.heap) Q))):At n ds w0 e H (c.wpR ro P Q):=λa w m p o=>by
 refine wpIn_mono (h a w m p o) ?_
 intro j i q b
 cases j with
 | normal=>obtain⟨s,f,g,k⟩:=b;exact hk s _ k i q f rfl g
 | exit id=>exact b
 | goto l=>exact b
 | ret=>exact b
 | panic r=>exact b
 | outgrown=>exact b
theorem lr{σ:Type}{b:σ->Env}{J:σ->Array Obj->Prop}(s:σ)(g:Sub (b s) e)(d:J s H):At n ds w0 e H (λa w=> ∃s,Agree n ds (b s) a/\Same w0 w/\J s w.heap):=
 λa w f i h=>⟨s,f.sub g,h,by rw[i];exact d⟩
theorem rL{σ:Type}{c x:Code}(b:σ->Env)(h:σ->List Nat)(I:σ->Array Obj->Prop)(μ:σ->Array Obj->Nat)(g:σ)(C:c=.loop x)(A:I g H)(D:Sub (b g) e)
  (round: ∀s H',I s H'->At n (marks (h s)) w0 (b s) H' (x.wpR ro P (Exit.then (λa w=> ∃f,Agree n (marks (h f)) (b f) a/\Same w0 w/\I f w.heap/\μ f w.heap<μ s H') Q))):
  At n (marks (h g)) w0 e H (c.wpR ro P Q):=λa w B t E=>by
 rw[C]
 refine wpIn_loop_ghost (λk a w=> ∃s,Agree n (marks (h s)) (b s) a/\Same w0 w/\I s w.heap/\μ s w.heap=k) (μ g H) ⟨g,B.sub D,E,t▸A,by rw[t]⟩ ?_
 rintro k v u ⟨s,m,q,i,rfl⟩
 refine wpIn_mono (round s u.heap i v u m rfl q) ?_
 intro z F J d
 cases z with
 | normal=>
  obtain⟨f,o,r,j,p⟩:=d
  exact⟨_,p,f,o,r,j,rfl⟩
 | exit id=>exact d
 | goto l=>exact d
 | ret=>exact d
 | panic G=>exact d
 | outgrown=>exact d
theorem mc{σ:Type}{d:σ->Env}{mk:σ->List Nat}{I:σ->Array Obj->Prop}{μ:σ->Array Obj->Nat}{s:σ}{f:Array Obj}(b:σ)(j:Sub (d b) e)(g:I b H/\μ b H<μ s f):
  At n (marks (mk b)) w0 e H (λa w=> ∃b,Agree n (marks (mk b)) (d b) a/\Same w0 w/\I b w.heap/\μ b w.heap<μ s f):=
 λa w i h k=>⟨b,i.sub j,k,by rw[h];exact g.1,by rw[h];exact g.2⟩
theorem kJ(a:List Nat){K:Act->World->Prop}(b:ds=marks a)(h:At n (marks a) w0 e H K):At n ds w0 e H K:=b▸h
theorem iX{ops:Array Oper}{i:Nat}(a:Env)(hk:At n ds w0 a H (Q .normal))(h:At n ds w0 a H (Q .normal)->u3 ro P n ds w0 ops i e H Q):u3 ro P n ds w0 ops i e H Q:=h hk
theorem iT(e':Env)(a:e=e'){K:Act->World->Prop}(h:At n ds w0 e' H K):At n ds w0 e H K:=a▸h
theorem cD{ops:Array Oper}{i:Nat}(e':Env)(a:e=e')(h:u3 ro P n ds w0 ops i e' H Q):u3 ro P n ds w0 ops i e H Q:=a▸h
theorem yu{ops:Array Oper}{i:Nat}(e':Env)(a:e=e')(h:zs P n ds w0 ops i e' H Q):zs P n ds w0 ops i e H Q:=a▸h
end
def eU(p:Option Addr)(A:Prop)(B:Addr->Prop):Prop:=match p with | none=>A | some a=>B a
@[simp] theorem CP {A:Prop} {B:Addr->Prop}:eU none A B=A:=rfl
@[simp] theorem CK {A:Prop} {B:Addr->Prop} {a:Addr}:eU (some a) A B=B a:=rfl
theorem sb{e' e:Env}(h:e'.map (λp=>e.get p.1)=e'.map (λp=>some p.2)):Sub e' e:=h
theorem ps{n:Nat}{e:Env}{b:Option Nat}{e':Env}(h:(yN n e b d).map (λa=>e'.map (λp=>a.get p.1))=some (e'.map (λp=>some p.2))):fU n e b d e':=h
def Code.fa:Code->Code
 | .seq a _=>a
 | .cond _ a _=>a
 | .block _ b=>b
 | .loop b=>b
 | .scope b=>b
 | .rangeFunc _ _ a _=>a
 | c=>c
def Code.fb:Code->Code
 | .seq _ b=>b
 | .cond _ _ b=>b
 | .rangeFunc _ _ _ b=>b
 | c=>c
def Code.ops:Code->Array Oper
 | .region _ o _=>o
 | _=> #[]
def Func.code(f:Func):Code:=f.body.getD .skip
variable {ds:List Deferred} {ro:Option Nat}
def QN(Q:Exit->Act->World->Prop):Exit->Act->World->Prop
 | .panic _,_,_=>False
 | e,a,w=>Q e a w
theorem QN.imp{Q:Exit->Act->World->Prop}: ∀(e:Exit) (a:Act) (w:World),QN Q e a w->Q e a w:=λe a w h=>by
 cases e<;>first | exact h | exact(h:False).elim
section
variable {P:Program} {ops:Array Oper} {Q:Exit->Act->World->Prop} {md:Region.Mode} {S:Array Bool->World->Prop}
def Closed(md:Region.Mode)(ops:Array Oper)(L:Array Bool):Prop:=
 L.size=ops.size/\ ∀j oj,ops[j]?=some oj->L.getD j false=true-> ∀e∈oj.after,Region.binds md e=true->L.getD e.on false=true
theorem Closed.set{L:Array Bool}{i:Nat}(h:Closed md ops L)(o:i∈Region.ready md ops L):Closed md ops (L.setIfInBounds i true):=by
 obtain⟨_,p,d,a⟩:=mem_ready.1 o
 refine⟨by simpa using h.1,?_⟩
 intro j m k l e g f
 by_cases b:i=j
 ·subst b
  have:m=p:=DH (k.symm.trans d)
  subst this
  exact getD_set_true (a e g f)
 ·rw[getD_set_ne false b]at l
  exact getD_set_true (h.2 j m k l e g f)
theorem Closed.none(m:Nat)(hm:ops.size=m):Closed md ops (Array.replicate m false):=⟨by simp[hm],λj b _ a=>by
 have:(Array.replicate m false).getD j false=false:=by
  rcases C6 j m with h | h<;>simp[h]
 rw[this]at a;cases a⟩
def mM(md:Region.Mode)(ops:Array Oper):Nat->Nat->Nat->Bool
 | 0,_,_=>false
 | f+1,k,i=>match ops[k]? with
  | some o=>o.after.any (λe=>Region.binds md e && e.on==i) || o.after.any (λe=>Region.binds md e && mM md ops f e.on i)
  | none=>false
theorem oR{L:Array Bool}(d:Closed md ops L): ∀{f k i:Nat},mM md ops f k i=true->L.getD k false=true->L.getD i false=true
 | 0,_,_,h,_=>by simp[mM]at h
 | f+1,k,i,h,hk=>by
  unfold mM at h
  cases b:ops[k]? with
  | none=>simp[b]at h
  | some o=>
   simp only[b,Dw]at h
   rcases h with h | h
   ·obtain⟨e,g,a⟩:=Array.any_eq_true'.1 h
    simp only[CZ,beq_iff_eq]at a
    have:=d.2 k o b hk e g a.1
    rw[a.2]at this;exact this
   ·obtain⟨e,g,a⟩:=Array.any_eq_true'.1 h
    simp only[CZ]at a
    exact oR d a.2 (d.2 k o b hk e g a.1)
def ky(P:Program)(md:Region.Mode)(ops:Array Oper)(S:Array Bool->World->Prop)(i:Nat)(o:Oper)(v:Value)(a:Act):Prop:=
 (∀c,o.op≠.defer c)/\((Region.wanted o (yielded ops a.tmps)=true/\ ∀L w,Closed md ops L->L.getD i true=false->S L w->(execOp a.eval o).run P w=.ok (.value v) w)\/
 (Region.wanted o (yielded ops a.tmps)=false/\v=undef))
theorem ky.wpOp{i:Nat}{o:Oper}{a:Act}(m:ops[i]?=some o)(g:ky P md ops S i o d a)
  {K:Act->World->Prop} {w:World} {L:Array Bool} (l:Closed md ops L) (j:L.getD i true=false) (k:S L w) (h:K (a.put o.dst d) w):wpOpIn (Am ro) 0 P ops Q i K a w:=by
 unfold Go.wpOpIn
 simp only[m]
 have b:o.semAt (Am ro).round a.eval=execOp a.eval o:=Oper.semAt_eq ro _ o g.1
 rcases g.2 with⟨f,p⟩ | ⟨f,rfl⟩
 ·simp only[f,if_true,Oper.wpIn,b,p L w l j k,Oper.uponIn];exact⟨λ_ _=>trivial,h⟩
 ·simp only[f,Dj,Df];exact⟨λ_ _=>trivial,h⟩
theorem ky.of_same{i:Nat}{o:Oper}{a b:Act}(h:ky P md ops S i o d a)(f:execOp b.eval o=execOp a.eval o)
  (g:Region.wanted o (yielded ops b.tmps)=Region.wanted o (yielded ops a.tmps)):ky P md ops S i o d b:=by
 unfold ky at*
 rw[f,g]
 exact h
theorem uO{i j:Nat}{g k:Oper}(M:ops[j]?=some k)(A:g.apart ops k=true)
  (C: ∀v b,g.op≠.select v b) (D: ∀v b,k.op≠.select v b) (B: ∀c,k.op≠.defer c)
  (z: ∀c a w,¬Q (.panic c) a w) {K:Act->World->Prop} {a:Act} {w:World}
  (o:ky P md ops S i g d a) (h:wpOpIn (Am ro) 0 P ops Q j K (a.put g.dst d) w):
  wpOpIn (Am ro) 0 P ops Q j (λG F=>ky P md ops S i g d G/\K (G.put g.dst d) F) a w:=by
 obtain⟨I,p,J⟩:=Oper.apart_spec A
 have keep: ∀(a:Act),ky P md ops S i g d a-> ∀u,ky P md ops S i g d (a.put k.dst u):=λa o u=>
  o.of_same (execOp_put g C a k.dst u J) (wanted_put g a k.dst u J)
 have q: ∀N,ky P md ops S i g d {a with defers:=N::a.defers}:=λN=>o.of_same rfl rfl
 unfold wpOpIn at*
 simp only[M]at*
 rw[wanted_put k a g.dst d I]at h
 have s: ∀ρ,k.semAt (Am ro).round ρ=execOp ρ k:=λρ=>Oper.semAt_eq ro ρ k B
 split
 ·rename_i E
  simp only[E,if_true]at h
  refine⟨λ_ _=>trivial,?_⟩
  have h:=h.2
  rw[s,execOp_put k D a g.dst d I]at h
  rw[s]
  generalize (execOp a.eval k).run P w=r at*
  cases r with
  | ok n F=>
   cases n<;>simp only[Oper.uponIn]at h⊢
   case value u=>exact⟨keep a o u,by rw[<-Eg a d u p];exact h⟩
   case skip=>exact⟨keep a o _,by rw[<-Eg a d undef p];exact h⟩
   case defer N=>
    refine⟨keep _ (q N) _,?_⟩
    rw[<-Eg _ d undef p,<-Act.put_defers]
    exact h
   case enter f args=>
    refine⟨h.1,Ex h.2 λe t m=>?_⟩
    cases e with
    | returned u=>exact⟨keep a o u,by rw[<-Eg a d u p];exact m⟩
    | panicked c=>exact(z _ _ _ m).elim
    | outgrown=>exact m
   case row row args=>exact⟨h.1,RowsIn.mono h.2 λu t m=>⟨keep a o u,by rw[<-Eg a d u p];exact m⟩⟩
   case round l f tmps assign body=>
    refine⟨h.1,RoundIn.mono h.2 λe t m=>?_⟩
    cases e with
    | returned u=>exact⟨keep a o u,by rw[<-Eg a d u p];exact m⟩
    | panicked c=>exact(z _ _ _ m).elim
    | outgrown=>exact m
  | halt x F=>
   cases x<;>simp only[Oper.uponIn]at h⊢
   case panic u=>exact(z _ _ _ h).elim
 ·rename_i E
  simp only[E]at h
  exact⟨λ_ _=>trivial,keep a o _,by rw[<-Eg a d undef p];exact h.2⟩
def BB(ro:Option Nat)(P:Program)(md:Region.Mode)(ops:Array Oper)(Q:Exit->Act->World->Prop)(S:Array Bool->World->Prop):Nat->Array Bool->Act->World->Prop
 | 0,L,a,w=>Region.ready md ops L=[]/\Q .normal a w
 | fuel+1,L,a,w=>
  (Region.ready md ops L=[]->Q .normal a w)/\
  ∀i∈Region.ready md ops L,wpOpIn (Am ro) 0 P ops Q i (λa' w'=>S (L.setIfInBounds i true) w'/\BB ro P md ops Q S fuel (L.setIfInBounds i true) a' w') a w
theorem pE: ∀(fuel:Nat) (L:Array Bool) (a:Act) (w:World),BB ro P md ops Q S fuel L a w->wpAnyIn (Am ro) 0 P md ops Q fuel L a w
 | 0,_,_,_,h=>h
 | fuel+1,_,_,_,h=>⟨h.1,λi f=>wpOpIn_mono (λb g d=>pE fuel _ b g d.2) (h.2 i f)⟩
theorem qP{i:Nat}{oi:Oper}{v:Value}(T:ops[i]?=some oi)(q: ∀(j:Nat) (o:Oper) u b,ops[j]?=some o->o.op≠.select u b)(C: ∀(j:Nat) (o:Oper) c,ops[j]?=some o->o.op≠.defer c)
  (hQ: ∀c a w,¬Q (.panic c) a w) (t: ∀L w,S (L.setIfInBounds i true) w ↔ S L w):
  ∀(fuel:Nat) (L:Array Bool) (a:Act) (w:World),
   (∀j r,ops[j]?=some r->j≠i->L.getD j true=false->(∀e∈r.after,Region.binds md e=true->e.on≠i)->oi.apart ops r=true)->
   Closed md ops L->i∈Region.ready md ops L->ky P md ops S i oi v a->S L w->
   BB ro P md ops Q S fuel (L.setIfInBounds i true) (a.put oi.dst v) w->BB ro P md ops Q S (fuel+1) L a w:=by
 intro fuel
 induction fuel with
 | zero=>
  intro L a w _ J m M z H
  refine⟨λh=>(by rw[h]at m;cases m),λj D=>?_⟩
  by_cases d:j=i
  ·subst d;exact M.wpOp T J (mem_ready.1 m).1 z ⟨(t L w).2 z,H⟩
  ·have:=ready_mono D d
   rw[H.1]at this
   cases this
 | succ fuel ih=>
  intro L a w f J m M z H
  refine⟨λh=>(by rw[h]at m;cases m),λj D=>?_⟩
  by_cases d:j=i
  ·subst d;exact M.wpOp T J (mem_ready.1 m).1 z ⟨(t L w).2 z,H⟩
  ·have s:=H.2 j (ready_mono D d)
   obtain⟨p,r,l,B⟩:=mem_ready.1 D
   have F: ∀e∈r.after,Region.binds md e=true->e.on≠i:=λe he hb R=>by
    have s:=B e he hb
    have W:=(mem_ready.1 m).1
    rw[R]at s
    rcases C6 i L.size with N | N
    ·simp[N]at W s;rw[W]at s;cases s
    ·simp[Array.getElem?_eq_none N]at s
   have Z:=uO l (f j r l d p F) (λu b=>q i oi u b T) (λu b=>q j r u b l) (λc=>C j r c l) hQ M s
   have g: ∀k I,ops[k]?=some I->k≠i->(L.setIfInBounds j true).getD k true=false->
     (∀e∈I.after,Region.binds md e=true->e.on≠i)->oi.apart ops I=true:=λk I hk U G V=>by
    refine f k I hk U ?_ V
    by_cases E:j=k
    ·subst E;exact p
    ·rw[getD_set_ne true E]at G;exact G
   refine wpOpIn_mono (λY X O=>?_) Z
   have A:S (L.setIfInBounds j true) X:=by
    have:=O.2.1
    rw[Array.setIfInBounds_comm _ _ (Ne.symm d)]at this
    exact(t _ _).1 this
   refine⟨A,ih (L.setIfInBounds j true) Y X g (J.set D) (ready_mono m (Ne.symm d)) O.1 A ?_⟩
   rw[Array.setIfInBounds_comm _ _ d]
   exact O.2.2
end
def kK(ops:Array Oper):Bool:=ops.toList.all λo=>match o.op with | .defer _=>false | _=>true
theorem lx{ops:Array Oper}(h:kK ops=true)(j:Nat)(o:Oper)(c:Call)(b:ops[j]?=some o):o.op≠.defer c:=λa=>by
 have hm:o∈ops.toList:=by
  have:=Array.mem_of_getElem? b
  simpa using this
 have:=EE.1 h o hm
 simp[a]at this
abbrev Facts:=List (Nat×Addr×List Value)
def fV(fs:Facts)(L:Array Bool)(w:World):Prop:= ∀f∈fs,L.getD f.1 false=false->aL w.heap f.2.1 0 f.2.2
def aE(fs:Facts)(L:Array Bool)(H:Array Obj):Prop:=
 match fs with
 | []=>True
 | f::fs=>(bif L.getD f.1 false then True else aL H f.2.1 0 f.2.2)/\aE fs L H
theorem aE.ok{L:Array Bool}{w:World}: ∀{fs:Facts},aE fs L w.heap->fV fs L w
 | [],_,f,hf,_=>by cases hf
 | g::fs,h,f,hf,hL=>by
  cases hf with
  | head=>have:=h.1;rw[hL]at this;exact this
  | tail _ hm=>exact aE.ok h.2 f hm hL
theorem fV.at{L:Array Bool}{w:World}: ∀{fs:Facts},fV fs L w->aE fs L w.heap
 | [],_=>trivial
 | g::fs,h=>⟨by
   cases a:L.getD g.1 false with
   | true=>trivial
   | false=>exact h g (Ee ..) a,fV.at λf b=>h f (Dt _ b)⟩
theorem fV.set{fs:Facts}{i:Nat}(g:fs.all (λf=>f.1 !=i)=true)(L:Array Bool)(w:World):fV fs (L.setIfInBounds i true) w ↔ fV fs L w:=by
 have b: ∀f∈fs,i≠f.1:=λf a=>by
  have:=EE.1 g f a
  simp at this;exact λh=>this h.symm
 constructor<;>intro h f a d<;>refine h f a ?_
 ·rw[getD_set_ne false (b f a)];exact d
 ·rw[getD_set_ne false (b f a)]at d;exact d
def yO(ro:Option Nat)(P:Program)(n:Nat)(ds:List Deferred)(w0:World)(ops:Array Oper)(fs:Facts)(fuel:Nat)(L:Array Bool)(e:Env)(H:Array Obj)(Q:Exit->Act->World->Prop):Prop:=
 ∀a w,Agree n ds e a->w.heap=H->Same w0 w->Closed .any ops L->fV fs L w->BB ro P .any ops (QN Q) (fV fs) fuel L a w
section
variable {P:Program} {n:Nat} {w0:World} {e:Env} {H:Array Obj} {Q:Exit->Act->World->Prop} {c:Code} {ops:Array Oper} {fs:Facts} {fuel:Nat} {L:Array Bool}
theorem uP(id:Nat)(ops:Array Oper)(fs:Facts)(k:Nat)(L:Array Bool)(j:c=.region id ops true)(hm:P.follows .mixedOrders=true)(f:Region.noSelect ops=true)(hk:ops.size=k)(g:Array.replicate k false=L)(l:aE fs L H)
  (h:yO ro P n ds w0 ops fs k L e H Q):At n ds w0 e H (c.wpR ro P Q):=λa w i d b=>by
 rw[j]
 refine wpIn_mono (wpIn_region_any hm ?_) QN.imp
 subst hk;subst g
 refine pE _ _ _ _ (h a _ i ?_ ?_ (Closed.none _ rfl) ?_)
 ·exact d
 ·exact⟨b.os,b.tape,b.output,Nat.le_succ_of_le b.drawn⟩
 ·exact aE.ok (by show aE fs _ w.heap;rw[d];exact l)
theorem yq(id:Nat)(ops:Array Oper)(fs:Facts)(k:Nat)(L:Array Bool)(d:aE fs L H)(h:yO ro P n ds w0 ops fs k L e H Q)(b:c=.region id ops true:=by kernel_rfl)(hm:P.follows .mixedOrders=true:=by kernel_rfl)(f:Region.noSelect ops=true:=by kernel_rfl)(hk:ops.size=k:=by kernel_rfl)(a:Array.replicate k false=L:=by kernel_rfl):At n ds w0 e H (c.wpR ro P Q):=uP id ops fs k L b hm f hk a d h
theorem yl(d:Region.ready .any ops L=[])(h:At n ds w0 e H (Q .normal)):yO ro P n ds w0 ops fs fuel L e H Q:=λa w b i g _ _=>by
 cases fuel with
 | zero=>exact⟨d,h a w b i g⟩
 | succ f=>exact⟨λ_=>h a w b i g,by rw[d];simp⟩
theorem yz(h:At n ds w0 e H (Q .normal))(a:Region.ready .any ops L=[]:=by kernel_rfl):yO ro P n ds w0 ops fs fuel L e H Q:=yl a h
theorem eq(e':Env)(d:Sub e' e)(h:yO ro P n ds w0 ops fs fuel L e' H Q):yO ro P n ds w0 ops fs fuel L e H Q:=λa w b=>h a w (b.sub d)
theorem yv(e':Env)(a:e=e')(h:yO ro P n ds w0 ops fs fuel L e' H Q):yO ro P n ds w0 ops fs fuel L e H Q:=a▸h
theorem kB{i:Nat}{w:World}{d:Option Tmp}{r:Result Next}(h:dE P ops i e w=some (d,r)): ∃o,ops[i]?=some o/\lH ops e o=some true/\mI e o=true/\o.dst=d/\(execOp (Be e) o).run P w=r:=by
 obtain⟨o,j,a,b,f,g⟩:=jE h
 refine⟨o,?_,a,b,f,g⟩
 have:ops.toList[i]?=some o:=by
  have:=CJ List.head? j
  simpa[List.head?_drop]using this
 simpa using this
theorem ow(i:Nat)(d:Option Tmp)(v:Value)(C:Array Bool)(e':Env)(S:Sem Next)(E: ∀w,dE P ops i e w=some (d,S.run P w))
  (J: ∀L w,Closed .any ops L->L.getD i true=false->fV fs L w->S.run P w=.ok (.value v) w)
  (O:(Region.ready .any ops L).contains i=true) (q:Region.noSelect ops=true) (b:kK ops=true) (N:Region.free .any ops L i=true) (l:fs.all (λf=>f.1 !=i)=true) (I:L.setIfInBounds i true=C) (M:fU n e d v e')
  (h:yO ro P n ds w0 ops fs fuel C e' H Q):yO ro P n ds w0 ops fs (fuel+1) L e H Q:=λa w u T R D k=>by
 obtain⟨o,r,g,B,j,_⟩:=kB (E default)
 subst I
 have m:i∈Region.ready .any ops L:=by simpa using O
 refine qP (oi:=o) (v:=v) r (Region.noSelect_spec q) (lx b) (λ_ _ _ h=>h) (fV.set l) fuel L a w (Region.free_spec r N) D m ?_ k ?_
 ·refine⟨λc=>lx b i o c r,.inl ⟨u.wanted g,λG F z s t=>?_⟩⟩
  obtain⟨U,A,_,_,_,p⟩:=kB (E F)
  obtain rfl:o=U:=DH (r.symm.trans A)
  rw[u.exec B,p]
  exact J G F z s t
 ·subst j
  exact h _ _ (u.putSub M) T R (D.set m) ((fV.set l L w).2 k)
theorem vz(i:Nat)(d:Option Tmp)(t:Array Bool)(e':Env)(s:(ops[i]?).bind (λo=>(lH ops e o).map (λb=>(o.dst,b)))=some (d,false))
  (D:(Region.ready .any ops L).contains i=true) (r:Region.noSelect ops=true) (g:kK ops=true) (C:Region.free .any ops L i=true) (m:fs.all (λf=>f.1 !=i)=true) (A:L.setIfInBounds i true=t) (B:fU n e d undef e')
  (h:yO ro P n ds w0 ops fs fuel t e' H Q):yO ro P n ds w0 ops fs (fuel+1) L e H Q:=λa w u F E z l=>by
 cases p:ops[i]? with
 | none=>rw[p]at s;cases s
 | some o=>
  simp only[p,Option.bind_some,Option.map_eq_some_iff,DB]at s
  obtain⟨b,j,k,rfl⟩:=s
  subst A
  have q:i∈Region.ready .any ops L:=by simpa using D
  refine qP (oi:=o) (v:=undef) p (Region.noSelect_spec r) (lx g) (λ_ _ _ h=>h) (fV.set m) fuel L a w (Region.free_spec p C) z q ⟨λc=>lx g i o c p,.inr ⟨u.wanted j,rfl⟩⟩ l ?_
  subst k
  exact h _ _ (u.putSub B) F E (z.set q) ((fV.set m L w).2 l)
theorem qQ{vs:List Value}{j:Nat}(k:Nat)(hm:(k,i,vs)∈fs)(a:mM .any ops 16 k j=true\/Nat.ble ops.size k=true){L:Array Bool}{w:World}(d:Closed .any ops L)(b:L.getD j true=false)(g:fV fs L w):aL w.heap i 0 vs:=by
 refine g _ hm ?_
 rcases a with a | a
 ·cases hk:L.getD k false with
  | false=>rfl
  | true=>
   have:=oR d a hk
   have f:L.getD j false=false:=by
    rcases C6 j L.size with h | h
    ·simp[h]at b⊢;exact b
    ·simp[Array.getElem?_eq_none h]
   rw[f]at this;cases this
 ·have:L.size<=k:=by rw[d.1];exact Nat.le_of_ble_eq_true a
  simp[Array.getElem?_eq_none this]
theorem jV{t:TypeId}{a:Addr}{i:Nat}(k:Nat)(h: ∀w,(isAgg t).run P w=.ok false w)(hm:(k,a,[d])∈fs)(j:mM .any ops 16 k i=true\/Nat.ble ops.size k=true):
  ∀L w,Closed .any ops L->L.getD i true=false->fV fs L w->(aQ t (Vq a)).run P w=.ok (.value d) w:=λ_ w f b g=>
 ke (H:=w.heap) (gJ h (qQ k hm j f b g).1) w rfl
theorem yY{t:TypeId}{a:Addr}{v:Value}{i:Nat}(k:Nat)(hm:(k,a,[v])∈fs)(b: ∀w,(isAgg t).run P w=.ok false w:=by intro _;kernel_rfl)(d:mM .any ops 16 k i=true:=by kernel_rfl):∀L w,Closed .any ops L->L.getD i true=false->fV fs L w->(aQ t (Vq a)).run P w=.ok (.value v) w:=jV k b hm (.inl d)
theorem lJ{t:TypeId}{a:Addr}{vs:List Value}{i:Nat}(k:Nat)(g: ∀w,(isAgg t).run P w=.ok true w)(hn: ∀w,(sizeOf t).run P w=.ok vs.length w)(hm:(k,a,vs)∈fs)(h:mM .any ops 16 k i=true\/Nat.ble ops.size k=true):
  ∀L w,Closed .any ops L->L.getD i true=false->fV fs L w->(aQ t (Vq a)).run P w=.ok (.value (.agg vs.toArray)) w:=λ_ w d b f=>
 ke (H:=w.heap) (eR g hn (qQ k hm h d b f)) w rfl
theorem ox(i:Nat)(d:Option Tmp)(m:Array Bool)(S:Sem Next)(R:Value->Array Obj->Prop)(s:Region.ready .any ops L=[i])(J: ∀w,dE P ops i e w=some (d,S.run P w))(C:SS P S H R)(A:L.setIfInBounds i true=m)
  (h: ∀v H',R v H'-> ∃e',fU n e d v e'/\aE fs m H'/\yO ro P n ds w0 ops fs fuel m e' H' Q):yO ro P n ds w0 ops fs (fuel+1) L e H Q:=λa w p I F D _=>by
 obtain⟨o,E,f,r,g,l⟩:=kB (J w)
 refine⟨λu=>(by rw[s]at u;cases u),λj z=>?_⟩
 have t:i∈Region.ready .any ops L:=by rw[s];simp
 rw[s]at z
 obtain rfl:j=i:=by simpa using z
 unfold wpOpIn
 simp only[E]
 rw[p.wanted f]
 simp only[if_true]
 refine⟨λ_ _=>trivial,?_⟩
 rw[p.sem r,l]
 obtain⟨v,M,G,b,B⟩:=C w I
 rw[G]
 obtain⟨e',q,k,hk⟩:=h v _ B
 subst A;subst g
 simp only[Oper.uponIn]
 exact⟨aE.ok k,hk _ _ (p.putSub q) rfl (F.trans b) (D.set t) (aE.ok k)⟩
theorem fH(i:Nat)(d:Option Tmp)(p:Array Bool)(S:Sem Next)(R:Array Obj->Prop)(t:Region.ready .any ops L=[i])(J: ∀w,dE P ops i e w=some (d,S.run P w))
  (C: ∀w,w.heap=H-> ∃m,S.run P w=.ok .skip m/\Same w m/\R m.heap) (A:L.setIfInBounds i true=p)
  (h: ∀H',R H'-> ∃e',fU n e d undef e'/\aE fs p H'/\yO ro P n ds w0 ops fs fuel p e' H' Q):yO ro P n ds w0 ops fs (fuel+1) L e H Q:=λa w q I F D _=>by
 obtain⟨o,E,f,s,g,l⟩:=kB (J w)
 refine⟨λv=>(by rw[t]at v;cases v),λj z=>?_⟩
 have u:i∈Region.ready .any ops L:=by rw[t];simp
 rw[t]at z
 obtain rfl:j=i:=by simpa using z
 unfold wpOpIn
 simp only[E]
 rw[q.wanted f]
 simp only[if_true]
 refine⟨λ_ _=>trivial,?_⟩
 rw[q.sem s,l]
 obtain⟨m,G,b,B⟩:=C w I
 rw[G]
 obtain⟨e',r,k,hk⟩:=h _ B
 subst A;subst g
 simp only[Oper.uponIn]
 exact⟨aE.ok k,hk _ _ (q.putSub r) rfl (F.trans b) (D.set u) (aE.ok k)⟩
theorem xR(i:Nat)(d:Option Tmp)(q:Array Bool)(f:FuncId)(args:Array Value)(z:Region.ready .any ops L=[i])(N: ∀w,dE P ops i e w=some (d,.ok (.enter f args) w)){R:Value->Array Obj->Prop}(b:HC P f args H R)(D:L.setIfInBounds i true=q)
  (h: ∀v H',R v H'-> ∃e',fU n e d v e'/\aE fs q H'/\yO ro P n ds w0 ops fs fuel q e' H' Q):yO ro P n ds w0 ops fs (fuel+1) L e H Q:=λa w r M J F _=>by
 obtain⟨o,I,k,u,l,p⟩:=kB (N w)
 refine⟨λB=>(by rw[z]at B;cases B),λj C=>?_⟩
 have A:i∈Region.ready .any ops L:=by rw[z];simp
 rw[z]at C
 obtain rfl:j=i:=by simpa using C
 unfold wpOpIn
 simp only[I]
 rw[r.wanted k]
 simp only[if_true]
 refine⟨λ_ _=>trivial,?_⟩
 rw[r.sem u,p]
 simp only[Oper.uponIn]
 refine⟨λG=>(by cases G),Ex (show CallsIn (Am ro) _ P f args w _ from Ey.2 (b w M)) λen O ⟨v,t,g,E⟩=>?_⟩
 subst t
 obtain⟨e',s,m,hk⟩:=h v _ E
 subst D;subst l
 simp only[]
 exact⟨aE.ok m,hk _ _ (r.putSub s) rfl (J.trans g) (F.set A) (aE.ok m)⟩
theorem yx(i:Nat)(d:Option Tmp)(b:Array Bool)(f:FuncId)(args:Array Value){R:Value->Array Obj->Prop}(a:HC P f args H R)(h: ∀v H',R v H'-> ∃e',fU n e d v e'/\aE fs b H'/\yO ro P n ds w0 ops fs fuel b e' H' Q)(j:Region.ready .any ops L=[i]:=by kernel_rfl)(k: ∀w,dE P ops i e w=some (d,.ok (.enter f args) w):=by intro _;kernel_rfl)(g:L.setIfInBounds i true=b:=by kernel_rfl):yO ro P n ds w0 ops fs (fuel+1) L e H Q:=xR i d b f args j k a g h
theorem mO(i:Nat)(d:Option Tmp)(p:Array Bool)(f:Nat->Value)(o:Obj)(t:Region.ready .any ops L=[i])(F: ∀w,dE P ops i e w=some (d,.ok (.value (f w.heap.size)) {w with heap:=w.heap.push o}))(B:L.setIfInBounds i true=p)
  (h: ∀b H',b=H.size->H'=H.push o-> ∃e',fU n e d (f b) e'/\aE fs p H'/\yO ro P n ds w0 ops fs fuel p e' H' Q):yO ro P n ds w0 ops fs (fuel+1) L e H Q:=λa w q A E C _=>by
 obtain⟨G,D,g,s,k,m⟩:=kB (F w)
 refine⟨λv=>(by rw[t]at v;cases v),λj z=>?_⟩
 have u:i∈Region.ready .any ops L:=by rw[t];simp
 rw[t]at z
 obtain rfl:j=i:=by simpa using z
 unfold wpOpIn
 simp only[D]
 rw[q.wanted g]
 simp only[if_true]
 refine⟨λ_ _=>trivial,?_⟩
 rw[q.sem s,m]
 obtain⟨e',r,l,hk⟩:=h w.heap.size (w.heap.push o) (by rw[A]) (by rw[A])
 subst B;subst k
 simp only[Oper.uponIn]
 exact⟨aE.ok l,hk _ _ (q.putSub r) rfl (E.trans ⟨rfl,rfl,rfl,by simp⟩) (C.set u) (aE.ok l)⟩
def uA(ro:Option Nat)(P:Program)(n:Nat)(ds:List Deferred)(w0:World)(ops:Array Oper)(fs:Facts)(fuel:Nat)(L:Array Bool)(e:Env)(H:Array Obj)(Q:Exit->Act->World->Prop)(i:Nat):Prop:=
 ∀a w,Agree n ds e a->w.heap=H->Same w0 w->Closed .any ops L->wpOpIn (Am ro) 0 P ops (QN Q) i (λa' w'=>fV fs (L.setIfInBounds i true) w'/\BB ro P .any ops (QN Q) (fV fs) fuel (L.setIfInBounds i true) a' w') a w
theorem pF(i j:Nat)(g:Region.ready .any ops L=[i,j])(m:uA ro P n ds w0 ops fs fuel L e H Q i)(o:uA ro P n ds w0 ops fs fuel L e H Q j):yO ro P n ds w0 ops fs (fuel+1) L e H Q:=λa w d l h f _=>by
 refine⟨λb=>(by rw[g]at b;cases b),λk hk=>?_⟩
 rw[g]at hk
 rcases CR.1 hk with rfl | hk
 ·exact m a w d l h f
 ·obtain rfl:k=j:=by simpa using hk
  exact o a w d l h f
theorem pG(i:Nat)(d:Option Tmp)(p:Array Bool)(f:FuncId)(args:Array Value)(E:List.elem i (Region.ready .any ops L)=true)(I: ∀w,dE P ops i e w=some (d,.ok (.enter f args) w)){R:Value->Array Obj->Prop}(b:HC P f args H R)(z:L.setIfInBounds i true=p)
  (h: ∀v H',R v H'-> ∃e',fU n e d v e'/\aE fs p H'/\yO ro P n ds w0 ops fs fuel p e' H' Q):uA ro P n ds w0 ops fs fuel L e H Q i:=λa w q G F B=>by
 obtain⟨o,D,j,t,k,m⟩:=kB (I w)
 have u:i∈Region.ready .any ops L:=List.elem_iff.1 E
 unfold wpOpIn
 simp only[D]
 rw[q.wanted j]
 simp only[if_true]
 refine⟨λ_ _=>trivial,?_⟩
 rw[q.sem t,m]
 simp only[Oper.uponIn]
 refine⟨λC=>(by cases C),Ex (show CallsIn (Am ro) _ P f args w _ from Ey.2 (b w G)) λen J ⟨v,s,g,A⟩=>?_⟩
 subst s
 obtain⟨e',r,l,hk⟩:=h v _ A
 subst z;subst k
 simp only[]
 exact⟨aE.ok l,hk _ _ (q.putSub r) rfl (F.trans g) (B.set u) (aE.ok l)⟩
theorem su(i:Nat)(d:Option Tmp)(m:Array Bool)(f:Nat->Value)(o:Obj)(A:List.elem i (Region.ready .any ops L)=true)(C: ∀w,dE P ops i e w=some (d,.ok (.value (f w.heap.size)) {w with heap:=w.heap.push o}))(u:L.setIfInBounds i true=m)
  (h: ∀b H',b=H.size->H'=H.push o-> ∃e',fU n e d (f b) e'/\aE fs m H'/\yO ro P n ds w0 ops fs fuel m e' H' Q):uA ro P n ds w0 ops fs fuel L e H Q i:=λa w p t B v=>by
 obtain⟨D,z,g,r,j,l⟩:=kB (C w)
 have s:i∈Region.ready .any ops L:=List.elem_iff.1 A
 unfold wpOpIn
 simp only[z]
 rw[p.wanted g]
 simp only[if_true]
 refine⟨λ_ _=>trivial,?_⟩
 rw[p.sem r,l]
 obtain⟨e',q,k,hk⟩:=h w.heap.size (w.heap.push o) (by rw[t]) (by rw[t])
 subst u;subst j
 simp only[Oper.uponIn]
 exact⟨aE.ok k,hk _ _ (p.putSub q) rfl (B.trans ⟨rfl,rfl,rfl,by simp⟩) (v.set s) (aE.ok k)⟩
end
def dO(H:Array Obj)(b:Option Addr)(xs:List Value):Prop:=
 match b with
 | none=>xs=[]
 | some a=>aL H a 0 xs
@[simp] theorem DF {H:Array Obj} {xs:List Value}:dO H none xs=(xs=[]):=rfl
@[simp] theorem SrcAt_some {H:Array Obj} {a:Addr} {xs:List Value}:dO H (some a) xs=aL H a 0 xs:=rfl
theorem lK{P:Program}{w:World}{g n c:Nat}{b:Option Addr}{d:List Value}(h:dO w.heap b d)(f:b≠none->d.length=n*g):(Builtin.firstCells g n (vs b n c)).run P w=.ok d.toArray w:=by
 cases b with
 | none=>simp only[DF]at h;subst h;rfl
 | some a=>
  have f:=f (by simp)
  show Sem.run P (loadCells a (n*g)) w=_
  rw[<-f]
  unfold loadCells
  rw[lZ (P:=P) d 0 #[] h]
  simp
def cF(ats:Array TypeId)(ty:TypeId)(args:Array Value):Sem Next:=do pure (.value (<-Builtin.append_ ats ty args))
def bH(sz T bytes:Nat)(zero:List Value)(base:Option Addr)(n c:Nat)(xb:Option Addr)(m:Nat)(H:Array Obj)(K:Option Addr->Nat->Array Obj->Prop):Prop:=
 ∃xs:List Value,dO H xb xs/\(xb≠none->xs.length=m*sz)/\kz xs=true/\
  (n+m<=c->eU base (K none c H) (λa=>aH H (a.add (n*sz)) 0 xs.length/\K (some a) c (aP H (a.add (n*sz)) xs 0)))/\
  (c<n+m-> ∃ys:List Value,dO H base ys/\(base≠none->ys.length=n*sz)/\Builtin.nextslicecap (n+m) c*bytes<=2 ^ 48/\
   ∀(c' b:Nat) (H':Array Obj),n+m<=c'->b=H.size->H'=H.push (.cells ((ys++xs).toArray++Builtin.zeroCells zero.toArray (c'-(n+m))) T)->K (some ⟨b,0,none⟩) c' H')
theorem bJ{P:Program}{H:Array Obj}{ty sT N T sz bytes:Nat}{zero:Value}{f:TypeInfo}{K:Option Addr->Nat->Array Obj->Prop}{i O:Option Addr}{n c m xc:Nat}{d:TypeDesc}
  (hu:P.underlying sT=some (.slice T)) (I:P.underlying N=some d) (hd:(match d with | .int _=>true | _=>false)=false)
  (Z:P.info? T=some f) (a3:f.size=sz) (hb:f.bytes=bytes) (V:bytes≠0) (hz:f.zero=some zero)
  (h:bH sz T bytes zero.cells.toList i n c O m H K):
  SS P (cF #[sT,N] ty #[vs i n c,vs O m xc]) H (λv H'=> ∃b' c',v=vs b' (n+m) c'/\K b' c' H'):=λw s=>by
 obtain⟨D,hx,J,G,F,z⟩:=h
 have j: ∀k,d≠.int k:=λk hk=>by subst hk;simp at hd
 have ak:(Sem.run P (do let r<-underlying N;pure (match r with | .int _=>true | _=>false):Sem Bool) w)=.ok false w:=by
  rw[CL (x:=d) (w':=w) (by simp[underlying,program,Sem.run,I,Dr,pure,Result.andThen])]
  cases d<;>first | rfl | exact absurd rfl (j _)
 have g: ∀w,(sizeOf T).run P w=.ok sz w:=λw=>by simp[sizeOf,typeInfo,program,Sem.run,Dr,Z,a3,pure,Result.andThen]
 have B: ∀w,(typeInfo T).run P w=.ok f w:=λw=>by simp[typeInfo,program,Sem.run,Dr,Z,pure,Result.andThen]
 have a5: ∀w,(zeroValue T).run P w=.ok zero w:=λw=>by simp[zeroValue,typeInfo,program,Sem.run,Dr,Z,hz,pure,Result.andThen]
 have C: ∀w,(underlying sT).run P w=.ok (.slice T) w:=λw=>by simp[underlying,program,Sem.run,hu,Dr,pure,Result.andThen]
 have l: ∀w,(underlying N).run P w=.ok d w:=λw=>by simp[underlying,program,Sem.run,I,Dr,pure,Result.andThen]
 have E:(Builtin.firstCells sz m (vs O m xc)).run P w=.ok D.toArray w:=lK (by rw[s];exact hx) J
 by_cases p:n+m<=c
 ·have hk:=F p
  cases i with
  | none=>
   refine⟨_,w,?_,D0 w,none,c,rfl,by rw[s];exact hk⟩
   unfold cF
   rw[CL (x:=Value.slice none (n+m) c) (w':=w)]
   ·rfl
   ·unfold Builtin.append_
    simp only[List.getElem?_toArray,List.getElem?_cons_zero,List.getElem?_cons_succ]
    rw[CL (C w)]
    simp only[]
    rw[CL (g w)]
    simp only[DD]
    rw[CL (l w)]
    cases d<;>first | exact absurd rfl (j _) | (simp only[Dj,Df,Builtin.lenOf,DD,C5,if_true,p];rw[CL E];rfl)
  | some a=>
   simp only[CK]at hk
   obtain⟨w',a2,hs,hh⟩:=lI (P:=P) (a:=a.add (n*sz)) D 0 w G (by rw[s];exact hk.1)
   refine⟨_,w',?_,hs,some a,c,rfl,by rw[hh,s];exact hk.2⟩
   unfold cF
   rw[CL (x:=Value.slice (some a) (n+m) c) (w':=w')]
   ·rfl
   ·unfold Builtin.append_
    simp only[List.getElem?_toArray,List.getElem?_cons_zero,List.getElem?_cons_succ]
    rw[CL (C w)]
    simp only[]
    rw[CL (g w)]
    simp only[DD]
    rw[CL (l w)]
    cases d<;>first | exact absurd rfl (j _) | (simp only[Dj,Df,Builtin.lenOf,DD,C5,if_true,p];rw[CL E];simp only[];rw[CL a2];rfl)
 ·have a0:c<n+m:=by omega
  obtain⟨R,hy,a4,ab,hk⟩:=z a0
  have Y: ∀b:World,b.heap=w.heap->(Builtin.firstCells sz n (vs i n c)).run P b=.ok R.toArray b:=λb U=>lK (by rw[U,s];exact hy) a4
  have X: ∀b:World,b.heap=w.heap->(Builtin.firstCells sz m (vs O m xc)).run P b=.ok D.toArray b:=λb U=>lK (by rw[U,s];exact hx) J
  let q:Question:=.appendCap (n+m) c T
  let t:Nat:=q.cut (w.tape w.drawn q)
  have a1:n+m<=t:=Nat.le_add_right _ _
  let b:World:={w with drawn:=w.drawn+1}
  let o:Obj:=.cells ((R++D).toArray++Builtin.zeroCells zero.cells (t-(n+m))) T
  let M:World:={b with heap:=b.heap.push o}
  refine⟨vs (some ⟨w.heap.size,0,none⟩) (n+m) t,M,?_,⟨rfl,rfl,rfl,Nat.le_succ _⟩,_,t,rfl,?_⟩
  ·have W:(choose q:Sem Nat).run P w=.ok t b:=by
    show Sem.run P (Sem.choose q Sem.pure) w=_
    simp only[Sem.run,q,Question.forced,Dj,Df]
    rfl
   have A: ∀k,(askRoom k:Sem Unit).run P b=.ok () b:=λk=>by
    unfold askRoom
    split<;>rfl
   unfold cF
   rw[CL (x:=Value.slice (some ⟨w.heap.size,0,none⟩) (n+m) t) (w':=M)]
   ·rfl
   ·unfold Builtin.append_
    simp only[List.getElem?_toArray,List.getElem?_cons_zero,List.getElem?_cons_succ]
    rw[CL (C w)]
    simp only[]
    rw[CL (g w)]
    simp only[DD]
    rw[CL (l w)]
    have u: ¬(Builtin.nextslicecap (n+m) c*bytes>2 ^ 48):=by omega
    cases d<;>first | exact absurd rfl (j _) | (
     simp only[Dj,Df,Builtin.lenOf,DD,C5,if_true,p,false_or]
     rw[CL (B w)]
     simp only[hb,V,and_false,Df]
     rw[CL (B w)]
     simp only[hb,u,Df]
     rw[CL W]
     rw[CL (B b)]
     rw[CL (A _)]
     rw[CL (Y b rfl)]
     rw[CL (X b rfl)]
     rw[CL (a5 b),show R.toArray++D.toArray=(R++D).toArray by simp]
     rfl)
  ·show K (some ⟨w.heap.size,0,none⟩) t M.heap
   exact hk t w.heap.size M.heap a1 (by rw[s]) (by show w.heap.push o=_;rw[s])
def mn(t:TypeId)(l c:Value):Sem Next:=do pure (.value (<-Instr.makeSlice t l c))
theorem uB{P:Program}{H:Array Obj}{t T:TypeId}{a:TypeInfo}{zero:Value}{l c:Int}(C:P.underlying t=some (.slice T))(h:P.info? T=some a)(D:a.zero=some zero)
  (G:0<=l) (I:l<=c) (J:a.bytes*c<=2 ^ 48) (M:c<=9223372036854775807) (p:a.size=zero.cells.size) (q:a.size≠0):
  SS P (mn t (vi l) (vi c)) H (λv H'=>v=vs (some ⟨H.size,0,none⟩) l.toNat c.toNat/\H'=H.push (.cells (Builtin.zeroCells zero.cells c.toNat) T)):=λw m=>by
 have i: ∀w,(typeInfo T).run P w=.ok a w:=λw=>by simp[typeInfo,program,Sem.run,Dr,h,pure,Result.andThen]
 have o: ∀w,(zeroValue T).run P w=.ok zero w:=λw=>by simp[zeroValue,typeInfo,program,Sem.run,Dr,h,D,pure,Result.andThen]
 have j: ∀w,(underlying t).run P w=.ok (.slice T) w:=λw=>by simp[underlying,program,Sem.run,C,Dr,pure,Result.andThen]
 have g: ∀w,(sizeOf T).run P w=.ok a.size w:=λw=>by simp[sizeOf,typeInfo,program,Sem.run,Dr,h,pure,Result.andThen]
 have d: ∀k,(askRoom k:Sem Unit).run P w=.ok () w:=λk=>by
  unfold askRoom
  split<;>rfl
 have F:IntKind.wrap .i64 l=l:=Go.IntWalk.i64_in l (by omega)
 have E:IntKind.wrap .i64 c=c:=Go.IntWalk.i64_in c (by omega)
 refine⟨_,{w with heap:=w.heap.push (.cells (Builtin.zeroCells zero.cells c.toNat) T)},?_,⟨rfl,rfl,rfl,CU _⟩,rfl,by rw[m]⟩
 unfold mn
 rw[CL (x:=Value.slice (some ⟨H.size,0,none⟩) l.toNat c.toNat) (w':={w with heap:=w.heap.push (.cells (Builtin.zeroCells zero.cells c.toNat) T)})]
 ·rfl
 ·unfold Instr.makeSlice
  rw[CL (j w)]
  simp only[asInt,asIntOf,DD]
  rw[CL (i w)]
  simp only[F,E]
  have s: ¬(c<0):=by omega
  have u: ¬((a.bytes:Int)*c>2 ^ 48):=by omega
  have z: ¬(l<0):=by omega
  have A: ¬(l>c):=by omega
  simp only[s,u,z,A,decide_false,Bool.or_false,Bool.false_or,Dj,Df]
  rw[CL (d _),CL (g w)]
  by_cases b:c.toNat*a.size=0
  ·have r:Builtin.zeroCells zero.cells c.toNat= #[]:=by unfold Builtin.zeroCells;rw[<-p,b];simp
   simp only[b,if_true]
   rw[r,<-m]
   have B: ∀f:Nat->Value,Array.map f (Array.range 0)= #[]:=λf=>by simp
   rw[B]
   rfl
  ·simp only[b,Df]
   rw[CL (o w),<-m]
   unfold Builtin.zeroCells
   rw[<-p]
   rfl
structure Ext (H H':Array Obj):Prop where
 size:H.size<=H'.size
 old: ∀i,i<H.size->H'[i]?=H[i]?
theorem Ext.refl(H:Array Obj):Ext H H:=⟨CU _,λ_ _=>rfl⟩
theorem CW:type_of% @Ext.refl:=@Ext.refl
theorem Ext.trans{a b c:Array Obj}(h:Ext a b)(k:Ext b c):Ext a c:=
 ⟨Dz h.size k.size,λi d=>(k.old i (DJ d h.size)).trans (h.old i d)⟩
theorem Ext.push(H:Array Obj)(o:Obj):Ext H (H.push o):=
 ⟨by simp,λi a=>by rw[Array.getElem?_push,za (by omega)]⟩
theorem Ext.push'{H H':Array Obj}{o:Obj}(h:H'=H.push o):Ext H H':=h▸Ext.push H o
theorem CI:type_of% @Ext.push':=@Ext.push'
theorem Ext.get{H H':Array Obj}(h:Ext H H'){b:Nat}{o:Obj}(a:H[b]?=some o):H'[b]?=some o:=by
 have:b<H.size:=by
  rcases C6 b H.size with h | h
  ·exact h
  ·simp[Array.getElem?_eq_none h]at a
 rw[h.old b this];exact a
theorem Ext.hat{H H':Array Obj}(h:Ext H H'){a:Addr}{v:Value}(b:hat H a=some v):hat H' a=some v:=by
 unfold Go.Proofs.YtfhbhckhmnleoaaGreat.hat at*
 cases d:H[a.block]? with
 | none=>simp[d]at b
 | some o=>rw[h.get d];rw[d]at b;exact b
theorem aF{H H':Array Obj}{b:Nat}{o:Obj}(d:b=H.size)(a:H'=H.push o):H'[b]?=some o:=by
 subst d;subst a;simp
theorem aS{H:Array Obj}{b:Nat}{o:Obj}(h:H[b]?=some o):b<H.size:=by
 rcases C6 b H.size with a | a
 ·exact a
 ·simp[Array.getElem?_eq_none a]at h
theorem aI{H:Array Obj}{b o:Nat}{a:Array Value}{d:Nat×Nat}(h:H[b]?=some (.cells a j d)):hat H ⟨b,o,none⟩=a[o]?:=by
 unfold hat;simp[h]
theorem tP{H:Array Obj}{b o:Nat}{a:Array Value}(h:H[b]?=some (.cells a j (0,0)))(d:o<a.size):ov H ⟨b,o,none⟩:=by
 refine⟨by rw[aI h];simp[d],?_⟩
 unfold BT;simp[h]
theorem cR{H:Array Obj}{b:Nat}{a:Array Value}{T:TypeId}(h:H[b]?=some (.cells a T (0,0))): ∀(n o i:Nat),o+i+n<=a.size->aH H ⟨b,o,none⟩ i n
 | 0,_,_,_=>trivial
 | n+1,o,i,hn=>⟨by rw[CH];exact tP h (by omega),cR h n o (i+1) (by omega)⟩
def aM(H:Array Obj)(b:Nat)(o:Obj):Array Obj:=H.setIfInBounds b o
theorem aT{H:Array Obj}{b:Nat}{o:Obj}(a:b<H.size):(aM H b o)[b]?=some o:=by
 unfold aM;simp[a]
theorem iY{H:Array Obj}{b a:Nat}{o:Obj}(d:b≠a):(aM H b o)[a]?=H[a]?:=by
 unfold aM;rw[Array.getElem?_setIfInBounds_ne d]
@[simp] theorem setBlk_size {H:Array Obj} {b:Nat} {o:Obj}:(aM H b o).size=H.size:=by unfold aM;simp
theorem sw{H:Array Obj}{b:Nat}{o:Obj}(h:H[b]?=some o):aM H b o=H:=by
 refine Array.ext_getElem? λi=>?_
 by_cases a:b=i
 ·subst a;rw[aT (aS h),h]
 ·rw[iY a]
theorem nM{H:Array Obj}{b:Nat}{o a:Obj}:aM (aM H b o) b a=aM H b a:=by
 unfold aM;simp
def splice(cs:Array Value)(o:Nat):List Value->Array Value
 | []=>cs
 | v::vs=>splice (cs.setIfInBounds o v) (o+1) vs
@[simp] theorem DK (cs:Array Value): ∀(vs:List Value) (o:Nat),(splice cs o vs).size=cs.size
 | [],_=>rfl
 | v::vs,o=>by simp only[splice];rw[DK _ vs (o+1)];simp
theorem eF(a:Array Value): ∀(vs:List Value) (o i:Nat),i<o->(splice a o vs)[i]?=a[i]?
 | [],_,_,_=>rfl
 | v::vs,o,i,h=>by simp only[splice];rw[eF _ vs (o+1) i (by omega),Array.getElem?_setIfInBounds_ne (by omega)]
theorem iO(a:Array Value): ∀(vs:List Value) (o i:Nat),o+vs.length<=i->(splice a o vs)[i]?=a[i]?
 | [],_,_,_=>rfl
 | v::vs,o,i,h=>by
  simp only[List.length_cons]at h
  simp only[splice];rw[iO _ vs (o+1) i (by omega),Array.getElem?_setIfInBounds_ne (by omega)]
theorem fO(a:Array Value): ∀(vs:List Value) (o j:Nat),o+vs.length<=a.size->j<vs.length->(splice a o vs)[o+j]?=vs[j]?
 | [],_,_,_,h=>by simp at h
 | v::vs,o,0,h,_=>by
  simp only[List.length_cons]at h
  simp only[splice,Nat.add_zero,List.getElem?_cons_zero]
  rw[eF _ vs (o+1) o (by omega)]
  have b:o<a.size:=by omega
  simp[b]
 | v::vs,o,j+1,h,hj=>by
  simp only[List.length_cons]at h hj
  simp only[splice,List.getElem?_cons_succ]
  have:=fO (a.setIfInBounds o v) vs (o+1) j (by simp;omega) (by omega)
  rw[show o+(j+1)=o+1+j by omega];exact this
theorem vA{H:Array Obj}{b o:Nat}{d:Array Value}{f:Nat×Nat}(h:H[b]?=some (.cells d j f))(v:Value):zE H ⟨b,o,none⟩ v=aM H b (.cells (d.setIfInBounds o v) j f):=by
 refine Array.ext_getElem? λi=>?_
 unfold zE
 rw[Array.getElem?_modify]
 by_cases a:b=i
 ·subst a;rw[qB rfl,h,aT (aS h)];rfl
 ·rw[za a,iY a]
theorem bY{b:Nat}{T:TypeId}{d:Nat×Nat}: ∀(vs:List Value) (H:Array Obj) (a:Array Value) (o i:Nat),H[b]?=some (.cells a T d)->aP H ⟨b,o,none⟩ vs i=aM H b (.cells (splice a (o+i) vs) T d)
 | [],H,a,o,i,h=>by simp only[aP,splice];rw[sw h]
 | v::vs,H,a,o,i,h=>by
  simp only[aP,CH,splice]
  rw[vA h,bY vs _ (a.setIfInBounds (o+i) v) o (i+1) (aT (aS h)),nM,show o+(i+1)=o+i+1 by omega]
theorem eJ{H:Array Obj}{b:Nat}{a:Array Value}{T:TypeId}{d:Nat×Nat}(h:H[b]?=some (.cells a T d)): ∀(vs:List Value) (o i:Nat),(∀j,j<vs.length->a[o+i+j]?=vs[j]?)->aL H ⟨b,o,none⟩ i vs
 | [],_,_,_=>trivial
 | v::vs,o,i,hv=>⟨by rw[CH,aI h];have:=hv 0 (by simp);simpa using this,
   eJ h vs o (i+1) λj f=>by have:=hv (j+1) (by simp;omega);rw[show o+(i+1)+j=o+i+(j+1)by omega,this];simp⟩
theorem gE{H:Array Obj}{a:Addr}: ∀{vs:List Value} {i:Nat},aL H a i vs-> ∀j v,vs[j]?=some v->hat H (a.add (i+j))=some v
 | [],_,_,j,v,hv=>by simp at hv
 | u::vs,i,h,0,v,hv=>by simp at hv;subst hv;exact h.1
 | u::vs,i,h,j+1,v,hv=>by
  have:=gE h.2 j v (by simpa using hv)
  rw[show i+(j+1)=i+1+j by omega];exact this
theorem Ext.rowAt{H H':Array Obj}(h:Ext H H'){a:Addr}: ∀{vs:List Value} {i:Nat},aL H a i vs->aL H' a i vs
 | [],_,_=>trivial
 | _::_,_,hr=>⟨h.hat hr.1,Ext.rowAt h hr.2⟩
theorem Ext.set{a H:Array Obj}(h:Ext a H){b:Nat}{o:Obj}(f:a.size<=b):Ext a (aM H b o):=
 ⟨by simpa using h.size,λi d=>by rw[iY (by omega)];exact h.old i d⟩
theorem boxed{H H1:Array Obj}{b:Nat}{d:Array Value}{vs:List Value}{n:Nat}(f:H[b]?=some (.cells d j (0,0)))(hn:d.size=n)(l:vs.length=n):
  aH H ⟨b,0,none⟩ 0 n/\(∀H1,H1=aP H ⟨b,0,none⟩ vs 0->aL H1 ⟨b,0,none⟩ 0 vs/\ ∀a:Array Obj,Ext a H->a.size<=b->Ext a H1):=by
 refine⟨cR f n 0 0 (by omega),λH1 i=>?_⟩
 rw[bY vs H d 0 0 f]at i
 subst i
 refine⟨eJ (aT (aS f)) vs 0 0 λm k=>?_,λa h g=>h.set g⟩
 rw[show 0+0+m=0+m by omega]
 exact fO d vs 0 m (by omega) k
theorem HC.via{P:Program}{f:FuncId}{args:Array Value}{H:Array Obj}{a:Value->Array Obj->Prop}(h: ∀R:Value->Array Obj->Prop,(∀v H',a v H'->R v H')->HC P f args H R):HC P f args H a:=h a λ_ _ h=>h
abbrev aD(w:Int):Prop:=0<=w/\w<18446744073709551616
theorem xT{n:Int}(h: -9223372036854775808<=n/\n<=9223372036854775807):IntKind.wrap .i64 n=n:=Go.IntWalk.i64_in n h
theorem Ad{n:Int}(h:0<=n/\n<=18446744073709551615):IntKind.wrap .u64 n=n:=Go.IntWalk.u64_in n h
theorem wR(n:Int):IntKind.wrap .u64 n=n % 18446744073709551616:=by
 unfold IntKind.wrap;simp only[IntKind.bits,IntKind.signed,Bool.false_and,Dj,Df];rfl
theorem ku{x:Int}(a:0<=x)(b:x<18446744073709551616):(BitVec.ofInt IntKind.u64.bits x).toNat=x.toNat:=by
 rw[BitVec.toNat_ofInt]
 show(x % ((2 ^ 64:Nat):Int)).toNat=_
 rw[Int.emod_eq_of_lt a (by simpa using b)]
theorem vB{x y:Int}(a:0<=x/\x<18446744073709551616)(b:0<=y/\y<18446744073709551616):yF .u64 x y=((x.toNat &&& y.toNat:Nat):Int):=by
 unfold yF
 rw[BitVec.toNat_and,ku a.1 a.2,ku b.1 b.2]
 apply Ad
 have:x.toNat &&& y.toNat<=x.toNat:=Nat.and_le_left
 omega
theorem wS{x y:Int}(a:0<=x/\x<18446744073709551616)(b:0<=y/\y<18446744073709551616):Bk .u64 x y=((x.toNat ||| y.toNat:Nat):Int):=by
 unfold Bk
 rw[BitVec.toNat_or,ku a.1 a.2,ku b.1 b.2]
 apply Ad
 have:x.toNat ||| y.toNat<2 ^ 64:=Nat.or_lt_two_pow (by omega) (by omega)
 omega
theorem oy{x:Int}(b:Nat)(g:b<64)(f:0<=x/\x<18446744073709551616)(m:Int)(hm:m=2 ^ b-1):yF .u64 x m=x % (2 ^ b:Int):=by
 have h:(0:Int)<2 ^ b:=Int.pow_pos (by decide)
 have d:(2:Nat) ^ b<=2 ^ 63:=EH (by decide) (by omega)
 have a:((2 ^ b:Nat):Int)=(2:Int) ^ b:=by simp
 rw[vB f (by omega),hm]
 have e:((2:Int) ^ b-1).toNat=2 ^ b-1:=by omega
 rw[e,Nat.and_two_pow_sub_one_eq_mod]
 have:x=(x.toNat:Int):=by omega
 rw[Int.natCast_emod,a,<-this]
theorem pn{x y:Int}(b:Nat)(k:0<=x/\x<18446744073709551616)(h:x % (2 ^ b:Int)=0)(l:0<=y/\y< (2 ^ b:Int))(g:b<=64):Bk .u64 x y=x+y:=by
 have a:((2 ^ b:Nat):Int)=(2:Int) ^ b:=by simp
 have j:(2:Nat) ^ b<=2 ^ 64:=EH (by decide) g
 rw[wS k (by omega)]
 have i:x.toNat % 2 ^ b=0:=by
  have:((x.toNat % 2 ^ b:Nat):Int)=0:=by rw[Int.natCast_emod,a,show((x.toNat:Nat):Int)=x by omega];exact h
  omega
 have f:x.toNat=2 ^ b*(x.toNat / 2 ^ b):=by
  have:=Nat.div_add_mod x.toNat (2 ^ b);omega
 have d:y.toNat<2 ^ b:=by omega
 rw[f,<-Nat.two_pow_add_eq_or_of_lt d,<-f]
 omega
theorem nN{k:IntKind}{x:Int}(y:Int)(n:Nat)(a:y=n)(hn:n<=k.bits):zc k x y=x / (2 ^ n:Int):=by
 unfold zc
 subst a
 rw[show min (n:Int).toNat k.bits=n by rw[DM];exact Nat.min_eq_left hn]
 rw[Int.fdiv_eq_ediv_of_nonneg _ (Int.pow_nonneg (by decide))]
theorem mP{x:Int}(y:Int)(n:Nat)(a:y=n)(hn:n<=64):zG .u64 x y=(x*2 ^ n) % 18446744073709551616:=by
 unfold zG
 subst a
 rw[show min (n:Int).toNat IntKind.u64.bits=n by rw[DM];exact Nat.min_eq_left hn,wR]
theorem jw{x y:Int}(a:0<=x):Int.tdiv x y=x / y:=Int.tdiv_eq_ediv_of_nonneg a
theorem jx{x y:Int}(a:0<=x):Int.tmod x y=x % y:=Int.tmod_eq_emod_of_nonneg a
theorem zZ{b:Bool}(h:¬b=true):b=false:=eq_false_of_ne_true h
theorem zX{p:Prop}[Decidable p](h:p):decide p=true:=decide_eq_true h
theorem zQ{p:Prop}[Decidable p](h:¬p):decide p=false:=decide_eq_false h
theorem zJ{α:Type}[BEq α][LawfulBEq α]{a b:α}(h:a≠b):(a==b)=false:=beq_eq_false_iff_ne.mpr h
theorem zK{α:Type}[BEq α][LawfulBEq α]{a b:α}(h:a=b):(a==b)=true:=beq_iff_eq.mpr h
theorem EM:type_of% @List.length_eq_zero_iff:=@List.length_eq_zero_iff
theorem EL:type_of% @List.length_range:=@List.length_range
theorem Ep:type_of% @List.getElem_of_mem:=@List.getElem_of_mem
theorem Eo:type_of% @of_decide_eq_true:=@of_decide_eq_true
theorem Ef:type_of% @Nat.zero_le:=@Nat.zero_le
theorem DX:type_of% @Nat.add_mul:=@Nat.add_mul
theorem DV:type_of% @Nat.mul_le_mul_right:=@Nat.mul_le_mul_right
theorem DC:type_of% @List.append_nil:=@List.append_nil
theorem Du:type_of% @List.mem_append_right:=@List.mem_append_right
theorem Dl:type_of% @List.length_map:=@List.length_map
theorem Dg:type_of% @List.mem_append_left:=@List.mem_append_left
theorem Dd:type_of% @Nat.mul_one:=@Nat.mul_one
theorem CV:type_of% @List.length_append:=@List.length_append
theorem CT:type_of% @List.mem_map:=@List.mem_map
theorem CS:type_of% @List.getElem_mem:=@List.getElem_mem
theorem CQ:type_of% @Nat.zero_add:=@Nat.zero_add
theorem CN:type_of% @decide_eq_true_eq:=@decide_eq_true_eq
variable{H k:zV}{d:TypeId}{i:zW}{j:List Value}
structure Fr (S:List Nat) (H H':zV):Prop where
 size:H.size<=H'.size
 old: ∀i,i<H.size->i ∉ S->H'[i]?=H[i]?
theorem Fr.refl(S:List Nat)(H:zV):Fr S H H:=⟨CU _,λ_ _ _=>rfl⟩
theorem Fr.trans'{S S' a:List Nat}{c:zV}(h:Fr S H k)(f:Fr S' k c)(d: ∀i,i∈S->i<H.size->i∈a)(e: ∀i,i∈S'->i<H.size->i∈a):Fr a H c:=
 ⟨Dz h.size f.size,λi b hn=>(f.old i (DJ b h.size) (λhm=>hn (e i hm b))).trans (h.old i b (λhm=>hn (d i hm b)))⟩
theorem Fr.trans{S:List Nat}{a b c:zV}(h:Fr S a b)(k:Fr S b c):Fr S a c:=h.trans' k (λ_ h _=>h) (λ_ h _=>h)
theorem Fr.mono{S S':List Nat}{a b:zV}(h:Fr S a b)(d: ∀i,i∈S->i<a.size->i∈S'):Fr S' a b:=
 ⟨h.size,λi c hn=>h.old i c λhm=>hn (d i hm c)⟩
theorem Ext.fr{S:List Nat}{a b:zV}(h:Ext a b):Fr S a b:=⟨h.size,λi c _=>h.old i c⟩
theorem Fr.ext{S:List Nat}{a b:zV}(h:Fr S a b)(d: ∀i,i∈S->a.size<=i):Ext a b:=
 ⟨h.size,λi c=>h.old i c λhm=>by have:=d i hm;omega⟩
theorem Ext.fr_trans{S:List Nat}{c:zV}(h:Ext H k)(d:Fr S k c)(b: ∀i,i∈S->H.size<=i):Ext H c:=
 ⟨Dz h.size d.size,λi a=>(d.old i (DJ a h.size) λhm=>by have:=b i hm;omega).trans (h.old i a)⟩
theorem Fr.get{S:List Nat}(h:Fr S H k){b:Nat}{o:Obj}(hn:b ∉ S)(a:H[b]?=some o):k[b]?=some o:=by
 rw[h.old b (aS a) hn];exact a
theorem Fr.set{b:Nat}{o:Obj}:Fr [b] H (aM H b o):=
 ⟨by simp,λi _ a=>by rw[iY (by simp at a;omega)]⟩
theorem Fr.hat{S:List Nat}{H d:zV}(h:Fr S H d){a:Addr}{v:Value}(hn:a.block ∉ S)(b:hat H a=some v):hat d a=some v:=by
 unfold Go.Proofs.YtfhbhckhmnleoaaGreat.hat at*
 cases c:H[a.block]? with
 | none=>simp[c]at b
 | some o=>rw[h.get hn c];rw[c]at b;exact b
theorem Fr.rowAt{S:List Nat}{H b:zV}(h:Fr S H b){a:Addr}(hn:a.block ∉ S): ∀{vs:List Value} {i:Nat},aL H a i vs->aL b a i vs
 | [],_,_=>trivial
 | _::_,_,hr=>⟨h.hat (by rw[show(a.add _).block=a.block by unfold Addr.add;split<;>rfl];exact hn) hr.1,Fr.rowAt h hn hr.2⟩
def Own(H:zV)(T:TypeId)(sz:Nat)(p:zW)(n c:Nat)(xs:List Value):Prop:=
 match p with
 | none=>n=0/\c=0/\xs=[]
 | some a=>a=⟨a.block,0,none⟩/\ ∃cs:Array Value,H[a.block]?=some (.cells cs T (0,0))/\cs.size=c*sz/\n<=c/\xs.length=n*sz/\ ∀j,j<n*sz->cs[j]?=xs[j]?
def kd(p:zW):List Nat:=match p with | none=> [] | some a=> [a.block]
@[simp] theorem blks_none:kd none=[]:=rfl
@[simp] theorem blks_some {a:Addr}:kd (some a)=[a.block]:=rfl
theorem gI{a:Nat}:Own H d a none 0 0 []:=⟨rfl,rfl,rfl⟩
theorem Own.len{H:zV}{sz n c:Nat}(h:Own H d sz i n c j):j.length=n*sz:=by
 cases i with
 | none=>obtain⟨rfl,rfl,rfl⟩:=h;simp
 | some a=>obtain⟨_,b,_,_,_,h,_⟩:=h;exact h
theorem Own.le{b n c:Nat}(h:Own H d b i n c j):n<=c:=by
 cases i with
 | none=>obtain⟨rfl,rfl,rfl⟩:=h;exact CU _
 | some a=>obtain⟨_,e,_,_,h,_,_⟩:=h;exact h
theorem Own.keep{S:List Nat}{e:zV}{f n c:Nat}(h:Own H d f i n c j)(k:Fr S H e)(o: ∀b,b∈kd i->b ∉ S):Own e d f i n c j:=by
 cases i with
 | none=>exact h
 | some a=>obtain⟨l,g,m,p⟩:=h;exact⟨l,g,k.get (o _ (by simp)) m,p⟩
theorem Own.ext{a:zV}{b n c:Nat}(h:Own H d b i n c j)(k:Ext H a):Own a d b i n c j:=
 h.keep (S:=[]) k.fr (λ_ _=>by simp)
theorem Own.lt{f n c:Nat}(h:Own H d f i n c j): ∀b,b∈kd i->b<H.size:=by
 cases i with
 | none=>intro b e;simp at e
 | some a=>obtain⟨_,g,e,_⟩:=h;intro b hm;simp at hm;subst hm;exact aS e
theorem Own.at{H:zV}{T:TypeId}{sz n c:Nat}{p:zW}{b:List Value}(h:Own H T sz p n c b){j:Nat}{v:Value}(d:b[j]?=some v): ∃a,p=some a/\hat H (a.add j)=some v:=by
 have i:j<b.length:=by
  rcases C6 j b.length with h | h
  ·exact h
  ·simp[List.getElem?_eq_none h]at d
 cases p with
 | none=>obtain⟨rfl,rfl,rfl⟩:=h;simp at i
 | some a=>
  obtain⟨e,k,f,_,_,l,g⟩:=h
  refine⟨a,rfl,?_⟩
  rw[e,CH,aI f,CQ,g j (by omega),d]
theorem kL{H:zV}{a:Addr}: ∀{vs:List Value} {i:Nat},(∀j v,vs[j]?=some v->hat H (a.add (i+j))=some v)->aL H a i vs
 | [],_,_=>trivial
 | v::vs,i,h=>⟨by have:=h 0 v rfl;simpa using this,kL λj u b=>by have:=h (j+1) u (by simpa using b);rw[show i+1+j=i+(j+1)by omega];exact this⟩
theorem Own.src{g n c:Nat}(h:Own H d g i n c j):dO H i j:=by
 cases i with
 | none=>obtain⟨rfl,rfl,rfl⟩:=h;rfl
 | some a=>
  refine kL λl v f=>?_
  obtain⟨k,b,e⟩:=h.at f
  cases b
  rw[CQ];exact e
theorem lL{z:Array Value}{n:Nat}:(Builtin.zeroCells z n).size=n*z.size:=by
 unfold Builtin.zeroCells;simp
theorem nj{z:Array Value}{n k j:Nat}(hk:k<n)(a:j<z.size):(Builtin.zeroCells z n)[k*z.size+j]?=z[j]?:=by
 have b:(k+1)*z.size<=n*z.size:=DV _ hk
 rw[DX,Nat.one_mul]at b
 unfold Builtin.zeroCells
 rw[Array.getElem?_map,Array.getElem?_range]
 rw[qB (by omega)]
 simp only[Option.map_some]
 rw[show(k*z.size+j) % z.size=j by rw[Nat.add_comm,Nat.add_mul_mod_self_right,Nat.mod_eq_of_lt a]]
 rw[getElem!_pos z j a,Array.getElem?_eq_getElem a]
theorem cI{e f n c m:Nat}{q:zW}{k xs ys:List Value}{K:zW->Nat->zV->Prop}
  (h:Own H d e i n c xs) (N:dO H q ys) (l:ys.length=m*e) (t:kz ys=true) (P:k.length=e) (r:(n+m)*f<=140737488355328)
  (z: ∀F v o,Own o d e F (n+m) v (xs++ys)->Fr (kd i) H o->(∀b,b∈kd F->b∈kd i\/H.size<=b)->K F v o):
  bH e d f k i n c q m H K:=by
 refine⟨ys,N,λ_=>l,t,λs=>?_,λE=>?_⟩
 ·cases i with
  | none=>
   obtain⟨rfl,rfl,rfl⟩:=h
   have hm:m=0:=by omega
   subst hm
   have O:ys=[]:=EM.1 (by omega)
   subst O
   exact z none 0 H ⟨rfl,rfl,rfl⟩ (Fr.refl _ _) (λb g=> .inl g)
  | some a=>
   obtain⟨G,w,g,I,hn,u,L⟩:=h
   have M:n*e+m*e<=w.size:=by rw[I,<-DX];exact DV _ s
   have J:a.add (n*e)=⟨a.block,n*e,none⟩:=by rw[G];simp
   rw[CK,J]
   refine⟨by rw[l];exact cR g _ _ _ (by omega),?_⟩
   rw[bY ys H w (n*e) 0 g,Nat.add_zero]
   refine z (some a) c _ ⟨G,splice w (n*e) ys,aT (aS g),by rw[DK];exact I,s,by rw[CV,u,l,DX],λj C=>?_⟩ Fr.set (λb g=> .inl g)
   rw[DX]at C
   rcases C6 j (n*e)with y | y
   ·rw[eF _ _ _ _ y,L j y,List.getElem?_append_left (by omega)]
   ·have D:j=n*e+(j-n*e):=by omega
    rw[D,fO w ys (n*e) (j-n*e) (by omega) (by omega),List.getElem?_append_right (by omega),u]
    congr 1;omega
 ·have x:=h.len
  refine⟨xs,h.src,λ_=>x,growslice_fits E r,λv b o B g p=>?_⟩
  refine z _ v o ⟨rfl,_,aF g p,?_,B,by rw[CV,x,l,DX],λj C=>?_⟩ ((CI p).fr) (λQ A=> .inr (by simp at A;omega))
  ·rw[Array.size_append,lL]
   simp only[List.size_toArray,CV,x,l,P]
   rw[<-DX,<-DX];congr 1;omega
  ·rw[DX]at C
   rw[Array.getElem?_append_left (by simp only[List.size_toArray,CV,x,l];omega)]
   simp
