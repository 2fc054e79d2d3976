/-
 A calculus of sparse frames over Code.wpIn (in a function, or in a round of a range over a function): environments (slot, value), judgements At / RegN / RegQ, laws for each kind of operation. Proves nothing of any one program.
-/
import Derived.Calls
import Derived.Orders
import Derived.OrdersIn
import Derived.TacticsIn
import Derived.RangeFuncRecord
import Derived.Sort.LoopGhostIn
import Derived.Deep.Quiet
import Derived.Deep.LoopGhost
import Derived.KernelRfl
import Derived.Laws.Sem
import Derived.IntWalk
import Derived.Laws.Append
set_option linter.unusedVariables false
set_option linter.unusedSimpArgs false
namespace Go.Proofs.YtfhbhckhmnleoaaGreat
open Go
variable{d:Value}{i:Addr}{j:TypeId}{k:Func}
abbrev vi(n:Int):Value:=.int .i64 n
abbrev vu(n:Int):Value:=.int .u64 n
abbrev vp(a:Option Addr):Value:=.pointer a
abbrev vs(b:Option Addr)(n c:Nat):Value:=.slice b n c
abbrev vq(a:Addr):Value:=.pointer (some a)
abbrev vT:Value:=.bool true
abbrev vF:Value:=.bool false
abbrev vN:Value:=.slice none 0 0
theorem iO_{c:Prop}[Decidable c]{A B G:Prop}(k:c->A->G)(l:¬c->B->G)(h:if c then A else B):G:=by
 by_cases q:c
 ·rw[if_pos q]at h;exact k q h
 rw[if_neg q]at h;exact l q h
theorem iP_{c:Prop}[Decidable c]{A B:Prop}(h:c->A)(k:¬c->B):if c then A else B:=by
 by_cases q:c
 ·rw[if_pos q];exact h q
 rw[if_neg q];exact k q
theorem iQ_{c:Prop}[Decidable c]{A B:Prop}(k:¬c->B)(h:c->A):if c then A else B:=iP_ h k
abbrev zV:=Array Obj
abbrev zW:=Option Addr
abbrev zY(n:Int):Int:=IntKind.wrap .i64 n
abbrev zk:=Value->Array Obj->Prop
abbrev zv:=Int->Array Obj->Prop
abbrev zw(i n:Int):Prop:=(0:Int)<=i/\i<n
theorem yZ{α:Type}{a:α}{l:List α}:a∈a::l:=List.Mem.head _
theorem yX{α:Type}{b a:α}{l:List α}:a∈b::a::l:=List.Mem.tail _ (List.Mem.head _)
theorem yQ{α:Type}{b d a:α}{l:List α}:a∈b::d::a::l:=List.Mem.tail _ (List.Mem.tail _ (List.Mem.head _))
theorem yJ{α:Type}{b d f a:α}{l:List α}:a∈b::d::f::a::l:=List.Mem.tail _ (List.Mem.tail _ (List.Mem.tail _ (List.Mem.head _)))
theorem yK{α:Type}{b d f g a:α}{l:List α}:a∈b::d::f::g::a::l:=List.Mem.tail _ (List.Mem.tail _ (List.Mem.tail _ (List.Mem.tail _ (List.Mem.head _))))
theorem yV{α:Type}{b d f g h a:α}{l:List α}:a∈b::d::f::g::h::a::l:=List.Mem.tail _ (List.Mem.tail _ (List.Mem.tail _ (List.Mem.tail _ (List.Mem.tail _ (List.Mem.head _)))))
variable {ds:List Deferred} {ro:Option Nat}
def fen(ro:Option Nat):Fence:={fn:=λ_=>True,depth:=none,alive:=false,round:=ro}
abbrev _root_.Go.Code.wpR(c:Code)(ro:Option Nat)(P:Program)(Q:Exit->Act->World->Prop):Act->World->Prop:=c.wpIn (fen ro) 0 P Q
abbrev Env:=List (Nat×Value)
def Env.get:Env->Nat->Option Value
 | [],_=>none
 | (k,v)::e,t=>bif Nat.beq k t then some v else Env.get e t
def iv(e:Env):Operand->Option Value
 | .tmp t=>e.get t
 | .const v=>some v
 | .global g=>some (vp (some ⟨g,0,none⟩))
 | .func f=>some (.func (.func f) #[] #[])
def rho(e:Env)(x:Operand):Value:=(iv e x).getD undef
def allIn(e:Env):List Operand->Bool
 | []=>true
 | x::l=>(iv e x).isSome && allIn e l
def ki(e:Env)(o:Oper):Bool:=(match o.op with | .select .. =>false | .defer _=>false | _=>true) && allIn e o.op.operands.toList
def jT(ops:Array Oper)(e:Env)(o:Oper):Option Bool:=
 match o.guard with
 | none=>some true
 | some (j,b)=>
  match(ops[j]?).bind (·.dst)with
  | none=>none
  | some t=>match e.get t with
   | some (.bool c)=>some (c==b)
   | some (.tuple _)=>some false
   | _=>none
def putS(n:Nat)(e:Env)(d:Option Nat)(v:Value):Option Env:=
 match d with
 | none=>some e
 | some d=>bif Nat.blt d n then some ((d,v)::e)else none
structure Agree (n:Nat) (ds:List Deferred) (e:Env) (a:Act):Prop where
 size:a.tmps.size=n
 defers:a.defers=ds
 vals: ∀t v,e.get t=some v->a.tmps[t]?=some v
structure Same (w w':World):Prop where
 os:w'.os=w.os
 tape:w'.tape=w.tape
 output:w'.output=w.output
 drawn:w.drawn<=w'.drawn
theorem Same.refl(w:World):Same w w:=⟨rfl,rfl,rfl,Nat.le_refl _⟩
theorem Same.trans{a b c:World}(h:Same a b)(k:Same b c):Same a c:=⟨k.os.trans h.os,k.tape.trans h.tape,k.output.trans h.output,Nat.le_trans h.drawn k.drawn⟩
theorem Env.get_cons(k:Nat)(v:Value)(e:Env)(t:Nat):Env.get ((k,v)::e) t=if k=t then some v else e.get t:=by
 simp only[Env.get]
 by_cases h:k=t
 ·subst h;simp
 ·have:Nat.beq k t=false:=by rw[<-Bool.not_eq_true,Nat.beq_eq];exact h
  simp[this,h]
theorem Agree.eval{n:Nat}{e:Env}{a:Act}(h:Agree n ds e a){x:Operand}(b:iv e x=some d):a.eval x=d:=by
 cases x with
 | tmp t=>
  have:=h.vals t d b
  simp[Act.eval,Array.getD_eq_getD_getElem?,this]
 | const i=>simpa[iv,Act.eval]using b
 | global g=>simpa[iv,Act.eval]using b
 | func f=>simpa[iv,Act.eval]using b
theorem nO{e:Env}: ∀{l:List Operand},allIn e l=true-> ∀x∈l,(iv e x).isSome=true
 | [],_,x,hx=>by cases hx
 | y::l,h,x,hx=>by
  simp only[allIn,Bool.and_eq_true]at h
  cases hx with
  | head=>exact h.1
  | tail _ hm=>exact nO h.2 x hm
theorem Agree.exec{n:Nat}{e:Env}{a:Act}(h:Agree n ds e a){o:Oper}(d:ki e o=true):execOp a.eval o=execOp (rho e) o:=by
 simp only[ki,Bool.and_eq_true]at d
 refine execOp_congr o (λk b i=>by rw[i]at d;simp at d) λx j=>?_
 have g:=nO d.2 x (by simpa using j)
 obtain⟨v,f⟩:=Option.isSome_iff_exists.1 g
 rw[h.eval f]
 simp[rho,f]
theorem Agree.sem{n:Nat}{e:Env}{a:Act}(h:Agree n ds e a){o:Oper}(b:ki e o=true):o.semAt (fen ro).round a.eval=execOp (rho e) o:=by
 rw[show(fen ro).round=ro from rfl,Oper.semAt_eq ro _ o (λc d=>by simp[ki,d]at b),h.exec b]
theorem Agree.wanted{n:Nat}{e:Env}{a:Act}(h:Agree n ds e a){ops:Array Oper}{o:Oper}{b:Bool}(d:jT ops e o=some b):Region.wanted o (yielded ops a.tmps)=b:=by
 unfold jT at d
 unfold Region.wanted
 cases i:o.guard with
 | none=>simp[i]at d;simp[d]
 | some p=>
  obtain⟨j,c⟩:=p
  simp only[i]at d
  unfold yielded
  cases f:(ops[j]?).bind (·.dst)with
  | none=>simp[f]at d
  | some t=>
   simp only[f]at d
   cases g:e.get t with
   | none=>simp[g]at d
   | some v=>
    have:=h.vals t v g
    simp only[g]at d
    simp only[]
    rw[f,Option.bind_some,this]
    cases v<;>simp at d<;>simp[<-d]
theorem Agree.put{n:Nat}{e:Env}{a:Act}(h:Agree n ds e a){d:Option Nat}{v:Value}{e':Env}(f:putS n e d v=some e'):Agree n ds e' (a.put d v):=by
 cases d with
 | none=>simp[putS]at f;subst f;exact h
 | some d=>
  simp only[putS]at f
  by_cases i:Nat.blt d n=true
  ·simp only[i,cond_true,Option.some.injEq]at f
   subst f
   have j:d<n:=by simpa[Nat.blt_eq]using i
   refine⟨by simp[Act.put,h.size],h.defers,λt u g=>?_⟩
   rw[Env.get_cons]at g
   by_cases b:d=t
   ·subst b
    simp only[if_true,Option.some.injEq]at g
    subst g
    have:d<a.tmps.size:=by rw[h.size];exact j
    simp[Act.put,this]
   ·rw[if_neg b]at g
    have:=h.vals t u g
    simp only[Act.put]
    rw[Array.getElem?_setIfInBounds_ne b]
    exact this
  ·simp[i]at f
def Sub(e' e:Env):Prop:=e'.map (λp=>e.get p.1)=e'.map (λp=>some p.2)
theorem Env.get_mem{e:Env}{t:Nat}(h:e.get t=some d):(t,d)∈e:=by
 induction e with
 | nil=>cases h
 | cons p e a=>
  obtain⟨k,u⟩:=p
  rw[Env.get_cons]at h
  by_cases hk:k=t
  ·subst hk;simp only[if_true,Option.some.injEq]at h;subst h;exact List.mem_cons_self ..
  ·rw[if_neg hk]at h;exact List.mem_cons_of_mem _ (a h)
theorem Sub.get{e' e:Env}(h:Sub e' e){t:Nat}{v:Value}(a:e'.get t=some v):e.get t=some v:=by
 have hm:=Env.get_mem a
 clear a
 unfold Sub at h
 induction e' with
 | nil=>cases hm
 | cons p e' b=>
  simp only[List.map_cons,List.cons.injEq]at h
  cases hm with
  | head=>exact h.1
  | tail _ hm=>exact b h.2 hm
theorem Agree.sub{n:Nat}{e e':Env}{a:Act}(h:Agree n ds e a)(b:Sub e' e):Agree n ds e' a:=
 ⟨h.size,h.defers,λt v d=>h.vals t v (b.get d)⟩
def fx(n:Nat)(e:Env)(d:Option Nat)(v:Value)(e':Env):Prop:=(putS n e d v).map (λe1=>e'.map (λp=>e1.get p.1))=some (e'.map (λp=>some p.2))
theorem fx.get{n:Nat}{e:Env}{d:Option Nat}{v:Value}{e':Env}(h:fx n e d v e'): ∃a,putS n e d v=some a/\Sub e' a:=by
 unfold fx at h
 cases b:putS n e d v with
 | none=>rw[b]at h;cases h
 | some a=>rw[b]at h;simp only[Option.map_some,Option.some.injEq]at h;exact⟨a,rfl,h⟩
theorem Agree.putSub{n:Nat}{e:Env}{a:Act}(h:Agree n ds e a){j:Option Nat}{e':Env}(g:fx n e j d e'):Agree n ds e' (a.put j d):=by
 obtain⟨i,b,f⟩:=g.get
 exact(h.put b).sub f
def At(n:Nat)(ds:List Deferred)(w0:World)(e:Env)(H:Array Obj)(K:Act->World->Prop):Prop:=
 ∀a w,Agree n ds e a->w.heap=H->Same w0 w->K a w
def HC(P:Program)(f:FuncId)(args:Array Value)(H:Array Obj)(R:Value->Array Obj->Prop):Prop:=
 ∀w,w.heap=H->Calls P f args w (λe w'=> ∃v,e=.returned v/\Same w w'/\R v w'.heap)
theorem HC.mono{P:Program}{f:FuncId}{args:Array Value}{H:Array Obj}{R a:Value->Array Obj->Prop}(h:HC P f args H R)(g: ∀v H',R v H'->a v H'):HC P f args H a:=
 λw j=>(h w j).mono λ_ _ ⟨v,d,i,b⟩=>⟨v,d,i,g _ _ b⟩
def SS(P:Program)(S:Sem Next)(H:Array Obj)(R:Value->Array Obj->Prop):Prop:=
 ∀w,w.heap=H-> ∃v w',S.run P w=.ok (.value v) w'/\Same w w'/\R v w'.heap
section rules
variable {P:Program} {n:Nat} {w0:World} {e e':Env} {H H':Array Obj} {Q:Exit->Act->World->Prop} {K:Act->World->Prop} {c x y:Code}
theorem sc(e':Env)(f:Sub e' e)(h:At n ds w0 e' H K):At n ds w0 e H K:=λa w d g b=>h a w (d.sub f) g b
theorem sd(x y:Code)(d:c=.seq x y)(h:At n ds w0 e H (x.wpR ro P (Exit.then (y.wpR ro P Q) Q))):At n ds w0 e H (c.wpR ro P Q):=
 λa w b g f=>by rw[d];exact wpIn_seq (h a w b g f)
theorem aD(h:At n ds w0 e H K):At n ds w0 e H (Exit.then K Q .normal):=h
theorem se(d:c=.skip)(h:At n ds w0 e H (Q .normal)):At n ds w0 e H (c.wpR ro P Q):=
 λa w b g f=>by rw[d];exact wpIn_skip (h a w b g f)
theorem qM(id:Nat)(x:Code)(d:c=.block id x)(h:At n ds w0 e H (x.wpR ro P (Exit.inBlock id Q))):At n ds w0 e H (c.wpR ro P Q):=
 λa w b g f=>by rw[d];exact wpIn_block (h a w b g f)
theorem aE{id:Nat}(h:At n ds w0 e H (Q .normal)):At n ds w0 e H (Exit.inBlock id Q .normal):=h
theorem ul(id:Nat)(d:c=.exit id)(h:At n ds w0 e H (Q (.exit id))):At n ds w0 e H (c.wpR ro P Q):=
 λa w b g f=>by rw[d];exact wpIn_exit (h a w b g f)
theorem zj(id:Nat)(h:At n ds w0 e H (Q (.exit id)))(a:c=.exit id:=by kernel_rfl):At n ds w0 e H (c.wpR ro P Q):=ul id a h
theorem aB{id:Nat}(h:At n ds w0 e H (Q (.exit id))):At n ds w0 e H (Exit.then K Q (.exit id)):=h
theorem aM{id:Nat}(h:At n ds w0 e H (Q .normal)):At n ds w0 e H (Exit.inBlock id Q (.exit id)):=λa w b f d=>by
 simp only[Exit.inBlock,if_true];exact h a w b f d
theorem pY{id b:Nat}(d:Nat.beq b id=false)(h:At n ds w0 e H (Q (.exit b))):At n ds w0 e H (Exit.inBlock id Q (.exit b)):=λa w f i g=>by
 have:b≠id:=λh=>by rw[h,Nat.beq_refl]at d;cases d
 simp only[Exit.inBlock,this,if_false];exact h a w f i g
theorem zz{id a:Nat}(h:At n ds w0 e H (Q (.exit a)))(b:Nat.beq a id=false:=by kernel_rfl):At n ds w0 e H (Exit.inBlock id Q (.exit a)):=pY b h
theorem ug(d:c=.ret)(h:At n ds w0 e H (Q .ret)):At n ds w0 e H (c.wpR ro P Q):=
 λa w b g f=>by rw[d];exact wpIn_ret (h a w b g f)
theorem zx(h:At n ds w0 e H (Q .ret))(a:c=.ret:=by kernel_rfl):At n ds w0 e H (c.wpR ro P Q):=ug a h
theorem kA(o:Operand)(x y:Code)(d:c=.cond o x y)(g:iv e o=some vT)(h:At n ds w0 e H (x.wpR ro P Q)):At n ds w0 e H (c.wpR ro P Q):=
 λa w b i f=>by rw[d];exact wpIn_cond_true (b.eval g) (h a w b i f)
theorem kB(o:Operand)(x y:Code)(d:c=.cond o x y)(g:iv e o=some vF)(h:At n ds w0 e H (y.wpR ro P Q)):At n ds w0 e H (c.wpR ro P Q):=
 λa w b i f=>by rw[d];exact wpIn_cond_false (b.eval g) (h a w b i f)
def RegN(ro:Option Nat)(P:Program)(n:Nat)(ds:List Deferred)(w0:World)(ops:Array Oper)(i:Nat)(e:Env)(H:Array Obj)(Q:Exit->Act->World->Prop):Prop:=
 ∀a w,Agree n ds e a->w.heap=H->Same w0 w->wpListIn (fen ro) 0 P ops Q (ops.toList.drop i) a w
theorem mI(id:Nat)(ops:Array Oper)(d:c=.region id ops false)(h:RegN ro P n ds w0 ops 0 e H Q):At n ds w0 e H (c.wpR ro P Q):=
 λa w b g f=>by rw[d];exact wpIn_region_list (by simpa using h a w b g f)
theorem qN{ops:Array Oper}{i:Nat}(d:ops.toList.drop i=[])(h:At n ds w0 e H (Q .normal)):RegN ro P n ds w0 ops i e H Q:=
 λa w b g f=>by rw[d];exact wpListIn_nil (h a w b g f)
theorem zq{ops:Array Oper}{i:Nat}(h:At n ds w0 e H (Q .normal))(a:ops.toList.drop i=[]:=by kernel_rfl):RegN ro P n ds w0 ops i e H Q:=qN a h
def qO(P:Program)(n:Nat)(ops:Array Oper)(o:Oper)(e:Env)(w:World):Option (Env×World):=
 match jT ops e o with
 | some true=>
  bif ki e o then
   match(execOp (rho e) o).run P w with
   | .ok (.value v) w'=>(putS n e o.dst v).map (·,w')
   | .ok .skip w'=>(putS n e o.dst undef).map (·,w')
   | _=>none
  else none
 | some false=>(putS n e o.dst undef).map (·,w)
 | none=>none
def runS(P:Program)(n:Nat)(ops:Array Oper):List Oper->Env->World->Option (Env×World)
 | [],e,w=>some (e,w)
 | o::l,e,w=>match qO P n ops o e w with
  | some (e',w')=>runS P n ops l e' w'
  | none=>none
def sel(e':Env)(r:Option (Env×World)):Option (List (Option Value)×World):=r.map λx=>(e'.map (λp=>x.1.get p.1),x.2)
def keep(e':Env)(w:World):Option (List (Option Value)×World):=some (e'.map (λp=>some p.2),w)
theorem oS{ops:Array Oper}{o:Oper}{w p:World}{a:Act}{g:List Oper}(d:qO P n ops o e w=some (e',p))(j:Agree n ds e a)
  (h: ∀l,Agree n ds e' l->wpListIn (fen ro) 0 P ops Q g l p):wpListIn (fen ro) 0 P ops Q (o::g) a w:=by
 unfold qO at d
 unfold wpListIn
 cases k:jT ops e o with
 | none=>simp[k]at d
 | some b=>
  simp only[k]at d
  rw[j.wanted k]
  cases b with
  | false=>
   simp only[Option.map_eq_some_iff,Prod.mk.injEq]at d
   obtain⟨m,f,rfl,rfl⟩:=d
   rw[if_neg Bool.false_ne_true]
   exact⟨λ_ _=>trivial,h _ (j.put f)⟩
  | true=>
   simp only[if_true]
   by_cases i:ki e o=true
   ·simp only[i,cond_true]at d
    refine⟨λ_ _=>trivial,?_⟩
    rw[j.sem i]
    generalize (execOp (rho e) o).run P w=r at d⊢
    cases r with
    | halt _ _=>simp at d
    | ok q s=>
     cases q<;>simp only[reduceCtorEq,Option.map_eq_some_iff,Prod.mk.injEq]at d
     case value v=>
      obtain⟨m,f,rfl,rfl⟩:=d
      exact h _ (j.put f)
     case skip=>
      obtain⟨m,f,rfl,rfl⟩:=d
      exact h _ (j.put f)
   ·simp[i]at d
theorem mJ{ops:Array Oper}: ∀(l:List Oper) {rest:List Oper} {e e':Env} {w b:World} {a:Act},runS P n ops l e w=some (e',b)->Agree n ds e a->
  (∀d,Agree n ds e' d->wpListIn (fen ro) 0 P ops Q rest d b)->wpListIn (fen ro) 0 P ops Q (l++rest) a w
 | [],rest,e,e',w,b,a,hr,ha,h=>by simp[runS]at hr;obtain⟨rfl,rfl⟩:=hr;exact h _ ha
 | o::l,rest,e,e',w,b,a,hr,ha,h=>by
  simp only[runS]at hr
  cases g:qO P n ops o e w with
  | none=>simp[g]at hr
  | some r=>
   obtain⟨i,j⟩:=r
   simp only[g]at hr
   exact oS g ha λd f=>mJ l hr f h
theorem qP{ops:Array Oper}{i:Nat}(k:Nat)(e':Env)(o: ∀w,sel e' (runS P n ops ((ops.toList.drop i).take k) e w)=keep e' w)
  (h:RegN ro P n ds w0 ops (i+k) e' H Q):RegN ro P n ds w0 ops i e H Q:=λa w m q p=>by
 have b:=o w
 cases g:runS P n ops ((ops.toList.drop i).take k) e w with
 | none=>rw[g]at b;simp[sel,keep]at b
 | some r=>
  obtain⟨t,s⟩:=r
  rw[g]at b
  simp only[sel,keep,Option.map_some,Option.some.injEq,Prod.mk.injEq]at b
  obtain⟨d,rfl⟩:=b
  have j:=mJ (Q:=Q) (rest:=ops.toList.drop (i+k)) _ g m λl f=>h l s (f.sub d) q p
  rw[show ops.toList.drop (i+k)=(ops.toList.drop i).drop k by rw[List.drop_drop],List.take_append_drop]at j
  exact j
def cO(P:Program)(ops:Array Oper)(i:Nat)(e:Env)(w:World):Option (Option Tmp×Result Next):=
 match ops.toList.drop i with
 | []=>none
 | o::_=>
  match jT ops e o with
  | some true=>bif ki e o then some (o.dst,(execOp (rho e) o).run P w)else none
  | _=>none
theorem gW{ops:Array Oper}{i:Nat}{w:World}{d:Option Tmp}{r:Result Next}(h:cO P ops i e w=some (d,r)):
  ∃o,ops.toList.drop i=o::ops.toList.drop (i+1)/\jT ops e o=some true/\ki e o=true/\o.dst=d/\(execOp (rho e) o).run P w=r:=by
 unfold cO at h
 cases g:ops.toList.drop i with
 | nil=>simp[g]at h
 | cons o l=>
  simp only[g]at h
  cases f:jT ops e o with
  | none=>simp[f]at h
  | some b=>
   cases b with
   | false=>simp[f]at h
   | true=>
    simp only[f]at h
    by_cases a:ki e o=true
    ·simp only[a,cond_true,Option.some.injEq,Prod.mk.injEq]at h
     refine⟨o,?_,f,a,h.1,h.2⟩
     have:ops.toList.drop (i+1)=l:=by rw[<-List.drop_drop,g];rfl
     rw[this]
    ·simp[a]at h
theorem N_op{ops:Array Oper}{i:Nat}(d:Option Tmp)(S:Sem Next)(R:Value->Array Obj->Prop)(z: ∀w,cO P ops i e w=some (d,S.run P w))(q:SS P S H R)
  (h: ∀v H',R v H'-> ∃e',fx n e d v e'/\RegN ro P n ds w0 ops (i+1) e' H' Q):RegN ro P n ds w0 ops i e H Q:=λa w k u s=>by
 obtain⟨o,r,f,m,g,j⟩:=gW (z w)
 rw[r]
 unfold wpListIn
 rw[k.wanted f]
 simp only[if_true]
 refine⟨λ_ _=>trivial,?_⟩
 rw[k.sem m,j]
 obtain⟨v,A,t,b,p⟩:=q w u
 rw[t]
 obtain⟨e',l,hk⟩:=h v _ p
 simp only[Oper.uponIn]
 rw[g]
 exact hk _ _ (k.putSub l) rfl (s.trans b)
theorem mK{ops:Array Oper}{i:Nat}(d:Option Tmp)(S:Sem Next)(R:Array Obj->Prop)(z: ∀w,cO P ops i e w=some (d,S.run P w))
  (r: ∀w,w.heap=H-> ∃k,S.run P w=.ok .skip k/\Same w k/\R k.heap)
  (h: ∀H',R H'-> ∃e',fx n e d undef e'/\RegN ro P n ds w0 ops (i+1) e' H' Q):RegN ro P n ds w0 ops i e H Q:=λa w l v t=>by
 obtain⟨o,s,f,p,g,j⟩:=gW (z w)
 rw[s]
 unfold wpListIn
 rw[l.wanted f]
 simp only[if_true]
 refine⟨λ_ _=>trivial,?_⟩
 rw[l.sem p,j]
 obtain⟨k,u,b,q⟩:=r w v
 rw[u]
 obtain⟨e',m,hk⟩:=h _ q
 simp only[Oper.uponIn]
 rw[g]
 exact hk _ _ (l.putSub m) rfl (t.trans b)
theorem um{ops:Array Oper}{i:Nat}(d:Option Tmp)(f:FuncId)(args:Array Value)(B: ∀w,cO P ops i e w=some (d,.ok (.enter f args) w)){R:Value->Array Obj->Prop}(r:HC P f args H R)
  (h: ∀v H',R v H'-> ∃e',fx n e d v e'/\RegN ro P n ds w0 ops (i+1) e' H' Q):RegN ro P n ds w0 ops i e H Q:=λa w l A z=>by
 obtain⟨o,s,g,p,j,k⟩:=gW (B w)
 rw[s]
 unfold wpListIn
 rw[l.wanted g]
 simp only[if_true]
 refine⟨λ_ _=>trivial,?_⟩
 rw[l.sem p,k]
 simp only[Oper.uponIn]
 refine⟨λu=>(by cases u),CallsIn.mono (show CallsIn (fen ro) _ P f args w _ from callsIn_wide.2 (r w A)) λC D ⟨v,t,b,q⟩=>?_⟩
 subst t
 obtain⟨e',m,hk⟩:=h v _ q
 simp only[]
 rw[j]
 exact hk _ _ (l.putSub m) rfl (z.trans b)
def Cls(w0:World)(H:Array Obj)(w:World):Prop:=w.heap=H/\Same w0 w
def RegQ(P:Program)(n:Nat)(ds:List Deferred)(w0:World)(ops:Array Oper)(i:Nat)(e:Env)(H:Array Obj)(Q:Exit->Act->World->Prop):Prop:=
 ∀a,Agree n ds e a->wpQuiet P ops (Cls w0 H) (λa'=> ∀w',Cls w0 H w'->Q .normal a' w') (ops.toList.drop i) a
theorem nP(id:Nat)(ops:Array Oper)(g:c=.region id ops true)(hm:P.follows .mixedOrders=true)(d:Region.lexB .any ops=true)(h:RegQ P n ds w0 ops 0 e H Q):At n ds w0 e H (c.wpR none P Q):=
 λa w f i b=>by
  rw[g]
  exact wpIn_wide.2 (wp_region_quiet (C:=Cls w0 H) hm d ⟨i,⟨b.os,b.tape,b.output,Nat.le_succ_of_le b.drawn⟩⟩ (by simpa using h a f))
theorem uJ{ops:Array Oper}{i:Nat}(f:ops.toList.drop i=[])(h:At n ds w0 e H (Q .normal)):RegQ P n ds w0 ops i e H Q:=
 λa d=>by rw[f];exact wpQuiet_nil λg b=>h a g d b.1 b.2
def mL(P:Program)(ops:Array Oper)(o:Oper)(e:Env)(w:World):Option (Value×World):=
 match jT ops e o with
 | some true=>
  bif ki e o then
   match(execOp (rho e) o).run P w with
   | .ok (.value v) w'=>some (v,w')
   | .ok .skip w'=>some (undef,w')
   | _=>none
  else none
 | some false=>some (undef,w)
 | none=>none
theorem uh{ops:Array Oper}{i:Nat}(v:Value)(e':Env)(d:Option Tmp)(j:(ops.toList.drop i).head?.map (·.dst)=some d)
  (k: ∀w,((ops.toList.drop i).head?.bind λo=>mL P ops o e w)=some (v,w)) (t:fx n e d v e')
  (h:RegQ P n ds w0 ops (i+1) e' H Q):RegQ P n ds w0 ops i e H Q:=λa p=>by
 cases q:ops.toList.drop i with
 | nil=>rw[q]at j;simp at j
 | cons o l=>
  rw[q]at j k
  simp only[List.head?_cons,Option.map_some,Option.some.injEq,Option.bind_some]at j k
  subst j
  have s:ops.toList.drop (i+1)=l:=by rw[<-List.drop_drop,q];rfl
  have hk:=h _ (p.putSub t)
  rw[s]at hk
  unfold wpQuiet
  cases m:jT ops e o with
  | none=>have:=k default;simp[mL,m]at this
  | some b=>
   rw[p.wanted m]
   cases b with
   | false=>
    have:=k default
    simp only[mL,m,Option.some.injEq,Prod.mk.injEq,and_true]at this
    subst this
    simpa using hk
   | true=>
    simp only[if_true]
    refine⟨v,λw _=>?_,hk⟩
    have f:=k w
    simp only[mL,m]at f
    by_cases g:ki e o=true
    ·simp only[g,cond_true]at f
     unfold Oper.quietAt
     rw[p.exec g]
     generalize (execOp (rho e) o).run P w=r at f⊢
     cases r with
     | halt _ _=>simp at f
     | ok z A=>
      cases z<;>simp only[reduceCtorEq,Option.some.injEq,Prod.mk.injEq]at f
      case value u=>exact⟨f.2,f.1⟩
      case skip=>exact⟨f.2,f.1.symm⟩
    ·simp[g]at f
theorem Q_op{ops:Array Oper}{i:Nat}(d:Option Tmp)(S:Sem Next)(v:Value)(p: ∀w,cO P ops i e w=some (d,S.run P w))(q: ∀w,w.heap=H->S.run P w=.ok (.value v) w)
  (e':Env) (r:fx n e d v e') (h:RegQ P n ds w0 ops (i+1) e' H Q):RegQ P n ds w0 ops i e H Q:=λa k=>by
 obtain⟨o,m,b,l,g,_⟩:=gW (p default)
 rw[m]
 unfold wpQuiet
 rw[k.wanted b]
 simp only[if_true]
 subst g
 refine⟨v,λw s=>?_,h _ (k.putSub r)⟩
 obtain⟨t,f,_,_,_,j⟩:=gW (p w)
 rw[m]at f
 obtain⟨rfl,_⟩:=List.cons.inj f
 unfold Oper.quietAt
 rw[k.exec l,j,q w s.1]
 exact⟨rfl,rfl⟩
theorem me{ops:Array Oper}{i:Nat}(e':Env)(d:Sub e' e)(h:RegQ P n ds w0 ops i e' H Q):RegQ P n ds w0 ops i e H Q:=λa b=>h a (b.sub d)
theorem sf{ops:Array Oper}{i:Nat}(e':Env)(d:Sub e' e)(h:RegN ro P n ds w0 ops i e' H Q):RegN ro P n ds w0 ops i e H Q:=λa w b=>h a w (b.sub d)
theorem bR{σ:Type}(b:σ->Env)(I:σ->Array Obj->Prop)(μ:σ->Array Obj->Nat)(g:σ)(B:c=.loop x)(z:I g H)(C:Sub (b g) e)
  (round: ∀s H',I s H'->At n ds w0 (b s) H' (x.wpR ro P (Exit.then (λa w=> ∃f,Agree n ds (b f) a/\Same w0 w/\I f w.heap/\μ f w.heap<μ s H') Q))):
  At n ds w0 e H (c.wpR ro P Q):=λa w A r D=>by
 rw[B]
 refine wpIn_loop_ghost (λk a w=> ∃s,Agree n ds (b s) a/\Same w0 w/\I s w.heap/\μ s w.heap=k) (μ g H) ⟨g,A.sub C,D,r▸z,by rw[r]⟩ ?_
 rintro k u t ⟨s,j,p,h,rfl⟩
 refine wpIn_mono (round s t.heap h u t j rfl p) ?_
 intro v E G d
 cases v with
 | normal=>
  obtain⟨f,m,q,i,o⟩:=d
  exact⟨_,o,f,m,q,i,rfl⟩
 | exit id=>exact d
 | goto l=>exact d
 | ret=>exact d
 | panic F=>exact d
 | outgrown=>exact d
theorem aQ{σ:Type}{d:σ->Env}{I:σ->Array Obj->Prop}{μ:σ->Array Obj->Nat}{s:σ}{f:Array Obj}(b:σ)(j:Sub (d b) e)(g:I b H/\μ b H<μ s f):
  At n ds w0 e H (λa w=> ∃b,Agree n ds (d b) a/\Same w0 w/\I b w.heap/\μ b w.heap<μ s f):=
 λa w i h k=>⟨b,i.sub j,k,by rw[h];exact g.1,by rw[h];exact g.2⟩
end rules
def env0:Nat->List Value->Env
 | _,[]=> []
 | i,v::l=>(i,v)::env0 (i+1) l
theorem oT: ∀(l:List Value) (i t:Nat) (v:Value),(env0 i l).get t=some v->i<=t/\l[t-i]?=some v
 | [],_,_,_,h=>by cases h
 | u::l,i,t,v,h=>by
  simp only[env0]at h
  rw[Env.get_cons]at h
  by_cases a:i=t
  ·subst a;simp only[if_true,Option.some.injEq]at h;subst h;simp
  ·rw[if_neg a]at h
   obtain⟨g,b⟩:=oT l (i+1) t v h
   refine⟨by omega,?_⟩
   obtain⟨j,rfl⟩: ∃j,t=i+1+j:=⟨t-(i+1),by omega⟩
   have d:i+1+j-(i+1)=j:=by omega
   have f:i+1+j-i=j+1:=by omega
   rw[d]at b;rw[f];simpa using b
def kK(P:Program)(fn:Func)(w0:World)(R:Value->Array Obj->Prop)(a:Act)(w:World):Prop:=
 LeavesInM Fence.wide 0 P fn a.tmps (λe w'=> ∃v,e=.returned v/\Same w0 w'/\R v w'.heap) a.defers .returning w
theorem tB{P:Program}{f:FuncId}{c:Code}{args:Array Value}{H:Array Obj}{R:Value->Array Obj->Prop}(n:Nat)(i:P.funcs[f]?=some k)(g:k.body=some c)(hn:k.ntmps=n)(j:args.size<=n)
  (h: ∀(w0:World) (Q:Exit->Act->World->Prop),
   (∀a w,kK P k w0 R a w->Q .ret a w/\Q .normal a w)->At n [] w0 (env0 0 args.toList) H (c.wpR none P Q)):HC P f args H R:=λw m=>by
 refine callsIn_wide.1 (callsIn_of_wp_marks i g trivial (n:=0) ?_)
 refine h w (bodyPostM Fence.wide 0 P k _) (λa o d=>⟨d,d⟩) _ _ ?_ m (Same.refl w)
 refine⟨?_,rfl,λt v l=>?_⟩
 ·simp only[Array.size_append,Array.size_replicate];omega
 ·obtain⟨_,b⟩:=oT _ _ _ _ l
  simp only[Nat.sub_zero,Array.getElem?_toList]at b
  show(args++Array.replicate (k.ntmps-args.size) undef)[t]?=some v
  have:t<args.size:=by
   rcases Nat.lt_or_ge t args.size with h | h
   ·exact h
   ·simp[Array.getElem?_eq_none h]at b
  rw[Array.getElem?_append_left this]
  exact b
variable {ds:List Deferred} {ro:Option Nat}
def hat(H:Array Obj)(a:Addr):Option Value:=
 match H[a.block]? with
 | some (.cells c _ _)=>if a.spot.isSome then none else c[a.off]?
 | _=>none
def hfz(H:Array Obj)(a:Addr):Bool:=
 match H[a.block]? with
 | some (.cells _ _ (lo,hi))=>lo<=a.off && a.off<hi
 | _=>false
def hput(H:Array Obj)(a:Addr)(v:Value):Array Obj:=
 H.modify a.block λ
  | .cells c elem frozen=> .cells (if a.spot.isSome then c else c.setIfInBounds a.off v) elem frozen
  | o=>o
theorem mM(w:World)(a:Addr):w.cell? a=hat w.heap a:=rfl
theorem pZ(w:World)(a:Addr):w.frozen? a=hfz w.heap a:=rfl
theorem ln(w:World)(a:Addr)(v:Value):(w.setCell a v).heap=hput w.heap a v:=rfl
theorem oz(w:World)(a:Addr)(v:Value):Same w (w.setCell a v):=⟨rfl,rfl,rfl,Nat.le_refl _⟩
def lP(H:Array Obj)(a:Addr):Prop:=(hat H a).isSome=true/\hfz H a=false
def aV(H:Array Obj)(a:Addr):List Value->Nat->Array Obj
 | [],_=>H
 | v::vs,i=>aV (hput H (a.add i) v) a vs (i+1)
theorem mp(H:Array Obj)(a b:Addr)(v:Value)(h:(hat H b).isSome=true):(hat (hput H a v) b).isSome=true:=by
 unfold hat hput at*
 rw[Array.getElem?_modify]
 by_cases d:a.block=b.block
 ·rw[if_pos d]
  cases g:H[b.block]? with
  | none=>simp[g]at h
  | some o=>
   simp only[g]at h
   simp only[Option.map_some]
   cases o with
   | cells c i j=>
    by_cases f:b.spot.isSome=true
    ·simp[f]at h
    ·simp only[f,Bool.false_eq_true,if_false]at h⊢
     split<;>simpa using h
   | _=>exact h
 ·rw[if_neg d];exact h
theorem si(H:Array Obj)(a b:Addr)(v:Value):hfz (hput H a v) b=hfz H b:=by
 unfold hfz hput
 rw[Array.getElem?_modify]
 by_cases d:a.block=b.block
 ·rw[if_pos d]
  cases f:H[b.block]? with
  | none=>simp
  | some o=>cases o<;>simp
 ·rw[if_neg d]
theorem lP.put{H:Array Obj}(h:lP H i)(a:Addr)(v:Value):lP (hput H a v) i:=⟨mp H a i v h.1,by rw[si];exact h.2⟩
@[simp] theorem addr_add_mk (b o n:Nat):Addr.add ⟨b,o,none⟩ n=⟨b,o+n,none⟩:=by
 unfold Addr.add;split<;>simp_all
def oA(P:Program)(H:Array Obj)(t:TypeId)(a:Addr)(v:Value):Prop:= ∀w,w.heap=H->(loadVar t a).run P w=.ok v w
theorem run_bind_ok{α β:Type}{P:Program}{s:Sem α}{k:α->Sem β}{w w':World}{x:α}(h:s.run P w=.ok x w'):(s>>=k).run P w=(k x).run P w':=by
 rw[Sem.run_bind,h];rfl
theorem oU{P:Program}{w:World}{v:Value}(h:w.cell? i=some v):(load i).run P w=.ok v w:=by
 show Sem.run P (Sem.load .plain i Sem.pure) w=_
 simp only[Sem.run,h]
theorem jt{P:Program}{H:Array Obj}(a: ∀w,(isAgg j).run P w=.ok false w)(h:hat H i=some d):oA P H j i d:=λw b=>by
 unfold loadVar
 rw[run_bind_ok (a w)]
 simp only[Bool.false_eq_true,if_false]
 exact oU (by rw[mM,b];exact h)
def aP(H:Array Obj)(a:Addr):Nat->List Value->Prop
 | _,[]=>True
 | i,v::vs=>hat H (a.add i)=some v/\aP H a (i+1) vs
theorem jQ{P:Program}{w:World}{a:Addr}: ∀(vs:List Value) (i:Nat) (b:Array Value),aP w.heap a i vs->(loadCellsFrom a i vs.length b).run P w=.ok (b++vs.toArray) w
 | [],i,b,_=>by simp[loadCellsFrom,pure]
 | v::vs,i,b,h=>by
  simp only[List.length_cons,loadCellsFrom]
  rw[run_bind_ok (oU (P:=P) (v:=v) (w:=w) h.1)]
  rw[jQ vs (i+1) _ h.2]
  simp
theorem eL{P:Program}{H:Array Obj}{vs:List Value}(a: ∀w,(isAgg j).run P w=.ok true w)(hn: ∀w,(sizeOf j).run P w=.ok vs.length w)(h:aP H i 0 vs):oA P H j i (.agg vs.toArray):=λw b=>by
 unfold loadVar
 rw[run_bind_ok (a w)]
 simp only[if_true]
 rw[run_bind_ok (hn w)]
 unfold loadCells
 rw[run_bind_ok (jQ (P:=P) vs 0 #[] (by rw[b];exact h))]
 simp[pure]
def aR(t:TypeId)(v:Value):Sem Next:=do pure (.value (<-Instr.loadAt t v))
theorem iE{P:Program}{H:Array Obj}(h:oA P H j i d)(w:World)(b:w.heap=H):(aR j (vq i)).run P w=.ok (.value d) w:=by
 have a:(Instr.loadAt j (vq i)).run P w=.ok d w:=h w b
 unfold aR
 rw[run_bind_ok a]
 rfl
theorem ry{P:Program}{w:World}(g:(match d with | .agg _ | .tuple _=>false | _=>true)=true)(h:lP w.heap i):(store i d).run P w=.ok () (w.setCell i d):=by
 obtain⟨u,f⟩:=Option.isSome_iff_exists.1 h.1
 have b:w.frozen? i=false:=by rw[pZ];exact h.2
 have a:w.cell? i=some u:=by rw[mM];exact f
 show Sem.run P (Sem.store .plain i d (Sem.pure ())) w=_
 cases d<;>simp at g<;>simp only[Sem.run,a,b,Bool.false_eq_true,if_false]
def jR:List Value->Bool
 | []=>true
 | v::vs=>(match v with | .agg _ | .tuple _=>false | _=>true) && jR vs
def aN(H:Array Obj)(a:Addr):Nat->Nat->Prop
 | _,0=>True
 | i,n+1=>lP H (a.add i)/\aN H a (i+1) n
theorem aN.put{H:Array Obj}{b:Addr}(a:Addr)(v:Value): ∀{n i:Nat},aN H b i n->aN (hput H a v) b i n
 | 0,_,_=>trivial
 | _+1,_,h=>⟨h.1.put a v,aN.put a v h.2⟩
theorem ju{P:Program}{a:Addr}: ∀(vs:List Value) (i:Nat) (w:World),jR vs=true->aN w.heap a i vs.length->
  ∃w',(storeCells a vs i).run P w=.ok () w'/\Same w w'/\w'.heap=aV w.heap a vs i
 | [],_,w,_,_=>⟨w,rfl,Same.refl w,rfl⟩
 | v::vs,i,w,h1,h2=>by
  simp only[jR,Bool.and_eq_true]at h1
  obtain⟨w',d,f,b⟩:=ju (P:=P) (a:=a) vs (i+1) (w.setCell (a.add i) v) h1.2 (by rw[ln];exact h2.2.put _ _)
  refine⟨w',?_,(oz w _ _).trans f,by rw[b,ln];rfl⟩
  unfold storeCells
  rw[run_bind_ok (ry h1.1 h2.1)]
  exact d
def iR(t:TypeId)(a v:Value):Sem Next:=do Instr.storeAt t a v;pure .skip
theorem iK{P:Program}{H:Array Obj}{t:TypeId}{a:Addr}{v:Value}(vs:List Value)(k:Nat)(j:v.cells.toList=vs)(hk:vs.length=k)(hn: ∀w,(sizeOf t).run P w=.ok k w)(f:jR vs=true)(g:aN H a 0 k):
  ∀w,w.heap=H-> ∃b,(iR t (vq a) v).run P w=.ok .skip b/\Same w b/\b.heap=aV H a vs 0:=λw d=>by
 subst j;subst hk
 obtain⟨b,l,m,i⟩:=ju (P:=P) (a:=a) v.cells.toList 0 w f (by rw[d];exact g)
 refine⟨b,?_,m,by rw[i,d]⟩
 have h:(Instr.storeAt t (vq a) v).run P w=.ok () b:=by
  show(storeVar t a v).run P w=_
  unfold storeVar
  rw[run_bind_ok (hn w)]
  simp only[Array.length_toList,ne_eq,not_true_eq_false,if_false]
  exact l
 unfold iR
 rw[run_bind_ok h]
 rfl
section
variable {P:Program} {n:Nat} {w0:World} {e e':Env} {H H':Array Obj} {Q:Exit->Act->World->Prop}
theorem uK{ops:Array Oper}{i:Nat}(d:Option Tmp)(f:Nat->Value)(o:Obj)(t: ∀w,cO P ops i e w=some (d,.ok (.value (f w.heap.size)) {w with heap:=w.heap.push o}))
  (h: ∀b H',b=H.size->H'=H.push o-> ∃e',fx n e d (f b) e'/\RegN ro P n ds w0 ops (i+1) e' H' Q):RegN ro P n ds w0 ops i e H Q:=λa w l q s=>by
 obtain⟨u,r,g,p,j,k⟩:=gW (t w)
 rw[r]
 unfold wpListIn
 rw[l.wanted g]
 simp only[if_true]
 refine⟨λ_ _=>trivial,?_⟩
 rw[l.sem p,k]
 obtain⟨e',m,hk⟩:=h w.heap.size (w.heap.push o) (by rw[q]) (by rw[q])
 simp only[Oper.uponIn]
 rw[j]
 exact hk _ _ (l.putSub m) rfl (s.trans ⟨rfl,rfl,rfl,by simp⟩)
theorem nQ{ops:Array Oper}{i:Nat}(d:Option Tmp)(S:Sem Next)(v:Value)(g: ∀w,cO P ops i e w=some (d,S.run P w))(b: ∀w,w.heap=H->S.run P w=.ok (.value v) w)
  (e':Env) (f:fx n e d v e') (h:RegN ro P n ds w0 ops (i+1) e' H Q):RegN ro P n ds w0 ops i e H Q:=
 N_op d S (λu H'=>u=v/\H'=H) g (λw a=>⟨v,w,b w a,Same.refl w,rfl,a⟩) (by rintro _ _ ⟨rfl,rfl⟩;exact⟨e',f,h⟩)
end
def bA(t:TypeId)(x i:Value):Sem Next:=do pure (.value (<-Instr.indexAt t x i))
theorem cZ{P:Program}{t elem sz:Nat}{a:Addr}{len cap:Nat}{k:IntKind}{i:Int}(g:P.underlying t=some (.slice elem))(h: ∀w,(sizeOf elem).run P w=.ok sz w)
  (d:0<=i) (f:i<len) (w:World):(bA t (vs (some a) len cap) (.int k i)).run P w=.ok (.value (vq (a.add (i.toNat*sz)))) w:=by
 have b:=h w
 simp[bA,Instr.indexAt,Sem.run_bind,asIntOf,underlying,program,g,d,f,b,Sem.run,pure,Result.andThen]
theorem bK{P:Program}{t elem sz n:Nat}{a:Addr}{k:IntKind}{i:Int}(g:P.underlying t=some (.array n elem))(h: ∀w,(sizeOf elem).run P w=.ok sz w)
  (d:0<=i) (f:i<n) (w:World):(bA t (vq a) (.int k i)).run P w=.ok (.value (vq (a.add (i.toNat*sz)))) w:=by
 have b:=h w
 simp[bA,Instr.indexAt,Sem.run_bind,asIntOf,underlying,program,g,d,f,b,Sem.run,pure,Result.andThen,Instr.sureAddr]
def mP(t:TypeId)(x i:Value):Sem Next:=do pure (.value (<-Instr.index t x i))
theorem jY{P:Program}{t elem n:Nat}{f:Array Value}{k:IntKind}{i:Int}(l:P.underlying t=some (.array n elem))(o: ∀w,(sizeOf elem).run P w=.ok 1 w)(j: ∀w,(isAgg elem).run P w=.ok false w)
  (g:0<=i) (h:i<n) (m:f[i.toNat]?=some d) (w:World):(mP t (.agg f) (.int k i)).run P w=.ok (.value d) w:=by
 have b:=o w
 have a:=j w
 simp[mP,Instr.index,Sem.run_bind,asIntOf,underlying,program,l,g,h,b,a,m,Sem.run,pure,Result.andThen,part]
def binN(op:BinOp)(t:TypeId)(x y:Value):Sem Next:=do pure (.value (<-binOp op t x y))
theorem qQ{P:Program}{t:TypeId}{k:IntKind}{x y:Int}(a:y≠0)(w:World):(binN .rem t (.int k x) (.int k y)).run P w=.ok (.value (.int k (x.tmod y))) w:=by
 simp[binN,binOp,Op.intDiv,a,Sem.run_bind,Sem.run,pure,Result.andThen]
def ishl(k:IntKind)(x y:Int):Int:=k.wrap (x*2 ^ (min y.toNat k.bits))
def ishr(k:IntKind)(x y:Int):Int:=x.fdiv (2 ^ (min y.toNat k.bits))
theorem tC{P:Program}{t:TypeId}{k k':IntKind}{x y:Int}(a:0<=y)(w:World):(binN .shl t (.int k x) (.int k' y)).run P w=.ok (.value (.int k (ishl k x y))) w:=by
 have: ¬y<0:=by omega
 simp[binN,binOp,Op.shift,this,Sem.run_bind,Sem.run,pure,Result.andThen,ishl]
theorem qR{P:Program}{t:TypeId}{k k':IntKind}{x y:Int}(a:0<=y)(w:World):(binN .shr t (.int k x) (.int k' y)).run P w=.ok (.value (.int k (ishr k x y))) w:=by
 have: ¬y<0:=by omega
 simp[binN,binOp,Op.shift,this,Sem.run_bind,Sem.run,pure,Result.andThen,ishr]
def iand(k:IntKind)(x y:Int):Int:=k.wrap (BitVec.ofInt k.bits x &&& BitVec.ofInt k.bits y).toNat
def ior(k:IntKind)(x y:Int):Int:=k.wrap (BitVec.ofInt k.bits x ||| BitVec.ofInt k.bits y).toNat
def jl(k:IntKind)(x y:Int):Int:=k.wrap (BitVec.ofInt k.bits x &&& ~~~BitVec.ofInt k.bits y).toNat
def tup:List Value->Value
 | [v]=>v
 | vs=> .tuple vs.toArray
inductive dW (P:Program) (H:Array Obj) (e:Env):List ResultVar->List Value->Prop where
 | nil:dW P H e [] []
 | tmp {t:Nat} {v:Value} {rs:List ResultVar} {vs:List Value} (h:e.get t=some v) (r:dW P H e rs vs):dW P H e (.tmp t::rs) (v::vs)
 | cell {b t:Nat} {a:Addr} {v:Value} {rs:List ResultVar} {vs:List Value} (h:e.get b=some (vq a)) (hl:oA P H t a v) (r:dW P H e rs vs):dW P H e (.cell b t::rs) (v::vs)
theorem Agree.getD{n:Nat}{e:Env}{a:Act}(h:Agree n ds e a){t:Nat}{v:Value}(b:e.get t=some v):a.tmps.getD t undef=v:=by
 have:=h.vals t v b
 simp[Array.getD_eq_getD_getElem?,this]
theorem dW.list{P:Program}{H:Array Obj}{n:Nat}{e:Env}{a:Act}{w:World}(d:Agree n ds e a)(f:w.heap=H): ∀{i:List ResultVar} {vs:List Value},dW P H e i vs->
  Sem.run P (i.mapM (λr:ResultVar=>match r with | .tmp t=>(pure (a.tmps.getD t undef):Sem Value) | .cell b t=>do loadVar t (<-asAddr (a.tmps.getD b undef)))) w=Result.ok vs w
 | _,_,.nil=>rfl
 | _,_,.tmp h r=>by
  have g:=dW.list d f r
  rw[List.mapM_cons]
  simp only[pure_bind,d.getD h]
  rw[run_bind_ok g]
  rfl
 | _,_,.cell h hl r=>by
  have g:=dW.list d f r
  rw[List.mapM_cons]
  simp only[d.getD h]
  rw[run_bind_ok (x:=_) (w':=w) (by show Sem.run P (loadVar _ _) w=_;exact hl w f),run_bind_ok g]
  rfl
theorem dW.run{P:Program}{H:Array Obj}{n:Nat}{e:Env}{a:Act}{w:World}{vs:List Value}(d:Agree n ds e a)(f:w.heap=H)(h:dW P H e k.results.toList vs):
  (results k a.tmps).run P w=.ok (tup vs) w:=by
 have b:=dW.list d f h
 unfold results
 rw[Array.mapM_eq_mapM_toList]
 simp only[bind_map_left]
 refine(run_bind_ok (x:=vs) (w':=w) b).trans ?_
 match vs with
 | []=>rfl
 | [v]=>rfl
 | v::u::vs=>simp[tup,pure]
section
variable {P:Program} {n:Nat} {w0:World} {e:Env} {H:Array Obj} {Q:Exit->Act->World->Prop}
def marks(Ds:List Nat):List Deferred:=Ds.map λD=>{target:=.collected D,args:= #[]}
def Shut:List Nat->Array Obj->(Array Obj->Prop)->Prop
 | [],H,K=>K H
 | D::Ds,H,K=>H[D]?=some (.deferred (some []))/\Shut Ds (H.setIfInBounds D (.deferred none)) K
theorem Shut.mono{K b:Array Obj->Prop}(hk: ∀H',K H'->b H'): ∀{a:List Nat} {H:Array Obj},Shut a H K->Shut a H b
 | [],_,h=>hk _ h
 | _::_,_,h=>⟨h.1,Shut.mono hk h.2⟩
theorem Shut.leave{fn:Func}{R:Value->Array Obj->Prop}{d:Array Value}(b: ∀w vs,dW P w.heap e fn.results.toList vs->(results fn d).run P w=.ok (tup vs) w): ∀(a:List Nat) (w:World),Same w0 w->Shut a w.heap (λH'=> ∃vs,dW P H' e fn.results.toList vs/\R (tup vs) H')->
  LeavesInM Fence.wide 0 P fn d (λe f=> ∃v,e=.returned v/\Same w0 f/\R v f.heap) (marks a) .returning w
 | [],w,hs,⟨vs,h⟩=>⟨_,b w vs h.1,_,rfl,hs,h.2⟩
 | D::a,w,hs,h=>⟨by simp,.inl ⟨D,_,rfl,run_takeDeferred h.1,Shut.leave b a _ ⟨hs.os,hs.tape,hs.output,hs.drawn⟩ h.2⟩⟩
theorem qS{fn:Func}{R:Value->Array Obj->Prop}(b:List Nat)(f: ∀a w,kK P fn w0 R a w->Q .ret a w/\Q .normal a w)
  (h:Shut b H (λH'=> ∃vs,dW P H' e fn.results.toList vs/\R (tup vs) H')):At n (marks b) w0 e H (Q .ret):=λa w d j i=>
 (f a w (by unfold kK;rw[d.defers];exact Shut.leave (λk vs g=>g.run d rfl) b w i (by rw[j];exact h))).1
theorem sj{R:Value->Array Obj->Prop}(b:List Nat)(f: ∀a w,kK P k w0 R a w->Q .ret a w/\Q .normal a w)
  (h:Shut b H (λH'=> ∃vs,dW P H' e k.results.toList vs/\R (tup vs) H')):At n (marks b) w0 e H (Q .normal):=λa w d j i=>
 (f a w (by unfold kK;rw[d.defers];exact Shut.leave (λl vs g=>g.run d rfl) b w i (by rw[j];exact h))).2
theorem iS{fn:Func}{R:Value->Array Obj->Prop}(vs:List Value)
  (d: ∀a w,kK P fn w0 R a w->Q .ret a w/\Q .normal a w)
  (b:dW P H e fn.results.toList vs) (h:R (tup vs) H):At n [] w0 e H (Q .ret):=qS [] d ⟨vs,b,h⟩
theorem ie{fn:Func}{R:Value->Array Obj->Prop}(vs:List Value)
  (d: ∀a w,kK P fn w0 R a w->Q .ret a w/\Q .normal a w)
  (b:dW P H e fn.results.toList vs) (h:R (tup vs) H):At n [] w0 e H (Q .normal):=sj [] d ⟨vs,b,h⟩
theorem p8{σ:Type}{c:Code}(d:σ->Env)(J:σ->Array Obj->Prop)(hk: ∀s H',J s H'->At n ds w0 (d s) H' (Q .normal))
  (h:At n ds w0 e H (c.wpR ro P (Exit.then (λa w=> ∃s,Agree n ds (d s) a/\Same w0 w/\J s w.heap) Q))):At n ds w0 e H (c.wpR ro P Q):=λa w m p o=>by
 refine wpIn_mono (h a w m p o) ?_
 intro j i q b
 cases j with
 | normal=>obtain⟨s,f,g,k⟩:=b;exact hk s _ k i q f rfl g
 | exit id=>exact b
 | goto l=>exact b
 | ret=>exact b
 | panic r=>exact b
 | outgrown=>exact b
theorem jZ{σ:Type}{b:σ->Env}{J:σ->Array Obj->Prop}(s:σ)(g:Sub (b s) e)(d:J s H):At n ds w0 e H (λa w=> ∃s,Agree n ds (b s) a/\Same w0 w/\J s w.heap):=
 λa w f i h=>⟨s,f.sub g,h,by rw[i];exact d⟩
theorem tD(a:List Nat){K:Act->World->Prop}(b:ds=marks a)(h:At n (marks a) w0 e H K):At n ds w0 e H K:=b▸h
theorem gz{ops:Array Oper}{i:Nat}(a:Env)(hk:At n ds w0 a H (Q .normal))(h:At n ds w0 a H (Q .normal)->RegN ro P n ds w0 ops i e H Q):RegN ro P n ds w0 ops i e H Q:=h hk
theorem gD(e':Env)(a:e=e'){K:Act->World->Prop}(h:At n ds w0 e' H K):At n ds w0 e H K:=a▸h
theorem bG{ops:Array Oper}{i:Nat}(e':Env)(a:e=e')(h:RegN ro P n ds w0 ops i e' H Q):RegN ro P n ds w0 ops i e H Q:=a▸h
theorem uS{ops:Array Oper}{i:Nat}(e':Env)(a:e=e')(h:RegQ P n ds w0 ops i e' H Q):RegQ P n ds w0 ops i e H Q:=a▸h
end
def gM(p:Option Addr)(A:Prop)(B:Addr->Prop):Prop:=match p with | none=>A | some a=>B a
@[simp] theorem onPtr_none {A:Prop} {B:Addr->Prop}:gM none A B=A:=rfl
@[simp] theorem onPtr_some {A:Prop} {B:Addr->Prop} {a:Addr}:gM (some a) A B=B a:=rfl
theorem sb{e' e:Env}(h:e'.map (λp=>e.get p.1)=e'.map (λp=>some p.2)):Sub e' e:=h
theorem ps{n:Nat}{e:Env}{b:Option Nat}{e':Env}(h:(putS n e b d).map (λa=>e'.map (λp=>a.get p.1))=some (e'.map (λp=>some p.2))):fx n e b d e':=h
def Code.fa:Code->Code
 | .seq a _=>a
 | .cond _ a _=>a
 | .block _ b=>b
 | .loop b=>b
 | .scope b=>b
 | .rangeFunc _ _ a _=>a
 | c=>c
def Code.fb:Code->Code
 | .seq _ b=>b
 | .cond _ _ b=>b
 | .rangeFunc _ _ _ b=>b
 | c=>c
def Code.ops:Code->Array Oper
 | .region _ o _=>o
 | _=> #[]
def Func.code(f:Func):Code:=f.body.getD .skip
variable {ds:List Deferred} {ro:Option Nat}
def QN(Q:Exit->Act->World->Prop):Exit->Act->World->Prop
 | .panic _,_,_=>False
 | e,a,w=>Q e a w
theorem QN.imp{Q:Exit->Act->World->Prop}: ∀(e:Exit) (a:Act) (w:World),QN Q e a w->Q e a w:=λe a w h=>by
 cases e<;>first | exact h | exact(h:False).elim
section
variable {P:Program} {ops:Array Oper} {Q:Exit->Act->World->Prop} {md:Region.Mode} {S:Array Bool->World->Prop}
def Closed(md:Region.Mode)(ops:Array Oper)(L:Array Bool):Prop:=
 L.size=ops.size/\ ∀j oj,ops[j]?=some oj->L.getD j false=true-> ∀e∈oj.after,Region.binds md e=true->L.getD e.on false=true
theorem Closed.set{L:Array Bool}{i:Nat}(h:Closed md ops L)(o:i∈Region.ready md ops L):Closed md ops (L.setIfInBounds i true):=by
 obtain⟨_,p,d,a⟩:=mem_ready.1 o
 refine⟨by simpa using h.1,?_⟩
 intro j m k l e g f
 by_cases b:i=j
 ·subst b
  have:m=p:=Option.some.inj (k.symm.trans d)
  subst this
  exact getD_set_true (a e g f)
 ·rw[getD_set_ne false b]at l
  exact getD_set_true (h.2 j m k l e g f)
theorem Closed.none(m:Nat)(hm:ops.size=m):Closed md ops (Array.replicate m false):=⟨by simp[hm],λj b _ a=>by
 have:(Array.replicate m false).getD j false=false:=by
  rcases Nat.lt_or_ge j m with h | h<;>simp[h]
 rw[this]at a;cases a⟩
def kq(md:Region.Mode)(ops:Array Oper):Nat->Nat->Nat->Bool
 | 0,_,_=>false
 | f+1,k,i=>match ops[k]? with
  | some o=>o.after.any (λe=>Region.binds md e && e.on==i) || o.after.any (λe=>Region.binds md e && kq md ops f e.on i)
  | none=>false
theorem mf{L:Array Bool}(d:Closed md ops L): ∀{f k i:Nat},kq md ops f k i=true->L.getD k false=true->L.getD i false=true
 | 0,_,_,h,_=>by simp[kq]at h
 | f+1,k,i,h,hk=>by
  unfold kq at h
  cases b:ops[k]? with
  | none=>simp[b]at h
  | some o=>
   simp only[b,Bool.or_eq_true]at h
   rcases h with h | h
   ·obtain⟨e,g,a⟩:=Array.any_eq_true'.1 h
    simp only[Bool.and_eq_true,beq_iff_eq]at a
    have:=d.2 k o b hk e g a.1
    rw[a.2]at this;exact this
   ·obtain⟨e,g,a⟩:=Array.any_eq_true'.1 h
    simp only[Bool.and_eq_true]at a
    exact mf d a.2 (d.2 k o b hk e g a.1)
def iA(P:Program)(md:Region.Mode)(ops:Array Oper)(S:Array Bool->World->Prop)(i:Nat)(o:Oper)(v:Value)(a:Act):Prop:=
 (∀c,o.op≠.defer c)/\((Region.wanted o (yielded ops a.tmps)=true/\ ∀L w,Closed md ops L->L.getD i true=false->S L w->(execOp a.eval o).run P w=.ok (.value v) w)\/
 (Region.wanted o (yielded ops a.tmps)=false/\v=undef))
theorem iA.wpOp{i:Nat}{o:Oper}{a:Act}(m:ops[i]?=some o)(g:iA P md ops S i o d a)
  {K:Act->World->Prop} {w:World} {L:Array Bool} (l:Closed md ops L) (j:L.getD i true=false) (k:S L w) (h:K (a.put o.dst d) w):wpOpIn (fen ro) 0 P ops Q i K a w:=by
 unfold Go.wpOpIn
 simp only[m]
 have b:o.semAt (fen ro).round a.eval=execOp a.eval o:=Oper.semAt_eq ro _ o g.1
 rcases g.2 with⟨f,p⟩ | ⟨f,rfl⟩
 ·simp only[f,if_true,Oper.wpIn,b,p L w l j k,Oper.uponIn];exact⟨λ_ _=>trivial,h⟩
 ·simp only[f,Bool.false_eq_true,if_false];exact⟨λ_ _=>trivial,h⟩
theorem iA.of_same{i:Nat}{o:Oper}{a b:Act}(h:iA P md ops S i o d a)(f:execOp b.eval o=execOp a.eval o)
  (g:Region.wanted o (yielded ops b.tmps)=Region.wanted o (yielded ops a.tmps)):iA P md ops S i o d b:=by
 unfold iA at*
 rw[f,g]
 exact h
theorem rz{i j:Nat}{g k:Oper}(M:ops[j]?=some k)(A:g.apart ops k=true)
  (C: ∀v b,g.op≠.select v b) (D: ∀v b,k.op≠.select v b) (B: ∀c,k.op≠.defer c)
  (z: ∀c a w,¬Q (.panic c) a w) {K:Act->World->Prop} {a:Act} {w:World}
  (o:iA P md ops S i g d a) (h:wpOpIn (fen ro) 0 P ops Q j K (a.put g.dst d) w):
  wpOpIn (fen ro) 0 P ops Q j (λG F=>iA P md ops S i g d G/\K (G.put g.dst d) F) a w:=by
 obtain⟨I,p,J⟩:=Oper.apart_spec A
 have keep: ∀(a:Act),iA P md ops S i g d a-> ∀u,iA P md ops S i g d (a.put k.dst u):=λa o u=>
  o.of_same (execOp_put g C a k.dst u J) (wanted_put g a k.dst u J)
 have q: ∀N,iA P md ops S i g d {a with defers:=N::a.defers}:=λN=>o.of_same rfl rfl
 unfold wpOpIn at*
 simp only[M]at*
 rw[wanted_put k a g.dst d I]at h
 have s: ∀ρ,k.semAt (fen ro).round ρ=execOp ρ k:=λρ=>Oper.semAt_eq ro ρ k B
 split
 ·rename_i E
  simp only[E,if_true]at h
  refine⟨λ_ _=>trivial,?_⟩
  have h:=h.2
  rw[s,execOp_put k D a g.dst d I]at h
  rw[s]
  generalize (execOp a.eval k).run P w=r at*
  cases r with
  | ok n F=>
   cases n<;>simp only[Oper.uponIn]at h⊢
   case value u=>exact⟨keep a o u,by rw[<-Act.put_comm a d u p];exact h⟩
   case skip=>exact⟨keep a o _,by rw[<-Act.put_comm a d undef p];exact h⟩
   case defer N=>
    refine⟨keep _ (q N) _,?_⟩
    rw[<-Act.put_comm _ d undef p,<-Act.put_defers]
    exact h
   case enter f args=>
    refine⟨h.1,CallsIn.mono h.2 λe t m=>?_⟩
    cases e with
    | returned u=>exact⟨keep a o u,by rw[<-Act.put_comm a d u p];exact m⟩
    | panicked c=>exact(z _ _ _ m).elim
    | outgrown=>exact m
   case row row args=>exact⟨h.1,RowsIn.mono h.2 λu t m=>⟨keep a o u,by rw[<-Act.put_comm a d u p];exact m⟩⟩
   case round l f tmps assign body=>
    refine⟨h.1,RoundIn.mono h.2 λe t m=>?_⟩
    cases e with
    | returned u=>exact⟨keep a o u,by rw[<-Act.put_comm a d u p];exact m⟩
    | panicked c=>exact(z _ _ _ m).elim
    | outgrown=>exact m
  | halt x F=>
   cases x<;>simp only[Oper.uponIn]at h⊢
   case panic u=>exact(z _ _ _ h).elim
 ·rename_i E
  simp only[E]at h
  exact⟨λ_ _=>trivial,keep a o _,by rw[<-Act.put_comm a d undef p];exact h.2⟩
def wpG(ro:Option Nat)(P:Program)(md:Region.Mode)(ops:Array Oper)(Q:Exit->Act->World->Prop)(S:Array Bool->World->Prop):Nat->Array Bool->Act->World->Prop
 | 0,L,a,w=>Region.ready md ops L=[]/\Q .normal a w
 | fuel+1,L,a,w=>
  (Region.ready md ops L=[]->Q .normal a w)/\
  ∀i∈Region.ready md ops L,wpOpIn (fen ro) 0 P ops Q i (λa' w'=>S (L.setIfInBounds i true) w'/\wpG ro P md ops Q S fuel (L.setIfInBounds i true) a' w') a w
theorem mQ: ∀(fuel:Nat) (L:Array Bool) (a:Act) (w:World),wpG ro P md ops Q S fuel L a w->wpAnyIn (fen ro) 0 P md ops Q fuel L a w
 | 0,_,_,_,h=>h
 | fuel+1,_,_,_,h=>⟨h.1,λi f=>wpOpIn_mono (λb g d=>mQ fuel _ b g d.2) (h.2 i f)⟩
theorem nR{i:Nat}{oi:Oper}{v:Value}(T:ops[i]?=some oi)(q: ∀(j:Nat) (o:Oper) u b,ops[j]?=some o->o.op≠.select u b)(C: ∀(j:Nat) (o:Oper) c,ops[j]?=some o->o.op≠.defer c)
  (hQ: ∀c a w,¬Q (.panic c) a w) (t: ∀L w,S (L.setIfInBounds i true) w ↔ S L w):
  ∀(fuel:Nat) (L:Array Bool) (a:Act) (w:World),
   (∀j r,ops[j]?=some r->j≠i->L.getD j true=false->(∀e∈r.after,Region.binds md e=true->e.on≠i)->oi.apart ops r=true)->
   Closed md ops L->i∈Region.ready md ops L->iA P md ops S i oi v a->S L w->
   wpG ro P md ops Q S fuel (L.setIfInBounds i true) (a.put oi.dst v) w->wpG ro P md ops Q S (fuel+1) L a w:=by
 intro fuel
 induction fuel with
 | zero=>
  intro L a w _ J m M z H
  refine⟨λh=>(by rw[h]at m;cases m),λj D=>?_⟩
  by_cases d:j=i
  ·subst d;exact M.wpOp T J (mem_ready.1 m).1 z ⟨(t L w).2 z,H⟩
  ·have:=ready_mono D d
   rw[H.1]at this
   cases this
 | succ fuel ih=>
  intro L a w f J m M z H
  refine⟨λh=>(by rw[h]at m;cases m),λj D=>?_⟩
  by_cases d:j=i
  ·subst d;exact M.wpOp T J (mem_ready.1 m).1 z ⟨(t L w).2 z,H⟩
  ·have s:=H.2 j (ready_mono D d)
   obtain⟨p,r,l,B⟩:=mem_ready.1 D
   have F: ∀e∈r.after,Region.binds md e=true->e.on≠i:=λe he hb R=>by
    have s:=B e he hb
    have W:=(mem_ready.1 m).1
    rw[R]at s
    rcases Nat.lt_or_ge i L.size with N | N
    ·simp[N]at W s;rw[W]at s;cases s
    ·simp[Array.getElem?_eq_none N]at s
   have Z:=rz l (f j r l d p F) (λu b=>q i oi u b T) (λu b=>q j r u b l) (λc=>C j r c l) hQ M s
   have g: ∀k I,ops[k]?=some I->k≠i->(L.setIfInBounds j true).getD k true=false->
     (∀e∈I.after,Region.binds md e=true->e.on≠i)->oi.apart ops I=true:=λk I hk U G V=>by
    refine f k I hk U ?_ V
    by_cases E:j=k
    ·subst E;exact p
    ·rw[getD_set_ne true E]at G;exact G
   refine wpOpIn_mono (λY X O=>?_) Z
   have A:S (L.setIfInBounds j true) X:=by
    have:=O.2.1
    rw[Array.setIfInBounds_comm _ _ (Ne.symm d)]at this
    exact(t _ _).1 this
   refine⟨A,ih (L.setIfInBounds j true) Y X g (J.set D) (ready_mono m (Ne.symm d)) O.1 A ?_⟩
   rw[Array.setIfInBounds_comm _ _ d]
   exact O.2.2
end
def iL(ops:Array Oper):Bool:=ops.toList.all λo=>match o.op with | .defer _=>false | _=>true
theorem jm{ops:Array Oper}(h:iL ops=true)(j:Nat)(o:Oper)(c:Call)(b:ops[j]?=some o):o.op≠.defer c:=λa=>by
 have hm:o∈ops.toList:=by
  have:=Array.mem_of_getElem? b
  simpa using this
 have:=List.all_eq_true.1 h o hm
 simp[a]at this
abbrev Facts:=List (Nat×Addr×List Value)
def eY(fs:Facts)(L:Array Bool)(w:World):Prop:= ∀f∈fs,L.getD f.1 false=false->aP w.heap f.2.1 0 f.2.2
def aH(fs:Facts)(L:Array Bool)(H:Array Obj):Prop:=
 match fs with
 | []=>True
 | f::fs=>(bif L.getD f.1 false then True else aP H f.2.1 0 f.2.2)/\aH fs L H
theorem aH.ok{L:Array Bool}{w:World}: ∀{fs:Facts},aH fs L w.heap->eY fs L w
 | [],_,f,hf,_=>by cases hf
 | g::fs,h,f,hf,hL=>by
  cases hf with
  | head=>have:=h.1;rw[hL]at this;exact this
  | tail _ hm=>exact aH.ok h.2 f hm hL
theorem eY.at{L:Array Bool}{w:World}: ∀{fs:Facts},eY fs L w->aH fs L w.heap
 | [],_=>trivial
 | g::fs,h=>⟨by
   cases a:L.getD g.1 false with
   | true=>trivial
   | false=>exact h g (List.mem_cons_self ..) a,eY.at λf b=>h f (List.mem_cons_of_mem _ b)⟩
theorem eY.set{fs:Facts}{i:Nat}(g:fs.all (λf=>f.1 !=i)=true)(L:Array Bool)(w:World):eY fs (L.setIfInBounds i true) w ↔ eY fs L w:=by
 have b: ∀f∈fs,i≠f.1:=λf a=>by
  have:=List.all_eq_true.1 g f a
  simp at this;exact λh=>this h.symm
 constructor<;>intro h f a d<;>refine h f a ?_
 ·rw[getD_set_ne false (b f a)];exact d
 ·rw[getD_set_ne false (b f a)]at d;exact d
def RegG(ro:Option Nat)(P:Program)(n:Nat)(ds:List Deferred)(w0:World)(ops:Array Oper)(fs:Facts)(fuel:Nat)(L:Array Bool)(e:Env)(H:Array Obj)(Q:Exit->Act->World->Prop):Prop:=
 ∀a w,Agree n ds e a->w.heap=H->Same w0 w->Closed .any ops L->eY fs L w->wpG ro P .any ops (QN Q) (eY fs) fuel L a w
section
variable {P:Program} {n:Nat} {w0:World} {e:Env} {H:Array Obj} {Q:Exit->Act->World->Prop} {c:Code} {ops:Array Oper} {fs:Facts} {fuel:Nat} {L:Array Bool}
theorem rD(id:Nat)(ops:Array Oper)(fs:Facts)(k:Nat)(L:Array Bool)(j:c=.region id ops true)(hm:P.follows .mixedOrders=true)(f:Region.noSelect ops=true)(hk:ops.size=k)(g:Array.replicate k false=L)(l:aH fs L H)
  (h:RegG ro P n ds w0 ops fs k L e H Q):At n ds w0 e H (c.wpR ro P Q):=λa w i d b=>by
 rw[j]
 refine wpIn_mono (wpIn_region_any hm ?_) QN.imp
 subst hk;subst g
 refine mQ _ _ _ _ (h a _ i ?_ ?_ (Closed.none _ rfl) ?_)
 ·exact d
 ·exact⟨b.os,b.tape,b.output,Nat.le_succ_of_le b.drawn⟩
 ·exact aH.ok (by show aH fs _ w.heap;rw[d];exact l)
theorem yY(id:Nat)(ops:Array Oper)(fs:Facts)(k:Nat)(L:Array Bool)(d:aH fs L H)(h:RegG ro P n ds w0 ops fs k L e H Q)(b:c=.region id ops true:=by kernel_rfl)(hm:P.follows .mixedOrders=true:=by kernel_rfl)(f:Region.noSelect ops=true:=by kernel_rfl)(hk:ops.size=k:=by kernel_rfl)(a:Array.replicate k false=L:=by kernel_rfl):At n ds w0 e H (c.wpR ro P Q):=rD id ops fs k L b hm f hk a d h
theorem uL(d:Region.ready .any ops L=[])(h:At n ds w0 e H (Q .normal)):RegG ro P n ds w0 ops fs fuel L e H Q:=λa w b i g _ _=>by
 cases fuel with
 | zero=>exact⟨d,h a w b i g⟩
 | succ f=>exact⟨λ_=>h a w b i g,by rw[d];simp⟩
theorem yx(h:At n ds w0 e H (Q .normal))(a:Region.ready .any ops L=[]:=by kernel_rfl):RegG ro P n ds w0 ops fs fuel L e H Q:=uL a h
theorem fQ(e':Env)(d:Sub e' e)(h:RegG ro P n ds w0 ops fs fuel L e' H Q):RegG ro P n ds w0 ops fs fuel L e H Q:=λa w b=>h a w (b.sub d)
theorem uT(e':Env)(a:e=e')(h:RegG ro P n ds w0 ops fs fuel L e' H Q):RegG ro P n ds w0 ops fs fuel L e H Q:=a▸h
theorem iF{i:Nat}{w:World}{d:Option Tmp}{r:Result Next}(h:cO P ops i e w=some (d,r)): ∃o,ops[i]?=some o/\jT ops e o=some true/\ki e o=true/\o.dst=d/\(execOp (rho e) o).run P w=r:=by
 obtain⟨o,j,a,b,f,g⟩:=gW h
 refine⟨o,?_,a,b,f,g⟩
 have:ops.toList[i]?=some o:=by
  have:=congrArg List.head? j
  simpa[List.head?_drop]using this
 simpa using this
theorem lQ(i:Nat)(d:Option Tmp)(v:Value)(C:Array Bool)(e':Env)(S:Sem Next)(E: ∀w,cO P ops i e w=some (d,S.run P w))
  (J: ∀L w,Closed .any ops L->L.getD i true=false->eY fs L w->S.run P w=.ok (.value v) w)
  (O:(Region.ready .any ops L).contains i=true) (q:Region.noSelect ops=true) (b:iL ops=true) (N:Region.free .any ops L i=true) (l:fs.all (λf=>f.1 !=i)=true) (I:L.setIfInBounds i true=C) (M:fx n e d v e')
  (h:RegG ro P n ds w0 ops fs fuel C e' H Q):RegG ro P n ds w0 ops fs (fuel+1) L e H Q:=λa w u T R D k=>by
 obtain⟨o,r,g,B,j,_⟩:=iF (E default)
 subst I
 have m:i∈Region.ready .any ops L:=by simpa using O
 refine nR (oi:=o) (v:=v) r (Region.noSelect_spec q) (jm b) (λ_ _ _ h=>h) (eY.set l) fuel L a w (Region.free_spec r N) D m ?_ k ?_
 ·refine⟨λc=>jm b i o c r,.inl ⟨u.wanted g,λG F z s t=>?_⟩⟩
  obtain⟨U,A,_,_,_,p⟩:=iF (E F)
  obtain rfl:o=U:=Option.some.inj (r.symm.trans A)
  rw[u.exec B,p]
  exact J G F z s t
 ·subst j
  exact h _ _ (u.putSub M) T R (D.set m) ((eY.set l L w).2 k)
theorem sl(i:Nat)(d:Option Tmp)(t:Array Bool)(e':Env)(s:(ops[i]?).bind (λo=>(jT ops e o).map (λb=>(o.dst,b)))=some (d,false))
  (D:(Region.ready .any ops L).contains i=true) (r:Region.noSelect ops=true) (g:iL ops=true) (C:Region.free .any ops L i=true) (m:fs.all (λf=>f.1 !=i)=true) (A:L.setIfInBounds i true=t) (B:fx n e d undef e')
  (h:RegG ro P n ds w0 ops fs fuel t e' H Q):RegG ro P n ds w0 ops fs (fuel+1) L e H Q:=λa w u F E z l=>by
 cases p:ops[i]? with
 | none=>rw[p]at s;cases s
 | some o=>
  simp only[p,Option.bind_some,Option.map_eq_some_iff,Prod.mk.injEq]at s
  obtain⟨b,j,k,rfl⟩:=s
  subst A
  have q:i∈Region.ready .any ops L:=by simpa using D
  refine nR (oi:=o) (v:=undef) p (Region.noSelect_spec r) (jm g) (λ_ _ _ h=>h) (eY.set m) fuel L a w (Region.free_spec p C) z q ⟨λc=>jm g i o c p,.inr ⟨u.wanted j,rfl⟩⟩ l ?_
  subst k
  exact h _ _ (u.putSub B) F E (z.set q) ((eY.set m L w).2 l)
theorem nS{vs:List Value}{j:Nat}(k:Nat)(hm:(k,i,vs)∈fs)(a:kq .any ops 16 k j=true\/Nat.ble ops.size k=true){L:Array Bool}{w:World}(d:Closed .any ops L)(b:L.getD j true=false)(g:eY fs L w):aP w.heap i 0 vs:=by
 refine g _ hm ?_
 rcases a with a | a
 ·cases hk:L.getD k false with
  | false=>rfl
  | true=>
   have:=mf d a hk
   have f:L.getD j false=false:=by
    rcases Nat.lt_or_ge j L.size with h | h
    ·simp[h]at b⊢;exact b
    ·simp[Array.getElem?_eq_none h]
   rw[f]at this;cases this
 ·have:L.size<=k:=by rw[d.1];exact Nat.le_of_ble_eq_true a
  simp[Array.getElem?_eq_none this]
theorem jb{t:TypeId}{a:Addr}{i:Nat}(k:Nat)(h: ∀w,(isAgg t).run P w=.ok false w)(hm:(k,a,[d])∈fs)(j:kq .any ops 16 k i=true\/Nat.ble ops.size k=true):
  ∀L w,Closed .any ops L->L.getD i true=false->eY fs L w->(aR t (vq a)).run P w=.ok (.value d) w:=λ_ w f b g=>
 iE (H:=w.heap) (jt h (nS k hm j f b g).1) w rfl
theorem yW{t:TypeId}{a:Addr}{v:Value}{i:Nat}(k:Nat)(hm:(k,a,[v])∈fs)(b: ∀w,(isAgg t).run P w=.ok false w:=by intro _;kernel_rfl)(d:kq .any ops 16 k i=true:=by kernel_rfl):∀L w,Closed .any ops L->L.getD i true=false->eY fs L w->(aR t (vq a)).run P w=.ok (.value v) w:=jb k b hm (.inl d)
theorem kr{t:TypeId}{a:Addr}{vs:List Value}{i:Nat}(k:Nat)(g: ∀w,(isAgg t).run P w=.ok true w)(hn: ∀w,(sizeOf t).run P w=.ok vs.length w)(hm:(k,a,vs)∈fs)(h:kq .any ops 16 k i=true\/Nat.ble ops.size k=true):
  ∀L w,Closed .any ops L->L.getD i true=false->eY fs L w->(aR t (vq a)).run P w=.ok (.value (.agg vs.toArray)) w:=λ_ w d b f=>
 iE (H:=w.heap) (eL g hn (nS k hm h d b f)) w rfl
theorem mS(i:Nat)(d:Option Tmp)(m:Array Bool)(S:Sem Next)(R:Value->Array Obj->Prop)(s:Region.ready .any ops L=[i])(J: ∀w,cO P ops i e w=some (d,S.run P w))(C:SS P S H R)(A:L.setIfInBounds i true=m)
  (h: ∀v H',R v H'-> ∃e',fx n e d v e'/\aH fs m H'/\RegG ro P n ds w0 ops fs fuel m e' H' Q):RegG ro P n ds w0 ops fs (fuel+1) L e H Q:=λa w p I F D _=>by
 obtain⟨o,E,f,r,g,l⟩:=iF (J w)
 refine⟨λu=>(by rw[s]at u;cases u),λj z=>?_⟩
 have t:i∈Region.ready .any ops L:=by rw[s];simp
 rw[s]at z
 obtain rfl:j=i:=by simpa using z
 unfold wpOpIn
 simp only[E]
 rw[p.wanted f]
 simp only[if_true]
 refine⟨λ_ _=>trivial,?_⟩
 rw[p.sem r,l]
 obtain⟨v,M,G,b,B⟩:=C w I
 rw[G]
 obtain⟨e',q,k,hk⟩:=h v _ B
 subst A;subst g
 simp only[Oper.uponIn]
 exact⟨aH.ok k,hk _ _ (p.putSub q) rfl (F.trans b) (D.set t) (aH.ok k)⟩
theorem gY(i:Nat)(d:Option Tmp)(p:Array Bool)(S:Sem Next)(R:Array Obj->Prop)(t:Region.ready .any ops L=[i])(J: ∀w,cO P ops i e w=some (d,S.run P w))
  (C: ∀w,w.heap=H-> ∃m,S.run P w=.ok .skip m/\Same w m/\R m.heap) (A:L.setIfInBounds i true=p)
  (h: ∀H',R H'-> ∃e',fx n e d undef e'/\aH fs p H'/\RegG ro P n ds w0 ops fs fuel p e' H' Q):RegG ro P n ds w0 ops fs (fuel+1) L e H Q:=λa w q I F D _=>by
 obtain⟨o,E,f,s,g,l⟩:=iF (J w)
 refine⟨λv=>(by rw[t]at v;cases v),λj z=>?_⟩
 have u:i∈Region.ready .any ops L:=by rw[t];simp
 rw[t]at z
 obtain rfl:j=i:=by simpa using z
 unfold wpOpIn
 simp only[E]
 rw[q.wanted f]
 simp only[if_true]
 refine⟨λ_ _=>trivial,?_⟩
 rw[q.sem s,l]
 obtain⟨m,G,b,B⟩:=C w I
 rw[G]
 obtain⟨e',r,k,hk⟩:=h _ B
 subst A;subst g
 simp only[Oper.uponIn]
 exact⟨aH.ok k,hk _ _ (q.putSub r) rfl (F.trans b) (D.set u) (aH.ok k)⟩
theorem un(i:Nat)(d:Option Tmp)(q:Array Bool)(f:FuncId)(args:Array Value)(z:Region.ready .any ops L=[i])(N: ∀w,cO P ops i e w=some (d,.ok (.enter f args) w)){R:Value->Array Obj->Prop}(b:HC P f args H R)(D:L.setIfInBounds i true=q)
  (h: ∀v H',R v H'-> ∃e',fx n e d v e'/\aH fs q H'/\RegG ro P n ds w0 ops fs fuel q e' H' Q):RegG ro P n ds w0 ops fs (fuel+1) L e H Q:=λa w r M J F _=>by
 obtain⟨o,I,k,u,l,p⟩:=iF (N w)
 refine⟨λB=>(by rw[z]at B;cases B),λj C=>?_⟩
 have A:i∈Region.ready .any ops L:=by rw[z];simp
 rw[z]at C
 obtain rfl:j=i:=by simpa using C
 unfold wpOpIn
 simp only[I]
 rw[r.wanted k]
 simp only[if_true]
 refine⟨λ_ _=>trivial,?_⟩
 rw[r.sem u,p]
 simp only[Oper.uponIn]
 refine⟨λG=>(by cases G),CallsIn.mono (show CallsIn (fen ro) _ P f args w _ from callsIn_wide.2 (b w M)) λO T ⟨v,t,g,E⟩=>?_⟩
 subst t
 obtain⟨e',s,m,hk⟩:=h v _ E
 subst D;subst l
 simp only[]
 exact⟨aH.ok m,hk _ _ (r.putSub s) rfl (J.trans g) (F.set A) (aH.ok m)⟩
theorem yq(i:Nat)(d:Option Tmp)(b:Array Bool)(f:FuncId)(args:Array Value){R:Value->Array Obj->Prop}(a:HC P f args H R)(h: ∀v H',R v H'-> ∃e',fx n e d v e'/\aH fs b H'/\RegG ro P n ds w0 ops fs fuel b e' H' Q)(j:Region.ready .any ops L=[i]:=by kernel_rfl)(k: ∀w,cO P ops i e w=some (d,.ok (.enter f args) w):=by intro _;kernel_rfl)(g:L.setIfInBounds i true=b:=by kernel_rfl):RegG ro P n ds w0 ops fs (fuel+1) L e H Q:=un i d b f args j k a g h
theorem nT(i:Nat)(d:Option Tmp)(p:Array Bool)(f:Nat->Value)(o:Obj)(t:Region.ready .any ops L=[i])(F: ∀w,cO P ops i e w=some (d,.ok (.value (f w.heap.size)) {w with heap:=w.heap.push o}))(B:L.setIfInBounds i true=p)
  (h: ∀b H',b=H.size->H'=H.push o-> ∃e',fx n e d (f b) e'/\aH fs p H'/\RegG ro P n ds w0 ops fs fuel p e' H' Q):RegG ro P n ds w0 ops fs (fuel+1) L e H Q:=λa w q A E C _=>by
 obtain⟨G,D,g,s,k,m⟩:=iF (F w)
 refine⟨λv=>(by rw[t]at v;cases v),λj z=>?_⟩
 have u:i∈Region.ready .any ops L:=by rw[t];simp
 rw[t]at z
 obtain rfl:j=i:=by simpa using z
 unfold wpOpIn
 simp only[D]
 rw[q.wanted g]
 simp only[if_true]
 refine⟨λ_ _=>trivial,?_⟩
 rw[q.sem s,m]
 obtain⟨e',r,l,hk⟩:=h w.heap.size (w.heap.push o) (by rw[A]) (by rw[A])
 subst B;subst k
 simp only[Oper.uponIn]
 exact⟨aH.ok l,hk _ _ (q.putSub r) rfl (E.trans ⟨rfl,rfl,rfl,by simp⟩) (C.set u) (aH.ok l)⟩
def qT(ro:Option Nat)(P:Program)(n:Nat)(ds:List Deferred)(w0:World)(ops:Array Oper)(fs:Facts)(fuel:Nat)(L:Array Bool)(e:Env)(H:Array Obj)(Q:Exit->Act->World->Prop)(i:Nat):Prop:=
 ∀a w,Agree n ds e a->w.heap=H->Same w0 w->Closed .any ops L->wpOpIn (fen ro) 0 P ops (QN Q) i (λa' w'=>eY fs (L.setIfInBounds i true) w'/\wpG ro P .any ops (QN Q) (eY fs) fuel (L.setIfInBounds i true) a' w') a w
theorem sn(i j:Nat)(g:Region.ready .any ops L=[i,j])(m:qT ro P n ds w0 ops fs fuel L e H Q i)(o:qT ro P n ds w0 ops fs fuel L e H Q j):RegG ro P n ds w0 ops fs (fuel+1) L e H Q:=λa w d l h f _=>by
 refine⟨λb=>(by rw[g]at b;cases b),λk hk=>?_⟩
 rw[g]at hk
 rcases List.mem_cons.1 hk with rfl | hk
 ·exact m a w d l h f
 ·obtain rfl:k=j:=by simpa using hk
  exact o a w d l h f
theorem so(i:Nat)(d:Option Tmp)(p:Array Bool)(f:FuncId)(args:Array Value)(E:List.elem i (Region.ready .any ops L)=true)(I: ∀w,cO P ops i e w=some (d,.ok (.enter f args) w)){R:Value->Array Obj->Prop}(b:HC P f args H R)(z:L.setIfInBounds i true=p)
  (h: ∀v H',R v H'-> ∃e',fx n e d v e'/\aH fs p H'/\RegG ro P n ds w0 ops fs fuel p e' H' Q):qT ro P n ds w0 ops fs fuel L e H Q i:=λa w q G F B=>by
 obtain⟨o,D,j,t,k,m⟩:=iF (I w)
 have u:i∈Region.ready .any ops L:=List.elem_iff.1 E
 unfold wpOpIn
 simp only[D]
 rw[q.wanted j]
 simp only[if_true]
 refine⟨λ_ _=>trivial,?_⟩
 rw[q.sem t,m]
 simp only[Oper.uponIn]
 refine⟨λC=>(by cases C),CallsIn.mono (show CallsIn (fen ro) _ P f args w _ from callsIn_wide.2 (b w G)) λJ M ⟨v,s,g,A⟩=>?_⟩
 subst s
 obtain⟨e',r,l,hk⟩:=h v _ A
 subst z;subst k
 simp only[]
 exact⟨aH.ok l,hk _ _ (q.putSub r) rfl (F.trans g) (B.set u) (aH.ok l)⟩
theorem ui(i:Nat)(d:Option Tmp)(m:Array Bool)(f:Nat->Value)(o:Obj)(A:List.elem i (Region.ready .any ops L)=true)(C: ∀w,cO P ops i e w=some (d,.ok (.value (f w.heap.size)) {w with heap:=w.heap.push o}))(u:L.setIfInBounds i true=m)
  (h: ∀b H',b=H.size->H'=H.push o-> ∃e',fx n e d (f b) e'/\aH fs m H'/\RegG ro P n ds w0 ops fs fuel m e' H' Q):qT ro P n ds w0 ops fs fuel L e H Q i:=λa w p t B v=>by
 obtain⟨D,z,g,r,j,l⟩:=iF (C w)
 have s:i∈Region.ready .any ops L:=List.elem_iff.1 A
 unfold wpOpIn
 simp only[z]
 rw[p.wanted g]
 simp only[if_true]
 refine⟨λ_ _=>trivial,?_⟩
 rw[p.sem r,l]
 obtain⟨e',q,k,hk⟩:=h w.heap.size (w.heap.push o) (by rw[t]) (by rw[t])
 subst u;subst j
 simp only[Oper.uponIn]
 exact⟨aH.ok k,hk _ _ (p.putSub q) rfl (B.trans ⟨rfl,rfl,rfl,by simp⟩) (v.set s) (aH.ok k)⟩
end
def gc(H:Array Obj)(b:Option Addr)(xs:List Value):Prop:=
 match b with
 | none=>xs=[]
 | some a=>aP H a 0 xs
@[simp] theorem SrcAt_none {H:Array Obj} {xs:List Value}:gc H none xs=(xs=[]):=rfl
@[simp] theorem SrcAt_some {H:Array Obj} {a:Addr} {xs:List Value}:gc H (some a) xs=aP H a 0 xs:=rfl
theorem jv{P:Program}{w:World}{g n c:Nat}{b:Option Addr}{d:List Value}(h:gc w.heap b d)(f:b≠none->d.length=n*g):(Builtin.firstCells g n (vs b n c)).run P w=.ok d.toArray w:=by
 cases b with
 | none=>simp only[SrcAt_none]at h;subst h;rfl
 | some a=>
  have f:=f (by simp)
  show Sem.run P (loadCells a (n*g)) w=_
  rw[<-f]
  unfold loadCells
  rw[jQ (P:=P) d 0 #[] h]
  simp
def fR(ats:Array TypeId)(ty:TypeId)(args:Array Value):Sem Next:=do pure (.value (<-Builtin.append_ ats ty args))
def fE(sz T bytes:Nat)(zero:List Value)(base:Option Addr)(n c:Nat)(xb:Option Addr)(m:Nat)(H:Array Obj)(K:Option Addr->Nat->Array Obj->Prop):Prop:=
 ∃xs:List Value,gc H xb xs/\(xb≠none->xs.length=m*sz)/\jR xs=true/\
  (n+m<=c->gM base (K none c H) (λa=>aN H (a.add (n*sz)) 0 xs.length/\K (some a) c (aV H (a.add (n*sz)) xs 0)))/\
  (c<n+m-> ∃ys:List Value,gc H base ys/\(base≠none->ys.length=n*sz)/\Builtin.nextslicecap (n+m) c*bytes<=2 ^ 48/\
   ∀(c' b:Nat) (H':Array Obj),n+m<=c'->b=H.size->H'=H.push (.cells ((ys++xs).toArray++Builtin.zeroCells zero.toArray (c'-(n+m))) T)->K (some ⟨b,0,none⟩) c' H')
theorem fu{P:Program}{H:Array Obj}{ty sT N T sz bytes:Nat}{zero:Value}{f:TypeInfo}{K:Option Addr->Nat->Array Obj->Prop}{i O:Option Addr}{n c m xc:Nat}{d:TypeDesc}
  (hu:P.underlying sT=some (.slice T)) (I:P.underlying N=some d) (hd:(match d with | .int _=>true | _=>false)=false)
  (Z:P.info? T=some f) (a3:f.size=sz) (hb:f.bytes=bytes) (V:bytes≠0) (hz:f.zero=some zero)
  (h:fE sz T bytes zero.cells.toList i n c O m H K):
  SS P (fR #[sT,N] ty #[vs i n c,vs O m xc]) H (λv H'=> ∃b' c',v=vs b' (n+m) c'/\K b' c' H'):=λw s=>by
 obtain⟨D,hx,J,G,F,z⟩:=h
 have j: ∀k,d≠.int k:=λk hk=>by subst hk;simp at hd
 have ak:(Sem.run P (do let r<-underlying N;pure (match r with | .int _=>true | _=>false):Sem Bool) w)=.ok false w:=by
  rw[run_bind_ok (x:=d) (w':=w) (by simp[underlying,program,Sem.run,I,Sem.run_bind,pure,Result.andThen])]
  cases d<;>first | rfl | exact absurd rfl (j _)
 have g: ∀w,(sizeOf T).run P w=.ok sz w:=λw=>by simp[sizeOf,typeInfo,program,Sem.run,Sem.run_bind,Z,a3,pure,Result.andThen]
 have B: ∀w,(typeInfo T).run P w=.ok f w:=λw=>by simp[typeInfo,program,Sem.run,Sem.run_bind,Z,pure,Result.andThen]
 have a5: ∀w,(zeroValue T).run P w=.ok zero w:=λw=>by simp[zeroValue,typeInfo,program,Sem.run,Sem.run_bind,Z,hz,pure,Result.andThen]
 have C: ∀w,(underlying sT).run P w=.ok (.slice T) w:=λw=>by simp[underlying,program,Sem.run,hu,Sem.run_bind,pure,Result.andThen]
 have l: ∀w,(underlying N).run P w=.ok d w:=λw=>by simp[underlying,program,Sem.run,I,Sem.run_bind,pure,Result.andThen]
 have E:(Builtin.firstCells sz m (vs O m xc)).run P w=.ok D.toArray w:=jv (by rw[s];exact hx) J
 by_cases p:n+m<=c
 ·have hk:=F p
  cases i with
  | none=>
   refine⟨_,w,?_,Same.refl w,none,c,rfl,by rw[s];exact hk⟩
   unfold fR
   rw[run_bind_ok (x:=Value.slice none (n+m) c) (w':=w)]
   ·rfl
   ·unfold Builtin.append_
    simp only[List.getElem?_toArray,List.getElem?_cons_zero,List.getElem?_cons_succ]
    rw[run_bind_ok (C w)]
    simp only[]
    rw[run_bind_ok (g w)]
    simp only[pure_bind]
    rw[run_bind_ok (l w)]
    cases d<;>first | exact absurd rfl (j _) | (simp only[Bool.false_eq_true,if_false,Builtin.lenOf,pure_bind,Bool.not_false,if_true,p];rw[run_bind_ok E];rfl)
  | some a=>
   simp only[onPtr_some]at hk
   obtain⟨w',a2,hs,hh⟩:=ju (P:=P) (a:=a.add (n*sz)) D 0 w G (by rw[s];exact hk.1)
   refine⟨_,w',?_,hs,some a,c,rfl,by rw[hh,s];exact hk.2⟩
   unfold fR
   rw[run_bind_ok (x:=Value.slice (some a) (n+m) c) (w':=w')]
   ·rfl
   ·unfold Builtin.append_
    simp only[List.getElem?_toArray,List.getElem?_cons_zero,List.getElem?_cons_succ]
    rw[run_bind_ok (C w)]
    simp only[]
    rw[run_bind_ok (g w)]
    simp only[pure_bind]
    rw[run_bind_ok (l w)]
    cases d<;>first | exact absurd rfl (j _) | (simp only[Bool.false_eq_true,if_false,Builtin.lenOf,pure_bind,Bool.not_false,if_true,p];rw[run_bind_ok E];simp only[];rw[run_bind_ok a2];rfl)
 ·have a0:c<n+m:=by omega
  obtain⟨R,hy,a4,ab,hk⟩:=z a0
  have Y: ∀b:World,b.heap=w.heap->(Builtin.firstCells sz n (vs i n c)).run P b=.ok R.toArray b:=λb U=>jv (by rw[U,s];exact hy) a4
  have X: ∀b:World,b.heap=w.heap->(Builtin.firstCells sz m (vs O m xc)).run P b=.ok D.toArray b:=λb U=>jv (by rw[U,s];exact hx) J
  let q:Question:=.appendCap (n+m) c T
  let t:Nat:=q.cut (w.tape w.drawn q)
  have a1:n+m<=t:=Nat.le_add_right _ _
  let b:World:={w with drawn:=w.drawn+1}
  let o:Obj:=.cells ((R++D).toArray++Builtin.zeroCells zero.cells (t-(n+m))) T
  let M:World:={b with heap:=b.heap.push o}
  refine⟨vs (some ⟨w.heap.size,0,none⟩) (n+m) t,M,?_,⟨rfl,rfl,rfl,Nat.le_succ _⟩,_,t,rfl,?_⟩
  ·have W:(choose q:Sem Nat).run P w=.ok t b:=by
    show Sem.run P (Sem.choose q Sem.pure) w=_
    simp only[Sem.run,q,Question.forced,Bool.false_eq_true,if_false]
    rfl
   have A: ∀k,(askRoom k:Sem Unit).run P b=.ok () b:=λk=>by
    unfold askRoom
    split<;>rfl
   unfold fR
   rw[run_bind_ok (x:=Value.slice (some ⟨w.heap.size,0,none⟩) (n+m) t) (w':=M)]
   ·rfl
   ·unfold Builtin.append_
    simp only[List.getElem?_toArray,List.getElem?_cons_zero,List.getElem?_cons_succ]
    rw[run_bind_ok (C w)]
    simp only[]
    rw[run_bind_ok (g w)]
    simp only[pure_bind]
    rw[run_bind_ok (l w)]
    have u: ¬(Builtin.nextslicecap (n+m) c*bytes>2 ^ 48):=by omega
    cases d<;>first | exact absurd rfl (j _) | (
     simp only[Bool.false_eq_true,if_false,Builtin.lenOf,pure_bind,Bool.not_false,if_true,p,false_or]
     rw[run_bind_ok (B w)]
     simp only[hb,V,and_false,if_false]
     rw[run_bind_ok (B w)]
     simp only[hb,u,if_false]
     rw[run_bind_ok W]
     rw[run_bind_ok (B b)]
     rw[run_bind_ok (A _)]
     rw[run_bind_ok (Y b rfl)]
     rw[run_bind_ok (X b rfl)]
     rw[run_bind_ok (a5 b),show R.toArray++D.toArray=(R++D).toArray by simp]
     rfl)
  ·show K (some ⟨w.heap.size,0,none⟩) t M.heap
   exact hk t w.heap.size M.heap a1 (by rw[s]) (by show w.heap.push o=_;rw[s])
def j3(t:TypeId)(l c:Value):Sem Next:=do pure (.value (<-Instr.makeSlice t l c))
theorem qU{P:Program}{H:Array Obj}{t T:TypeId}{a:TypeInfo}{zero:Value}{l c:Int}(C:P.underlying t=some (.slice T))(h:P.info? T=some a)(D:a.zero=some zero)
  (G:0<=l) (I:l<=c) (J:a.bytes*c<=2 ^ 48) (M:c<=9223372036854775807) (p:a.size=zero.cells.size) (q:a.size≠0):
  SS P (j3 t (vi l) (vi c)) H (λv H'=>v=vs (some ⟨H.size,0,none⟩) l.toNat c.toNat/\H'=H.push (.cells (Builtin.zeroCells zero.cells c.toNat) T)):=λw m=>by
 have i: ∀w,(typeInfo T).run P w=.ok a w:=λw=>by simp[typeInfo,program,Sem.run,Sem.run_bind,h,pure,Result.andThen]
 have o: ∀w,(zeroValue T).run P w=.ok zero w:=λw=>by simp[zeroValue,typeInfo,program,Sem.run,Sem.run_bind,h,D,pure,Result.andThen]
 have j: ∀w,(underlying t).run P w=.ok (.slice T) w:=λw=>by simp[underlying,program,Sem.run,C,Sem.run_bind,pure,Result.andThen]
 have g: ∀w,(sizeOf T).run P w=.ok a.size w:=λw=>by simp[sizeOf,typeInfo,program,Sem.run,Sem.run_bind,h,pure,Result.andThen]
 have d: ∀k,(askRoom k:Sem Unit).run P w=.ok () w:=λk=>by
  unfold askRoom
  split<;>rfl
 have F:IntKind.wrap .i64 l=l:=Go.IntWalk.i64_in l (by omega)
 have E:IntKind.wrap .i64 c=c:=Go.IntWalk.i64_in c (by omega)
 refine⟨_,{w with heap:=w.heap.push (.cells (Builtin.zeroCells zero.cells c.toNat) T)},?_,⟨rfl,rfl,rfl,Nat.le_refl _⟩,rfl,by rw[m]⟩
 unfold j3
 rw[run_bind_ok (x:=Value.slice (some ⟨H.size,0,none⟩) l.toNat c.toNat) (w':={w with heap:=w.heap.push (.cells (Builtin.zeroCells zero.cells c.toNat) T)})]
 ·rfl
 ·unfold Instr.makeSlice
  rw[run_bind_ok (j w)]
  simp only[asInt,asIntOf,pure_bind]
  rw[run_bind_ok (i w)]
  simp only[F,E]
  have s: ¬(c<0):=by omega
  have u: ¬((a.bytes:Int)*c>2 ^ 48):=by omega
  have z: ¬(l<0):=by omega
  have A: ¬(l>c):=by omega
  simp only[s,u,z,A,decide_false,Bool.or_false,Bool.false_or,Bool.false_eq_true,if_false]
  rw[run_bind_ok (d _),run_bind_ok (g w)]
  by_cases b:c.toNat*a.size=0
  ·have r:Builtin.zeroCells zero.cells c.toNat= #[]:=by unfold Builtin.zeroCells;rw[<-p,b];simp
   simp only[b,if_true]
   rw[r,<-m]
   have B: ∀f:Nat->Value,Array.map f (Array.range 0)= #[]:=λf=>by simp
   rw[B]
   rfl
  ·simp only[b,if_false]
   rw[run_bind_ok (o w),<-m]
   unfold Builtin.zeroCells
   rw[<-p]
   rfl
structure Ext (H H':Array Obj):Prop where
 size:H.size<=H'.size
 old: ∀i,i<H.size->H'[i]?=H[i]?
theorem Ext.refl(H:Array Obj):Ext H H:=⟨Nat.le_refl _,λ_ _=>rfl⟩
theorem Ext.trans{a b c:Array Obj}(h:Ext a b)(k:Ext b c):Ext a c:=
 ⟨Nat.le_trans h.size k.size,λi d=>(k.old i (Nat.lt_of_lt_of_le d h.size)).trans (h.old i d)⟩
theorem Ext.push(H:Array Obj)(o:Obj):Ext H (H.push o):=
 ⟨by simp,λi a=>by rw[Array.getElem?_push,if_neg (by omega)]⟩
theorem Ext.push'{H H':Array Obj}{o:Obj}(h:H'=H.push o):Ext H H':=h▸Ext.push H o
theorem Ext.get{H H':Array Obj}(h:Ext H H'){b:Nat}{o:Obj}(a:H[b]?=some o):H'[b]?=some o:=by
 have:b<H.size:=by
  rcases Nat.lt_or_ge b H.size with h | h
  ·exact h
  ·simp[Array.getElem?_eq_none h]at a
 rw[h.old b this];exact a
theorem Ext.hat{H H':Array Obj}(h:Ext H H'){a:Addr}{v:Value}(b:hat H a=some v):hat H' a=some v:=by
 unfold Go.Proofs.YtfhbhckhmnleoaaGreat.hat at*
 cases d:H[a.block]? with
 | none=>simp[d]at b
 | some o=>rw[h.get d];rw[d]at b;exact b
theorem aO{H H':Array Obj}{b:Nat}{o:Obj}(d:b=H.size)(a:H'=H.push o):H'[b]?=some o:=by
 subst d;subst a;simp
theorem bC{H:Array Obj}{b:Nat}{o:Obj}(h:H[b]?=some o):b<H.size:=by
 rcases Nat.lt_or_ge b H.size with a | a
 ·exact a
 ·simp[Array.getElem?_eq_none a]at h
theorem aK{H:Array Obj}{b o:Nat}{a:Array Value}{d:Nat×Nat}(h:H[b]?=some (.cells a j d)):hat H ⟨b,o,none⟩=a[o]?:=by
 unfold hat;simp[h]
theorem p9{H:Array Obj}{b o:Nat}{a:Array Value}(h:H[b]?=some (.cells a j (0,0)))(d:o<a.size):lP H ⟨b,o,none⟩:=by
 refine⟨by rw[aK h];simp[d],?_⟩
 unfold hfz;simp[h]
theorem cD{H:Array Obj}{b:Nat}{a:Array Value}{T:TypeId}(h:H[b]?=some (.cells a T (0,0))): ∀(n o i:Nat),o+i+n<=a.size->aN H ⟨b,o,none⟩ i n
 | 0,_,_,_=>trivial
 | n+1,o,i,hn=>⟨by rw[addr_add_mk];exact p9 h (by omega),cD h n o (i+1) (by omega)⟩
def bN(H:Array Obj)(b:Nat)(o:Obj):Array Obj:=H.setIfInBounds b o
theorem bD{H:Array Obj}{b:Nat}{o:Obj}(a:b<H.size):(bN H b o)[b]?=some o:=by
 unfold bN;simp[a]
theorem gO{H:Array Obj}{b a:Nat}{o:Obj}(d:b≠a):(bN H b o)[a]?=H[a]?:=by
 unfold bN;rw[Array.getElem?_setIfInBounds_ne d]
@[simp] theorem setBlk_size {H:Array Obj} {b:Nat} {o:Obj}:(bN H b o).size=H.size:=by unfold bN;simp
theorem oV{H:Array Obj}{b:Nat}{o:Obj}(h:H[b]?=some o):bN H b o=H:=by
 refine Array.ext_getElem? λi=>?_
 by_cases a:b=i
 ·subst a;rw[bD (bC h),h]
 ·rw[gO a]
theorem lq{H:Array Obj}{b:Nat}{o a:Obj}:bN (bN H b o) b a=bN H b a:=by
 unfold bN;simp
def splice(cs:Array Value)(o:Nat):List Value->Array Value
 | []=>cs
 | v::vs=>splice (cs.setIfInBounds o v) (o+1) vs
@[simp] theorem splice_size (cs:Array Value): ∀(vs:List Value) (o:Nat),(splice cs o vs).size=cs.size
 | [],_=>rfl
 | v::vs,o=>by simp only[splice];rw[splice_size _ vs (o+1)];simp
theorem dJ(a:Array Value): ∀(vs:List Value) (o i:Nat),i<o->(splice a o vs)[i]?=a[i]?
 | [],_,_,_=>rfl
 | v::vs,o,i,h=>by simp only[splice];rw[dJ _ vs (o+1) i (by omega),Array.getElem?_setIfInBounds_ne (by omega)]
theorem gf(a:Array Value): ∀(vs:List Value) (o i:Nat),o+vs.length<=i->(splice a o vs)[i]?=a[i]?
 | [],_,_,_=>rfl
 | v::vs,o,i,h=>by
  simp only[List.length_cons]at h
  simp only[splice];rw[gf _ vs (o+1) i (by omega),Array.getElem?_setIfInBounds_ne (by omega)]
theorem eU(a:Array Value): ∀(vs:List Value) (o j:Nat),o+vs.length<=a.size->j<vs.length->(splice a o vs)[o+j]?=vs[j]?
 | [],_,_,_,h=>by simp at h
 | v::vs,o,0,h,_=>by
  simp only[List.length_cons]at h
  simp only[splice,Nat.add_zero,List.getElem?_cons_zero]
  rw[dJ _ vs (o+1) o (by omega)]
  have b:o<a.size:=by omega
  simp[b]
 | v::vs,o,j+1,h,hj=>by
  simp only[List.length_cons]at h hj
  simp only[splice,List.getElem?_cons_succ]
  have:=eU (a.setIfInBounds o v) vs (o+1) j (by simp;omega) (by omega)
  rw[show o+(j+1)=o+1+j by omega];exact this
theorem sq{H:Array Obj}{b o:Nat}{d:Array Value}{f:Nat×Nat}(h:H[b]?=some (.cells d j f))(v:Value):hput H ⟨b,o,none⟩ v=bN H b (.cells (d.setIfInBounds o v) j f):=by
 refine Array.ext_getElem? λi=>?_
 unfold hput
 rw[Array.getElem?_modify]
 by_cases a:b=i
 ·subst a;rw[if_pos rfl,h,bD (bC h)];rfl
 ·rw[if_neg a,gO a]
theorem dO{b:Nat}{T:TypeId}{d:Nat×Nat}: ∀(vs:List Value) (H:Array Obj) (a:Array Value) (o i:Nat),H[b]?=some (.cells a T d)->aV H ⟨b,o,none⟩ vs i=bN H b (.cells (splice a (o+i) vs) T d)
 | [],H,a,o,i,h=>by simp only[aV,splice];rw[oV h]
 | v::vs,H,a,o,i,h=>by
  simp only[aV,addr_add_mk,splice]
  rw[sq h,dO vs _ (a.setIfInBounds (o+i) v) o (i+1) (bD (bC h)),lq,show o+(i+1)=o+i+1 by omega]
theorem gK{H:Array Obj}{b:Nat}{a:Array Value}{T:TypeId}{d:Nat×Nat}(h:H[b]?=some (.cells a T d)): ∀(vs:List Value) (o i:Nat),(∀j,j<vs.length->a[o+i+j]?=vs[j]?)->aP H ⟨b,o,none⟩ i vs
 | [],_,_,_=>trivial
 | v::vs,o,i,hv=>⟨by rw[addr_add_mk,aK h];have:=hv 0 (by simp);simpa using this,
   gK h vs o (i+1) λj f=>by have:=hv (j+1) (by simp;omega);rw[show o+(i+1)+j=o+i+(j+1)by omega,this];simp⟩
theorem gy{H:Array Obj}{a:Addr}: ∀{vs:List Value} {i:Nat},aP H a i vs-> ∀j v,vs[j]?=some v->hat H (a.add (i+j))=some v
 | [],_,_,j,v,hv=>by simp at hv
 | u::vs,i,h,0,v,hv=>by simp at hv;subst hv;exact h.1
 | u::vs,i,h,j+1,v,hv=>by
  have:=gy h.2 j v (by simpa using hv)
  rw[show i+(j+1)=i+1+j by omega];exact this
theorem Ext.rowAt{H H':Array Obj}(h:Ext H H'){a:Addr}: ∀{vs:List Value} {i:Nat},aP H a i vs->aP H' a i vs
 | [],_,_=>trivial
 | _::_,_,hr=>⟨h.hat hr.1,Ext.rowAt h hr.2⟩
theorem Ext.set{a H:Array Obj}(h:Ext a H){b:Nat}{o:Obj}(f:a.size<=b):Ext a (bN H b o):=
 ⟨by simpa using h.size,λi d=>by rw[gO (by omega)];exact h.old i d⟩
theorem boxed{H H1:Array Obj}{b:Nat}{d:Array Value}{vs:List Value}{n:Nat}(f:H[b]?=some (.cells d j (0,0)))(hn:d.size=n)(l:vs.length=n):
  aN H ⟨b,0,none⟩ 0 n/\(∀H1,H1=aV H ⟨b,0,none⟩ vs 0->aP H1 ⟨b,0,none⟩ 0 vs/\ ∀a:Array Obj,Ext a H->a.size<=b->Ext a H1):=by
 refine⟨cD f n 0 0 (by omega),λH1 i=>?_⟩
 rw[dO vs H d 0 0 f]at i
 subst i
 refine⟨gK (bD (bC f)) vs 0 0 λm k=>?_,λa h g=>h.set g⟩
 rw[show 0+0+m=0+m by omega]
 exact eU d vs 0 m (by omega) k
theorem HC.via{P:Program}{f:FuncId}{args:Array Value}{H:Array Obj}{a:Value->Array Obj->Prop}(h: ∀R:Value->Array Obj->Prop,(∀v H',a v H'->R v H')->HC P f args H R):HC P f args H a:=h a λ_ _ h=>h
abbrev aC(w:Int):Prop:=0<=w/\w<18446744073709551616
theorem w64{n:Int}(h: -9223372036854775808<=n/\n<=9223372036854775807):IntKind.wrap .i64 n=n:=Go.IntWalk.i64_in n h
theorem wu64{n:Int}(h:0<=n/\n<=18446744073709551615):IntKind.wrap .u64 n=n:=Go.IntWalk.u64_in n h
theorem tE(n:Int):IntKind.wrap .u64 n=n % 18446744073709551616:=by
 unfold IntKind.wrap;simp only[IntKind.bits,IntKind.signed,Bool.false_and,Bool.false_eq_true,if_false];rfl
theorem iy{x:Int}(a:0<=x)(b:x<18446744073709551616):(BitVec.ofInt IntKind.u64.bits x).toNat=x.toNat:=by
 rw[BitVec.toNat_ofInt]
 show(x % ((2 ^ 64:Nat):Int)).toNat=_
 rw[Int.emod_eq_of_lt a (by simpa using b)]
theorem sr{x y:Int}(a:0<=x/\x<18446744073709551616)(b:0<=y/\y<18446744073709551616):iand .u64 x y=((x.toNat &&& y.toNat:Nat):Int):=by
 unfold iand
 rw[BitVec.toNat_and,iy a.1 a.2,iy b.1 b.2]
 apply wu64
 have:x.toNat &&& y.toNat<=x.toNat:=Nat.and_le_left
 omega
theorem tF{x y:Int}(a:0<=x/\x<18446744073709551616)(b:0<=y/\y<18446744073709551616):ior .u64 x y=((x.toNat ||| y.toNat:Nat):Int):=by
 unfold ior
 rw[BitVec.toNat_or,iy a.1 a.2,iy b.1 b.2]
 apply wu64
 have:x.toNat ||| y.toNat<2 ^ 64:=Nat.or_lt_two_pow (by omega) (by omega)
 omega
theorem lR{x:Int}(b:Nat)(g:b<64)(f:0<=x/\x<18446744073709551616)(m:Int)(hm:m=2 ^ b-1):iand .u64 x m=x % (2 ^ b:Int):=by
 have h:(0:Int)<2 ^ b:=Int.pow_pos (by decide)
 have d:(2:Nat) ^ b<=2 ^ 63:=Nat.pow_le_pow_right (by decide) (by omega)
 have a:((2 ^ b:Nat):Int)=(2:Int) ^ b:=by simp
 rw[sr f (by omega),hm]
 have e:((2:Int) ^ b-1).toNat=2 ^ b-1:=by omega
 rw[e,Nat.and_two_pow_sub_one_eq_mod]
 have:x=(x.toNat:Int):=by omega
 rw[Int.natCast_emod,a,<-this]
theorem mz{x y:Int}(b:Nat)(k:0<=x/\x<18446744073709551616)(h:x % (2 ^ b:Int)=0)(l:0<=y/\y< (2 ^ b:Int))(g:b<=64):ior .u64 x y=x+y:=by
 have a:((2 ^ b:Nat):Int)=(2:Int) ^ b:=by simp
 have j:(2:Nat) ^ b<=2 ^ 64:=Nat.pow_le_pow_right (by decide) g
 rw[tF k (by omega)]
 have i:x.toNat % 2 ^ b=0:=by
  have:((x.toNat % 2 ^ b:Nat):Int)=0:=by rw[Int.natCast_emod,a,show((x.toNat:Nat):Int)=x by omega];exact h
  omega
 have f:x.toNat=2 ^ b*(x.toNat / 2 ^ b):=by
  have:=Nat.div_add_mod x.toNat (2 ^ b);omega
 have d:y.toNat<2 ^ b:=by omega
 rw[f,<-Nat.two_pow_add_eq_or_of_lt d,<-f]
 omega
theorem lr{k:IntKind}{x:Int}(y:Int)(n:Nat)(a:y=n)(hn:n<=k.bits):ishr k x y=x / (2 ^ n:Int):=by
 unfold ishr
 subst a
 rw[show min (n:Int).toNat k.bits=n by rw[Int.toNat_natCast];exact Nat.min_eq_left hn]
 rw[Int.fdiv_eq_ediv_of_nonneg _ (Int.pow_nonneg (by decide))]
theorem ku{x:Int}(y:Int)(n:Nat)(a:y=n)(hn:n<=64):ishl .u64 x y=(x*2 ^ n) % 18446744073709551616:=by
 unfold ishl
 subst a
 rw[show min (n:Int).toNat IntKind.u64.bits=n by rw[Int.toNat_natCast];exact Nat.min_eq_left hn,tE]
theorem hX{x y:Int}(a:0<=x):Int.tdiv x y=x / y:=Int.tdiv_eq_ediv_of_nonneg a
theorem gU{x y:Int}(a:0<=x):Int.tmod x y=x % y:=Int.tmod_eq_emod_of_nonneg a
theorem zZ{b:Bool}(h:¬b=true):b=false:=eq_false_of_ne_true h
theorem zX{p:Prop}[Decidable p](h:p):decide p=true:=decide_eq_true h
theorem zQ{p:Prop}[Decidable p](h:¬p):decide p=false:=decide_eq_false h
theorem zJ{α:Type}[BEq α][LawfulBEq α]{a b:α}(h:a≠b):(a==b)=false:=beq_eq_false_iff_ne.mpr h
theorem zK{α:Type}[BEq α][LawfulBEq α]{a b:α}(h:a=b):(a==b)=true:=beq_iff_eq.mpr h
variable{H j:zV}{d:TypeId}{i:List Value}{k:zW}{o:Nat}
structure Fr (S:List Nat) (H H':zV):Prop where
 size:H.size<=H'.size
 old: ∀i,i<H.size->i ∉ S->H'[i]?=H[i]?
theorem Fr.refl(S:List Nat)(H:zV):Fr S H H:=⟨Nat.le_refl _,λ_ _ _=>rfl⟩
theorem Fr.trans'{S d a:List Nat}{c:zV}(h:Fr S H j)(k:Fr d j c)(e: ∀i,i∈S->i<H.size->i∈a)(f: ∀i,i∈d->i<H.size->i∈a):Fr a H c:=
 ⟨Nat.le_trans h.size k.size,λi b hn=>(k.old i (Nat.lt_of_lt_of_le b h.size) (λhm=>hn (f i hm b))).trans (h.old i b (λhm=>hn (e i hm b)))⟩
theorem Fr.trans{S:List Nat}{a b c:zV}(h:Fr S a b)(k:Fr S b c):Fr S a c:=h.trans' k (λ_ h _=>h) (λ_ h _=>h)
theorem Fr.mono{S S':List Nat}{a b:zV}(h:Fr S a b)(d: ∀i,i∈S->i<a.size->i∈S'):Fr S' a b:=
 ⟨h.size,λi c hn=>h.old i c λhm=>hn (d i hm c)⟩
theorem Ext.fr{S:List Nat}{a b:zV}(h:Ext a b):Fr S a b:=⟨h.size,λi c _=>h.old i c⟩
theorem Fr.ext{S:List Nat}{a b:zV}(h:Fr S a b)(d: ∀i,i∈S->a.size<=i):Ext a b:=
 ⟨h.size,λi c=>h.old i c λhm=>by have:=d i hm;omega⟩
theorem Ext.fr_trans{S:List Nat}{c:zV}(h:Ext H j)(k:Fr S j c)(b: ∀i,i∈S->H.size<=i):Ext H c:=
 ⟨Nat.le_trans h.size k.size,λi a=>(k.old i (Nat.lt_of_lt_of_le a h.size) λhm=>by have:=b i hm;omega).trans (h.old i a)⟩
theorem Fr.get{S:List Nat}(h:Fr S H j){b:Nat}{o:Obj}(hn:b ∉ S)(a:H[b]?=some o):j[b]?=some o:=by
 rw[h.old b (bC a) hn];exact a
theorem Fr.set{b:Nat}{o:Obj}:Fr [b] H (bN H b o):=
 ⟨by simp,λi _ a=>by rw[gO (by simp at a;omega)]⟩
theorem Fr.hat{S:List Nat}{H d:zV}(h:Fr S H d){a:Addr}{v:Value}(hn:a.block ∉ S)(b:hat H a=some v):hat d a=some v:=by
 unfold Go.Proofs.YtfhbhckhmnleoaaGreat.hat at*
 cases c:H[a.block]? with
 | none=>simp[c]at b
 | some o=>rw[h.get hn c];rw[c]at b;exact b
theorem Fr.rowAt{S:List Nat}{H b:zV}(h:Fr S H b){a:Addr}(hn:a.block ∉ S): ∀{vs:List Value} {i:Nat},aP H a i vs->aP b a i vs
 | [],_,_=>trivial
 | _::_,_,hr=>⟨h.hat (by rw[show(a.add _).block=a.block by unfold Addr.add;split<;>rfl];exact hn) hr.1,Fr.rowAt h hn hr.2⟩
def Own(H:zV)(T:TypeId)(sz:Nat)(p:zW)(n c:Nat)(xs:List Value):Prop:=
 match p with
 | none=>n=0/\c=0/\xs=[]
 | some a=>a=⟨a.block,0,none⟩/\ ∃cs:Array Value,H[a.block]?=some (.cells cs T (0,0))/\cs.size=c*sz/\n<=c/\xs.length=n*sz/\ ∀j,j<n*sz->cs[j]?=xs[j]?
def blks(p:zW):List Nat:=match p with | none=> [] | some a=> [a.block]
@[simp] theorem blks_none:blks none=[]:=rfl
@[simp] theorem blks_some {a:Addr}:blks (some a)=[a.block]:=rfl
theorem iB:Own H d o none 0 0 []:=⟨rfl,rfl,rfl⟩
theorem Own.len{H:zV}{sz n c:Nat}(h:Own H d sz k n c i):i.length=n*sz:=by
 cases k with
 | none=>obtain⟨rfl,rfl,rfl⟩:=h;simp
 | some a=>obtain⟨_,b,_,_,_,h,_⟩:=h;exact h
theorem Own.le{b n c:Nat}(h:Own H d b k n c i):n<=c:=by
 cases k with
 | none=>obtain⟨rfl,rfl,rfl⟩:=h;exact Nat.le_refl _
 | some a=>obtain⟨_,e,_,_,h,_,_⟩:=h;exact h
theorem Own.keep{S:List Nat}{e n c:Nat}{p:zW}(h:Own H d e p n c i)(k:Fr S H j)(m: ∀b,b∈blks p->b ∉ S):Own j d e p n c i:=by
 cases p with
 | none=>exact h
 | some a=>obtain⟨g,f,l,o⟩:=h;exact⟨g,f,k.get (m _ (by simp)) l,o⟩
theorem Own.ext{a n c:Nat}{p:zW}(h:Own H d a p n c i)(k:Ext H j):Own j d a p n c i:=
 h.keep (S:=[]) k.fr (λ_ _=>by simp)
theorem Own.lt{f n c:Nat}{p:zW}(h:Own H d f p n c i): ∀b,b∈blks p->b<H.size:=by
 cases p with
 | none=>intro b e;simp at e
 | some a=>obtain⟨_,g,e,_⟩:=h;intro b hm;simp at hm;subst hm;exact bC e
theorem Own.at{H:zV}{T:TypeId}{sz n c:Nat}{p:zW}{b:List Value}(h:Own H T sz p n c b){j:Nat}{v:Value}(d:b[j]?=some v): ∃a,p=some a/\hat H (a.add j)=some v:=by
 have i:j<b.length:=by
  rcases Nat.lt_or_ge j b.length with h | h
  ·exact h
  ·simp[List.getElem?_eq_none h]at d
 cases p with
 | none=>obtain⟨rfl,rfl,rfl⟩:=h;simp at i
 | some a=>
  obtain⟨e,k,f,_,_,l,g⟩:=h
  refine⟨a,rfl,?_⟩
  rw[e,addr_add_mk,aK f,Nat.zero_add,g j (by omega),d]
theorem jw{H:zV}{a:Addr}: ∀{vs:List Value} {i:Nat},(∀j v,vs[j]?=some v->hat H (a.add (i+j))=some v)->aP H a i vs
 | [],_,_=>trivial
 | v::vs,i,h=>⟨by have:=h 0 v rfl;simpa using this,jw λj u b=>by have:=h (j+1) u (by simpa using b);rw[show i+1+j=i+(j+1)by omega];exact this⟩
theorem Own.src{n c:Nat}(h:Own H d o k n c i):gc H k i:=by
 cases k with
 | none=>obtain⟨rfl,rfl,rfl⟩:=h;rfl
 | some a=>
  refine jw λj v f=>?_
  obtain⟨g,b,e⟩:=h.at f
  cases b
  rw[Nat.zero_add];exact e
theorem jx{z:Array Value}{n:Nat}:(Builtin.zeroCells z n).size=n*z.size:=by
 unfold Builtin.zeroCells;simp
theorem kL{z:Array Value}{n k j:Nat}(hk:k<n)(a:j<z.size):(Builtin.zeroCells z n)[k*z.size+j]?=z[j]?:=by
 have b:(k+1)*z.size<=n*z.size:=Nat.mul_le_mul_right _ hk
 rw[Nat.add_mul,Nat.one_mul]at b
 unfold Builtin.zeroCells
 rw[Array.getElem?_map,Array.getElem?_range]
 rw[if_pos (by omega)]
 simp only[Option.map_some]
 rw[show(k*z.size+j) % z.size=j by rw[Nat.add_comm,Nat.add_mul_mod_self_right,Nat.mod_eq_of_lt a]]
 rw[getElem!_pos z j a,Array.getElem?_eq_getElem a]
theorem fU{e f n c m:Nat}{q:zW}{i xs ys:List Value}{K:zW->Nat->zV->Prop}
  (h:Own H d e k n c xs) (N:gc H q ys) (l:ys.length=m*e) (t:jR ys=true) (P:i.length=e) (r:(n+m)*f<=140737488355328)
  (z: ∀F v o,Own o d e F (n+m) v (xs++ys)->Fr (blks k) H o->(∀b,b∈blks F->b∈blks k\/H.size<=b)->K F v o):
  fE e d f i k n c q m H K:=by
 refine⟨ys,N,λ_=>l,t,λs=>?_,λE=>?_⟩
 ·cases k with
  | none=>
   obtain⟨rfl,rfl,rfl⟩:=h
   have hm:m=0:=by omega
   subst hm
   have O:ys=[]:=List.length_eq_zero_iff.1 (by omega)
   subst O
   exact z none 0 H ⟨rfl,rfl,rfl⟩ (Fr.refl _ _) (λb g=> .inl g)
  | some a=>
   obtain⟨G,w,g,I,hn,u,L⟩:=h
   have M:n*e+m*e<=w.size:=by rw[I,<-Nat.add_mul];exact Nat.mul_le_mul_right _ s
   have J:a.add (n*e)=⟨a.block,n*e,none⟩:=by rw[G];simp
   rw[onPtr_some,J]
   refine⟨by rw[l];exact cD g _ _ _ (by omega),?_⟩
   rw[dO ys H w (n*e) 0 g,Nat.add_zero]
   refine z (some a) c _ ⟨G,splice w (n*e) ys,bD (bC g),by rw[splice_size];exact I,s,by rw[List.length_append,u,l,Nat.add_mul],λj C=>?_⟩ Fr.set (λb g=> .inl g)
   rw[Nat.add_mul]at C
   rcases Nat.lt_or_ge j (n*e)with y | y
   ·rw[dJ _ _ _ _ y,L j y,List.getElem?_append_left (by omega)]
   ·have D:j=n*e+(j-n*e):=by omega
    rw[D,eU w ys (n*e) (j-n*e) (by omega) (by omega),List.getElem?_append_right (by omega),u]
    congr 1;omega
 ·have x:=h.len
  refine⟨xs,h.src,λ_=>x,growslice_fits E r,λv b o B g p=>?_⟩
  refine z _ v o ⟨rfl,_,aO g p,?_,B,by rw[List.length_append,x,l,Nat.add_mul],λj C=>?_⟩ ((Ext.push' p).fr) (λQ A=> .inr (by simp at A;omega))
  ·rw[Array.size_append,jx]
   simp only[List.size_toArray,List.length_append,x,l,P]
   rw[<-Nat.add_mul,<-Nat.add_mul];congr 1;omega
  ·rw[Nat.add_mul]at C
   rw[Array.getElem?_append_left (by simp only[List.size_toArray,List.length_append,x,l];omega)]
   simp
