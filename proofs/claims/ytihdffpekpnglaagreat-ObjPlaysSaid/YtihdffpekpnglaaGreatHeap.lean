/-
 A calculus of sparse frames over Code.wpIn (in a function, or in a round of a range over a function): environments (slot, value), judgements At / RegN / RegQ, laws for each kind of operation. Proves nothing of any one program.
-/
import Derived.Calls
import Derived.Orders
import Derived.OrdersIn
import Derived.TacticsIn
import Derived.RangeFuncRecord
import Derived.Sort.LoopGhostIn
import Derived.Deep.Quiet
import Derived.Deep.LoopGhost
import Derived.KernelRfl
import Derived.Laws.Sem
import Derived.IntWalk
set_option linter.unusedVariables false
set_option linter.unusedSimpArgs false
namespace Go.Proofs.YtihdffpekpnglaaGreat
open Go
abbrev zW:=Array Obj
abbrev zY:=Option Addr
abbrev zq(n:Int):Int:=IntKind.wrap .i64 n
abbrev zv:=Value->Array Obj->Prop
abbrev zw:=Int->Array Obj->Prop
abbrev yZ(i n:Int):Prop:=(0:Int)<=i/\i<n
theorem yX{α:Type}{x0:α}{l:List α}:x0∈x0::l:=List.Mem.head _
theorem yQ{α:Type}{x0 x1:α}{l:List α}:x1∈x0::x1::l:=List.Mem.tail _ (List.Mem.head _)
theorem yJ{α:Type}{x0 x1 x2:α}{l:List α}:x2∈x0::x1::x2::l:=List.Mem.tail _ (List.Mem.tail _ (List.Mem.head _))
theorem yK{α:Type}{x0 x1 x2 x3:α}{l:List α}:x3∈x0::x1::x2::x3::l:=List.Mem.tail _ (List.Mem.tail _ (List.Mem.tail _ (List.Mem.head _)))
theorem yV{α:Type}{x0 x1 x2 x3 x4:α}{l:List α}:x4∈x0::x1::x2::x3::x4::l:=List.Mem.tail _ (List.Mem.tail _ (List.Mem.tail _ (List.Mem.tail _ (List.Mem.head _))))
theorem yW{α:Type}{x0 x1 x2 x3 x4 x5:α}{l:List α}:x5∈x0::x1::x2::x3::x4::x5::l:=List.Mem.tail _ (List.Mem.tail _ (List.Mem.tail _ (List.Mem.tail _ (List.Mem.tail _ (List.Mem.head _)))))
variable {ds:List Deferred} {ro:Option Nat}

def fen(ro:Option Nat):Fence:={fn:=λ_=>True,depth:=none,alive:=false,round:=ro}
abbrev _root_.Go.Code.wpR(c:Code)(ro:Option Nat)(P:Program)(Q:Exit->Act->World->Prop):Act->World->Prop:=c.wpIn (fen ro) 0 P Q
abbrev Env:=List (Nat×Value)
def Env.get:Env->Nat->Option Value
 | [],_=>none
 | (k,v)::e,t=>bif Nat.beq k t then some v else Env.get e t

def iM(e:Env):Operand->Option Value
 | .tmp t=>e.get t
 | .const v=>some v
 | .global g=>some (.pointer (some ⟨g,0,none⟩))
 | .func f=>some (.func (.func f) #[] #[])

def rho(e:Env)(x:Operand):Value:=(iM e x).getD undef

def allIn(e:Env):List Operand->Bool
 | []=>true
 | x::l=>(iM e x).isSome && allIn e l

def kr(e:Env)(o:Oper):Bool:=(match o.op with | .select .. =>false | .defer _=>false | _=>true) && allIn e o.op.operands.toList

def j2(ops:Array Oper)(e:Env)(o:Oper):Option Bool:=
 match o.guard with
 | none=>some true
 | some (j,b)=>
  match(ops[j]?).bind (·.dst)with
  | none=>none
  | some t=>match e.get t with
   | some (.bool c)=>some (c==b)
   | some (.tuple _)=>some false
   | _=>none

def putS(n:Nat)(e:Env)(d:Option Nat)(v:Value):Option Env:=
 match d with
 | none=>some e
 | some d=>bif Nat.blt d n then some ((d,v)::e)else none

structure Agree (n:Nat) (ds:List Deferred) (e:Env) (a:Act):Prop where
 size:a.tmps.size=n
 defers:a.defers=ds
 vals: ∀t v,e.get t=some v->a.tmps[t]?=some v

structure Same (w w':World):Prop where
 os:w'.os=w.os
 tape:w'.tape=w.tape
 output:w'.output=w.output
 drawn:w.drawn<=w'.drawn
theorem Same.refl(w:World):Same w w:=⟨rfl,rfl,rfl,Nat.le_refl _⟩
theorem Same.trans{a b c:World}(h:Same a b)(k:Same b c):Same a c:=⟨k.os.trans h.os,k.tape.trans h.tape,k.output.trans h.output,Nat.le_trans h.drawn k.drawn⟩

theorem Env.get_cons(k:Nat)(v:Value)(e:Env)(t:Nat):Env.get ((k,v)::e) t=if k=t then some v else e.get t:=by
 simp only[Env.get]
 by_cases h:k=t
 ·subst h;simp
 ·have:Nat.beq k t=false:=by rw[<-Bool.not_eq_true,Nat.beq_eq];exact h
  simp[this,h]

theorem Agree.eval{n:Nat}{e:Env}{a:Act}(h:Agree n ds e a){x:Operand}{v:Value}(hx:iM e x=some v):a.eval x=v:=by
 cases x with
 | tmp t=>
  have:=h.vals t v hx
  simp[Act.eval,Array.getD_eq_getD_getElem?,this]
 | const v'=>simpa[iM,Act.eval]using hx
 | global g=>simpa[iM,Act.eval]using hx
 | func f=>simpa[iM,Act.eval]using hx

theorem nF{e:Env}: ∀{l:List Operand},allIn e l=true-> ∀x∈l,(iM e x).isSome=true
 | [],_,x,hx=>by cases hx
 | y::l,h,x,hx=>by
  simp only[allIn,Bool.and_eq_true]at h
  cases hx with
  | head=>exact h.1
  | tail _ hm=>exact nF h.2 x hm

theorem Agree.exec{n:Nat}{e:Env}{a:Act}(h:Agree n ds e a){o:Oper}(ho:kr e o=true):execOp a.eval o=execOp (rho e) o:=by
 simp only[kr,Bool.and_eq_true]at ho
 refine execOp_congr o (λcs b hs=>by rw[hs]at ho;simp at ho) λx hx=>?_
 have h1:=nF ho.2 x (by simpa using hx)
 obtain⟨v,hv⟩:=Option.isSome_iff_exists.1 h1
 rw[h.eval hv]
 simp[rho,hv]

theorem Agree.sem{n:Nat}{e:Env}{a:Act}(h:Agree n ds e a){o:Oper}(ho:kr e o=true):o.semAt (fen ro).round a.eval=execOp (rho e) o:=by
 rw[show(fen ro).round=ro from rfl,Oper.semAt_eq ro _ o (λc hc=>by simp[kr,hc]at ho),h.exec ho]

theorem Agree.wanted{n:Nat}{e:Env}{a:Act}(h:Agree n ds e a){ops:Array Oper}{o:Oper}{b:Bool}(hw:j2 ops e o=some b):Region.wanted o (yielded ops a.tmps)=b:=by
 unfold j2 at hw
 unfold Region.wanted
 cases hg:o.guard with
 | none=>simp[hg]at hw;simp[hw]
 | some p=>
  obtain⟨j,c⟩:=p
  simp only[hg]at hw
  unfold yielded
  cases ht:(ops[j]?).bind (·.dst)with
  | none=>simp[ht]at hw
  | some t=>
   simp only[ht]at hw
   cases hv:e.get t with
   | none=>simp[hv]at hw
   | some v=>
    have:=h.vals t v hv
    simp only[hv]at hw
    simp only[]
    rw[ht,Option.bind_some,this]
    cases v<;>simp at hw<;>simp[<-hw]

theorem Agree.put{n:Nat}{e:Env}{a:Act}(h:Agree n ds e a){d:Option Nat}{v:Value}{e':Env}(he:putS n e d v=some e'):Agree n ds e' (a.put d v):=by
 cases d with
 | none=>simp[putS]at he;subst he;exact h
 | some d=>
  simp only[putS]at he
  by_cases hd:Nat.blt d n=true
  ·simp only[hd,cond_true,Option.some.injEq]at he
   subst he
   have hlt:d<n:=by simpa[Nat.blt_eq]using hd
   refine⟨by simp[Act.put,h.size],h.defers,λt u ht=>?_⟩
   rw[Env.get_cons]at ht
   by_cases hdt:d=t
   ·subst hdt
    simp only[if_true,Option.some.injEq]at ht
    subst ht
    have:d<a.tmps.size:=by rw[h.size];exact hlt
    simp[Act.put,this]
   ·rw[if_neg hdt]at ht
    have:=h.vals t u ht
    simp only[Act.put]
    rw[Array.getElem?_setIfInBounds_ne hdt]
    exact this
  ·simp[hd]at he

def Sub(e' e:Env):Prop:=e'.map (λp=>e.get p.1)=e'.map (λp=>some p.2)
theorem Env.get_mem{e:Env}{t:Nat}{v:Value}(h:e.get t=some v):(t,v)∈e:=by
 induction e with
 | nil=>cases h
 | cons p e ih=>
  obtain⟨k,u⟩:=p
  rw[Env.get_cons]at h
  by_cases hk:k=t
  ·subst hk;simp only[if_true,Option.some.injEq]at h;subst h;exact List.mem_cons_self ..
  ·rw[if_neg hk]at h;exact List.mem_cons_of_mem _ (ih h)
theorem Sub.get{e' e:Env}(h:Sub e' e){t:Nat}{v:Value}(hv:e'.get t=some v):e.get t=some v:=by
 have hm:=Env.get_mem hv
 clear hv
 unfold Sub at h
 induction e' with
 | nil=>cases hm
 | cons p e' ih=>
  simp only[List.map_cons,List.cons.injEq]at h
  cases hm with
  | head=>exact h.1
  | tail _ hm=>exact ih h.2 hm
theorem Agree.sub{n:Nat}{e e':Env}{a:Act}(h:Agree n ds e a)(hs:Sub e' e):Agree n ds e' a:=
 ⟨h.size,h.defers,λt v hv=>h.vals t v (hs.get hv)⟩

def gn(n:Nat)(e:Env)(d:Option Nat)(v:Value)(e':Env):Prop:=(putS n e d v).map (λe1=>e'.map (λp=>e1.get p.1))=some (e'.map (λp=>some p.2))
theorem gn.get{n:Nat}{e:Env}{d:Option Nat}{v:Value}{e':Env}(h:gn n e d v e'): ∃e1,putS n e d v=some e1/\Sub e' e1:=by
 unfold gn at h
 cases hp:putS n e d v with
 | none=>rw[hp]at h;cases h
 | some e1=>rw[hp]at h;simp only[Option.map_some,Option.some.injEq]at h;exact⟨e1,rfl,h⟩
theorem Agree.putSub{n:Nat}{e:Env}{a:Act}(h:Agree n ds e a){d:Option Nat}{v:Value}{e':Env}(he:gn n e d v e'):Agree n ds e' (a.put d v):=by
 obtain⟨e1,h1,h2⟩:=he.get
 exact(h.put h1).sub h2

def At(n:Nat)(ds:List Deferred)(w0:World)(e:Env)(H:Array Obj)(K:Act->World->Prop):Prop:=
 ∀a w,Agree n ds e a->w.heap=H->Same w0 w->K a w

def HC(P:Program)(f:FuncId)(args:Array Value)(H:Array Obj)(R:Value->Array Obj->Prop):Prop:=
 ∀w,w.heap=H->Calls P f args w (λe w'=> ∃v,e=.returned v/\Same w w'/\R v w'.heap)

theorem HC.mono{P:Program}{f:FuncId}{args:Array Value}{H:Array Obj}{R R':Value->Array Obj->Prop}(h:HC P f args H R)(hr: ∀v H',R v H'->R' v H'):HC P f args H R':=
 λw hw=>(h w hw).mono λ_ _ ⟨v,he,hs,hR⟩=>⟨v,he,hs,hr _ _ hR⟩

def SS(P:Program)(S:Sem Next)(H:Array Obj)(R:Value->Array Obj->Prop):Prop:=
 ∀w,w.heap=H-> ∃v w',S.run P w=.ok (.value v) w'/\Same w w'/\R v w'.heap

section rules
variable {P:Program} {n:Nat} {w0:World} {e e':Env} {H H':Array Obj} {Q:Exit->Act->World->Prop} {K:Act->World->Prop} {c x y:Code}

theorem rv(e':Env)(hs:Sub e' e)(h:At n ds w0 e' H K):At n ds w0 e H K:=λa w ha hw hs0=>h a w (ha.sub hs) hw hs0
theorem rx(x y:Code)(hc:c=.seq x y)(h:At n ds w0 e H (x.wpR ro P (Exit.then (y.wpR ro P Q) Q))):At n ds w0 e H (c.wpR ro P Q):=
 λa w ha hw hs=>by rw[hc];exact wpIn_seq (h a w ha hw hs)
theorem aE(h:At n ds w0 e H K):At n ds w0 e H (Exit.then K Q .normal):=h
theorem ry(hc:c=.skip)(h:At n ds w0 e H (Q .normal)):At n ds w0 e H (c.wpR ro P Q):=
 λa w ha hw hs=>by rw[hc];exact wpIn_skip (h a w ha hw hs)
theorem qx(id:Nat)(x:Code)(hc:c=.block id x)(h:At n ds w0 e H (x.wpR ro P (Exit.inBlock id Q))):At n ds w0 e H (c.wpR ro P Q):=
 λa w ha hw hs=>by rw[hc];exact wpIn_block (h a w ha hw hs)
theorem aL{id:Nat}(h:At n ds w0 e H (Q .normal)):At n ds w0 e H (Exit.inBlock id Q .normal):=h
theorem sS(id:Nat)(hc:c=.exit id)(h:At n ds w0 e H (Q (.exit id))):At n ds w0 e H (c.wpR ro P Q):=
 λa w ha hw hs=>by rw[hc];exact wpIn_exit (h a w ha hw hs)
theorem zk(id:Nat)(h:At n ds w0 e H (Q (.exit id)))(hc:c=.exit id:=by kernel_rfl):At n ds w0 e H (c.wpR ro P Q):=sS id hc h
theorem aD{id:Nat}(h:At n ds w0 e H (Q (.exit id))):At n ds w0 e H (Exit.then K Q (.exit id)):=h
theorem aR{id:Nat}(h:At n ds w0 e H (Q .normal)):At n ds w0 e H (Exit.inBlock id Q (.exit id)):=λa w ha hw hs=>by
 simp only[Exit.inBlock,if_true];exact h a w ha hw hs
theorem pP{id id':Nat}(hne:Nat.beq id' id=false)(h:At n ds w0 e H (Q (.exit id'))):At n ds w0 e H (Exit.inBlock id Q (.exit id')):=λa w ha hw hs=>by
 have:id'≠id:=λh=>by rw[h,Nat.beq_refl]at hne;cases hne
 simp only[Exit.inBlock,this,if_false];exact h a w ha hw hs
theorem zj{id id':Nat}(h:At n ds w0 e H (Q (.exit id')))(hne:Nat.beq id' id=false:=by kernel_rfl):At n ds w0 e H (Exit.inBlock id Q (.exit id')):=pP hne h
theorem sP(hc:c=.ret)(h:At n ds w0 e H (Q .ret)):At n ds w0 e H (c.wpR ro P Q):=
 λa w ha hw hs=>by rw[hc];exact wpIn_ret (h a w ha hw hs)
theorem zz(h:At n ds w0 e H (Q .ret))(hc:c=.ret:=by kernel_rfl):At n ds w0 e H (c.wpR ro P Q):=sP hc h
theorem kI(o:Operand)(x y:Code)(hc:c=.cond o x y)(hv:iM e o=some (.bool true))(h:At n ds w0 e H (x.wpR ro P Q)):At n ds w0 e H (c.wpR ro P Q):=
 λa w ha hw hs=>by rw[hc];exact wpIn_cond_true (ha.eval hv) (h a w ha hw hs)
theorem ka(o:Operand)(x y:Code)(hc:c=.cond o x y)(hv:iM e o=some (.bool false))(h:At n ds w0 e H (y.wpR ro P Q)):At n ds w0 e H (c.wpR ro P Q):=
 λa w ha hw hs=>by rw[hc];exact wpIn_cond_false (ha.eval hv) (h a w ha hw hs)

def RegN(ro:Option Nat)(P:Program)(n:Nat)(ds:List Deferred)(w0:World)(ops:Array Oper)(i:Nat)(e:Env)(H:Array Obj)(Q:Exit->Act->World->Prop):Prop:=
 ∀a w,Agree n ds e a->w.heap=H->Same w0 w->wpListIn (fen ro) 0 P ops Q (ops.toList.drop i) a w

theorem my(id:Nat)(ops:Array Oper)(hc:c=.region id ops false)(h:RegN ro P n ds w0 ops 0 e H Q):At n ds w0 e H (c.wpR ro P Q):=
 λa w ha hw hs=>by rw[hc];exact wpIn_region_list (by simpa using h a w ha hw hs)

theorem qy{ops:Array Oper}{i:Nat}(hi:ops.toList.drop i=[])(h:At n ds w0 e H (Q .normal)):RegN ro P n ds w0 ops i e H Q:=
 λa w ha hw hs=>by rw[hi];exact wpListIn_nil (h a w ha hw hs)
theorem zx{ops:Array Oper}{i:Nat}(h:At n ds w0 e H (Q .normal))(hi:ops.toList.drop i=[]:=by kernel_rfl):RegN ro P n ds w0 ops i e H Q:=qy hi h

def qz(P:Program)(n:Nat)(ops:Array Oper)(o:Oper)(e:Env)(w:World):Option (Env×World):=
 match j2 ops e o with
 | some true=>
  bif kr e o then
   match(execOp (rho e) o).run P w with
   | .ok (.value v) w'=>(putS n e o.dst v).map (·,w')
   | .ok .skip w'=>(putS n e o.dst undef).map (·,w')
   | _=>none
  else none
 | some false=>(putS n e o.dst undef).map (·,w)
 | none=>none

def runS(P:Program)(n:Nat)(ops:Array Oper):List Oper->Env->World->Option (Env×World)
 | [],e,w=>some (e,w)
 | o::l,e,w=>match qz P n ops o e w with
  | some (e',w')=>runS P n ops l e' w'
  | none=>none

def sel(e':Env)(r:Option (Env×World)):Option (List (Option Value)×World):=r.map λx=>(e'.map (λp=>x.1.get p.1),x.2)
def keep(e':Env)(w:World):Option (List (Option Value)×World):=some (e'.map (λp=>some p.2),w)

theorem oA{ops:Array Oper}{o:Oper}{w w':World}{a:Act}{rest:List Oper}(hst:qz P n ops o e w=some (e',w'))(ha:Agree n ds e a)
  (h: ∀a',Agree n ds e' a'->wpListIn (fen ro) 0 P ops Q rest a' w'):wpListIn (fen ro) 0 P ops Q (o::rest) a w:=by
 unfold qz at hst
 unfold wpListIn
 cases hw:j2 ops e o with
 | none=>simp[hw]at hst
 | some b=>
  simp only[hw]at hst
  rw[ha.wanted hw]
  cases b with
  | false=>
   simp only[Option.map_eq_some_iff,Prod.mk.injEq]at hst
   obtain⟨e1,he1,rfl,rfl⟩:=hst
   rw[if_neg Bool.false_ne_true]
   exact⟨λ_ _=>trivial,h _ (ha.put he1)⟩
  | true=>
   simp only[if_true]
   by_cases hok:kr e o=true
   ·simp only[hok,cond_true]at hst
    refine⟨λ_ _=>trivial,?_⟩
    rw[ha.sem hok]
    generalize (execOp (rho e) o).run P w=r at hst⊢
    cases r with
    | halt _ _=>simp at hst
    | ok nx w1=>
     cases nx<;>simp only[reduceCtorEq,Option.map_eq_some_iff,Prod.mk.injEq]at hst
     case value v=>
      obtain⟨e1,he1,rfl,rfl⟩:=hst
      exact h _ (ha.put he1)
     case skip=>
      obtain⟨e1,he1,rfl,rfl⟩:=hst
      exact h _ (ha.put he1)
   ·simp[hok]at hst

theorem mz{ops:Array Oper}: ∀(l:List Oper) {rest:List Oper} {e e':Env} {w w':World} {a:Act},runS P n ops l e w=some (e',w')->Agree n ds e a->
  (∀a',Agree n ds e' a'->wpListIn (fen ro) 0 P ops Q rest a' w')->wpListIn (fen ro) 0 P ops Q (l++rest) a w
 | [],rest,e,e',w,w',a,hr,ha,h=>by simp[runS]at hr;obtain⟨rfl,rfl⟩:=hr;exact h _ ha
 | o::l,rest,e,e',w,w',a,hr,ha,h=>by
  simp only[runS]at hr
  cases hs:qz P n ops o e w with
  | none=>simp[hs]at hr
  | some r=>
   obtain⟨e1,w1⟩:=r
   simp only[hs]at hr
   exact oA hs ha λa' ha'=>mz l hr ha' h

theorem qA{ops:Array Oper}{i:Nat}(k:Nat)(e':Env)(hr: ∀w,sel e' (runS P n ops ((ops.toList.drop i).take k) e w)=keep e' w)
  (h:RegN ro P n ds w0 ops (i+k) e' H Q):RegN ro P n ds w0 ops i e H Q:=λa w ha hw hs=>by
 have h1:=hr w
 cases hx:runS P n ops ((ops.toList.drop i).take k) e w with
 | none=>rw[hx]at h1;simp[sel,keep]at h1
 | some r=>
  obtain⟨e1,w1⟩:=r
  rw[hx]at h1
  simp only[sel,keep,Option.map_some,Option.some.injEq,Prod.mk.injEq]at h1
  obtain⟨hsub,rfl⟩:=h1
  have h2:=mz (Q:=Q) (rest:=ops.toList.drop (i+k)) _ hx ha λa' ha'=>h a' w1 (ha'.sub hsub) hw hs
  rw[show ops.toList.drop (i+k)=(ops.toList.drop i).drop k by rw[List.drop_drop],List.take_append_drop]at h2
  exact h2

def dY(P:Program)(ops:Array Oper)(i:Nat)(e:Env)(w:World):Option (Option Tmp×Result Next):=
 match ops.toList.drop i with
 | []=>none
 | o::_=>
  match j2 ops e o with
  | some true=>bif kr e o then some (o.dst,(execOp (rho e) o).run P w)else none
  | _=>none

theorem iw{ops:Array Oper}{i:Nat}{w:World}{d:Option Tmp}{r:Result Next}(h:dY P ops i e w=some (d,r)):
  ∃o,ops.toList.drop i=o::ops.toList.drop (i+1)/\j2 ops e o=some true/\kr e o=true/\o.dst=d/\(execOp (rho e) o).run P w=r:=by
 unfold dY at h
 cases hd:ops.toList.drop i with
 | nil=>simp[hd]at h
 | cons o l=>
  simp only[hd]at h
  cases hw:j2 ops e o with
  | none=>simp[hw]at h
  | some b=>
   cases b with
   | false=>simp[hw]at h
   | true=>
    simp only[hw]at h
    by_cases hok:kr e o=true
    ·simp only[hok,cond_true,Option.some.injEq,Prod.mk.injEq]at h
     refine⟨o,?_,hw,hok,h.1,h.2⟩
     have:ops.toList.drop (i+1)=l:=by rw[<-List.drop_drop,hd];rfl
     rw[this]
    ·simp[hok]at h

theorem N_op{ops:Array Oper}{i:Nat}(d:Option Tmp)(S:Sem Next)(R:Value->Array Obj->Prop)(hx: ∀w,dY P ops i e w=some (d,S.run P w))(hS:SS P S H R)
  (h: ∀v H',R v H'-> ∃e',gn n e d v e'/\RegN ro P n ds w0 ops (i+1) e' H' Q):RegN ro P n ds w0 ops i e H Q:=λa w ha hw hs=>by
 obtain⟨o,hd,hwant,hok,hdst,hrun⟩:=iw (hx w)
 rw[hd]
 unfold wpListIn
 rw[ha.wanted hwant]
 simp only[if_true]
 refine⟨λ_ _=>trivial,?_⟩
 rw[ha.sem hok,hrun]
 obtain⟨v,w',hv,hsame,hR⟩:=hS w hw
 rw[hv]
 obtain⟨e',he',hk⟩:=h v _ hR
 simp only[Oper.uponIn]
 rw[hdst]
 exact hk _ _ (ha.putSub he') rfl (hs.trans hsame)

theorem oD{ops:Array Oper}{i:Nat}(d:Option Tmp)(S:Sem Next)(R:Array Obj->Prop)(hx: ∀w,dY P ops i e w=some (d,S.run P w))
  (hS: ∀w,w.heap=H-> ∃w',S.run P w=.ok .skip w'/\Same w w'/\R w'.heap)
  (h: ∀H',R H'-> ∃e',gn n e d undef e'/\RegN ro P n ds w0 ops (i+1) e' H' Q):RegN ro P n ds w0 ops i e H Q:=λa w ha hw hs=>by
 obtain⟨o,hd,hwant,hok,hdst,hrun⟩:=iw (hx w)
 rw[hd]
 unfold wpListIn
 rw[ha.wanted hwant]
 simp only[if_true]
 refine⟨λ_ _=>trivial,?_⟩
 rw[ha.sem hok,hrun]
 obtain⟨w',hv,hsame,hR⟩:=hS w hw
 rw[hv]
 obtain⟨e',he',hk⟩:=h _ hR
 simp only[Oper.uponIn]
 rw[hdst]
 exact hk _ _ (ha.putSub he') rfl (hs.trans hsame)

theorem sU{ops:Array Oper}{i:Nat}(d:Option Tmp)(f:FuncId)(args:Array Value)(hx: ∀w,dY P ops i e w=some (d,.ok (.enter f args) w)){R:Value->Array Obj->Prop}(hc:HC P f args H R)
  (h: ∀v H',R v H'-> ∃e',gn n e d v e'/\RegN ro P n ds w0 ops (i+1) e' H' Q):RegN ro P n ds w0 ops i e H Q:=λa w ha hw hs=>by
 obtain⟨o,hd,hwant,hok,hdst,hrun⟩:=iw (hx w)
 rw[hd]
 unfold wpListIn
 rw[ha.wanted hwant]
 simp only[if_true]
 refine⟨λ_ _=>trivial,?_⟩
 rw[ha.sem hok,hrun]
 simp only[Oper.uponIn]
 refine⟨λhh=>(by cases hh),CallsIn.mono (show CallsIn (fen ro) _ P f args w _ from callsIn_wide.2 (hc w hw)) λen w' ⟨v,he,hsame,hR⟩=>?_⟩
 subst he
 obtain⟨e',he',hk⟩:=h v _ hR
 simp only[]
 rw[hdst]
 exact hk _ _ (ha.putSub he') rfl (hs.trans hsame)

def Cls(w0:World)(H:Array Obj)(w:World):Prop:=w.heap=H/\Same w0 w
def RegQ(P:Program)(n:Nat)(ds:List Deferred)(w0:World)(ops:Array Oper)(i:Nat)(e:Env)(H:Array Obj)(Q:Exit->Act->World->Prop):Prop:=
 ∀a,Agree n ds e a->wpQuiet P ops (Cls w0 H) (λa'=> ∀w',Cls w0 H w'->Q .normal a' w') (ops.toList.drop i) a

theorem nG(id:Nat)(ops:Array Oper)(hc:c=.region id ops true)(hm:P.follows .mixedOrders=true)(hB:Region.lexB .any ops=true)(h:RegQ P n ds w0 ops 0 e H Q):At n ds w0 e H (c.wpR none P Q):=
 λa w ha hw hs=>by
  rw[hc]
  exact wpIn_wide.2 (wp_region_quiet (C:=Cls w0 H) hm hB ⟨hw,⟨hs.os,hs.tape,hs.output,Nat.le_succ_of_le hs.drawn⟩⟩ (by simpa using h a ha))

theorem rz{ops:Array Oper}{i:Nat}(hi:ops.toList.drop i=[])(h:At n ds w0 e H (Q .normal)):RegQ P n ds w0 ops i e H Q:=
 λa ha=>by rw[hi];exact wpQuiet_nil λw' hw'=>h a w' ha hw'.1 hw'.2

def mD(P:Program)(ops:Array Oper)(o:Oper)(e:Env)(w:World):Option (Value×World):=
 match j2 ops e o with
 | some true=>
  bif kr e o then
   match(execOp (rho e) o).run P w with
   | .ok (.value v) w'=>some (v,w')
   | .ok .skip w'=>some (undef,w')
   | _=>none
  else none
 | some false=>some (undef,w)
 | none=>none

theorem sQ{ops:Array Oper}{i:Nat}(v:Value)(e':Env)(d:Option Tmp)(hd:(ops.toList.drop i).head?.map (·.dst)=some d)
  (hv: ∀w,((ops.toList.drop i).head?.bind λo=>mD P ops o e w)=some (v,w)) (he:gn n e d v e')
  (h:RegQ P n ds w0 ops (i+1) e' H Q):RegQ P n ds w0 ops i e H Q:=λa ha=>by
 cases hl:ops.toList.drop i with
 | nil=>rw[hl]at hd;simp at hd
 | cons o l=>
  rw[hl]at hd hv
  simp only[List.head?_cons,Option.map_some,Option.some.injEq,Option.bind_some]at hd hv
  subst hd
  have hl':ops.toList.drop (i+1)=l:=by rw[<-List.drop_drop,hl];rfl
  have hk:=h _ (ha.putSub he)
  rw[hl']at hk
  unfold wpQuiet
  cases hw:j2 ops e o with
  | none=>have:=hv default;simp[mD,hw]at this
  | some b=>
   rw[ha.wanted hw]
   cases b with
   | false=>
    have:=hv default
    simp only[mD,hw,Option.some.injEq,Prod.mk.injEq,and_true]at this
    subst this
    simpa using hk
   | true=>
    simp only[if_true]
    refine⟨v,λw _=>?_,hk⟩
    have h1:=hv w
    simp only[mD,hw]at h1
    by_cases hok:kr e o=true
    ·simp only[hok,cond_true]at h1
     unfold Oper.quietAt
     rw[ha.exec hok]
     generalize (execOp (rho e) o).run P w=r at h1⊢
     cases r with
     | halt _ _=>simp at h1
     | ok nx w1=>
      cases nx<;>simp only[reduceCtorEq,Option.some.injEq,Prod.mk.injEq]at h1
      case value u=>exact⟨h1.2,h1.1⟩
      case skip=>exact⟨h1.2,h1.1.symm⟩
    ·simp[hok]at h1

theorem Q_op{ops:Array Oper}{i:Nat}(d:Option Tmp)(S:Sem Next)(v:Value)(hx: ∀w,dY P ops i e w=some (d,S.run P w))(hS: ∀w,w.heap=H->S.run P w=.ok (.value v) w)
  (e':Env) (he:gn n e d v e') (h:RegQ P n ds w0 ops (i+1) e' H Q):RegQ P n ds w0 ops i e H Q:=λa ha=>by
 obtain⟨o,hd,hwant,hok,hdst,_⟩:=iw (hx default)
 rw[hd]
 unfold wpQuiet
 rw[ha.wanted hwant]
 simp only[if_true]
 subst hdst
 refine⟨v,λw hw=>?_,h _ (ha.putSub he)⟩
 obtain⟨o',hd',_,_,_,hrun⟩:=iw (hx w)
 rw[hd]at hd'
 obtain⟨rfl,_⟩:=List.cons.inj hd'
 unfold Oper.quietAt
 rw[ha.exec hok,hrun,hS w hw.1]
 exact⟨rfl,rfl⟩

theorem jp{ops:Array Oper}{i:Nat}(e':Env)(hs:Sub e' e)(h:RegQ P n ds w0 ops i e' H Q):RegQ P n ds w0 ops i e H Q:=λa ha=>h a (ha.sub hs)
theorem rB{ops:Array Oper}{i:Nat}(e':Env)(hs:Sub e' e)(h:RegN ro P n ds w0 ops i e' H Q):RegN ro P n ds w0 ops i e H Q:=λa w ha=>h a w (ha.sub hs)

theorem dS{σ:Type}(env:σ->Env)(I:σ->Array Obj->Prop)(μ:σ->Array Obj->Nat)(s0:σ)(hc:c=.loop x)(hI:I s0 H)(he:Sub (env s0) e)
  (round: ∀s H',I s H'->At n ds w0 (env s) H' (x.wpR ro P (Exit.then (λa w=> ∃s',Agree n ds (env s') a/\Same w0 w/\I s' w.heap/\μ s' w.heap<μ s H') Q))):
  At n ds w0 e H (c.wpR ro P Q):=λa w ha hw hs=>by
 rw[hc]
 refine wpIn_loop_ghost (λk a w=> ∃s,Agree n ds (env s) a/\Same w0 w/\I s w.heap/\μ s w.heap=k) (μ s0 H) ⟨s0,ha.sub he,hs,hw▸hI,by rw[hw]⟩ ?_
 rintro k a1 w1 ⟨s,ha1,hs1,hI1,rfl⟩
 refine wpIn_mono (round s w1.heap hI1 a1 w1 ha1 rfl hs1) ?_
 intro ex a2 w2 hq
 cases ex with
 | normal=>
  obtain⟨s',ha2,hs2,hI2,hlt⟩:=hq
  exact⟨_,hlt,s',ha2,hs2,hI2,rfl⟩
 | exit id=>exact hq
 | goto l=>exact hq
 | ret=>exact hq
 | panic ch=>exact hq
 | outgrown=>exact hq

theorem bG{σ:Type}{env:σ->Env}{I:σ->Array Obj->Prop}{μ:σ->Array Obj->Nat}{s:σ}{H0:Array Obj}(s':σ)(he:Sub (env s') e)(hI:I s' H/\μ s' H<μ s H0):
  At n ds w0 e H (λa w=> ∃s',Agree n ds (env s') a/\Same w0 w/\I s' w.heap/\μ s' w.heap<μ s H0):=
 λa w ha hw hs=>⟨s',ha.sub he,hs,by rw[hw];exact hI.1,by rw[hw];exact hI.2⟩

end rules

def env0:Nat->List Value->Env
 | _,[]=> []
 | i,v::l=>(i,v)::env0 (i+1) l

theorem oE: ∀(l:List Value) (i t:Nat) (v:Value),(env0 i l).get t=some v->i<=t/\l[t-i]?=some v
 | [],_,_,_,h=>by cases h
 | u::l,i,t,v,h=>by
  simp only[env0]at h
  rw[Env.get_cons]at h
  by_cases hit:i=t
  ·subst hit;simp only[if_true,Option.some.injEq]at h;subst h;simp
  ·rw[if_neg hit]at h
   obtain⟨h1,h2⟩:=oE l (i+1) t v h
   refine⟨by omega,?_⟩
   obtain⟨j,rfl⟩: ∃j,t=i+1+j:=⟨t-(i+1),by omega⟩
   have e1:i+1+j-(i+1)=j:=by omega
   have e2:i+1+j-i=j+1:=by omega
   rw[e1]at h2;rw[e2];simpa using h2

def kL(P:Program)(fn:Func)(w0:World)(R:Value->Array Obj->Prop)(a:Act)(w:World):Prop:=
 LeavesInM Fence.wide 0 P fn a.tmps (λe w'=> ∃v,e=.returned v/\Same w0 w'/\R v w'.heap) a.defers .returning w
theorem sx{P:Program}{f:FuncId}{fn:Func}{c:Code}{args:Array Value}{H:Array Obj}{R:Value->Array Obj->Prop}(n:Nat)(hf:P.funcs[f]?=some fn)(hb:fn.body=some c)(hn:fn.ntmps=n)(hle:args.size<=n)
  (h: ∀(w0:World) (Q:Exit->Act->World->Prop),
   (∀a w,kL P fn w0 R a w->Q .ret a w/\Q .normal a w)->At n [] w0 (env0 0 args.toList) H (c.wpR none P Q)):HC P f args H R:=λw hw=>by
 refine callsIn_wide.1 (callsIn_of_wp_marks hf hb trivial (n:=0) ?_)
 refine h w (bodyPostM Fence.wide 0 P fn _) (λa w' hl=>⟨hl,hl⟩) _ _ ?_ hw (Same.refl w)
 refine⟨?_,rfl,λt v hv=>?_⟩
 ·simp only[Array.size_append,Array.size_replicate];omega
 ·obtain⟨_,h2⟩:=oE _ _ _ _ hv
  simp only[Nat.sub_zero,Array.getElem?_toList]at h2
  show(args++Array.replicate (fn.ntmps-args.size) undef)[t]?=some v
  have:t<args.size:=by
   rcases Nat.lt_or_ge t args.size with h | h
   ·exact h
   ·simp[Array.getElem?_eq_none h]at h2
  rw[Array.getElem?_append_left this]
  exact h2

variable {ds:List Deferred} {ro:Option Nat}

def hat(H:Array Obj)(a:Addr):Option Value:=
 match H[a.block]? with
 | some (.cells c _ _)=>if a.spot.isSome then none else c[a.off]?
 | _=>none
def hfz(H:Array Obj)(a:Addr):Bool:=
 match H[a.block]? with
 | some (.cells _ _ (lo,hi))=>lo<=a.off && a.off<hi
 | _=>false
def hput(H:Array Obj)(a:Addr)(v:Value):Array Obj:=
 H.modify a.block λ
  | .cells c elem frozen=> .cells (if a.spot.isSome then c else c.setIfInBounds a.off v) elem frozen
  | o=>o
theorem mE(w:World)(a:Addr):w.cell? a=hat w.heap a:=rfl
theorem pQ(w:World)(a:Addr):w.frozen? a=hfz w.heap a:=rfl
theorem lh(w:World)(a:Addr)(v:Value):(w.setCell a v).heap=hput w.heap a v:=rfl
theorem nY(w:World)(a:Addr)(v:Value):Same w (w.setCell a v):=⟨rfl,rfl,rfl,Nat.le_refl _⟩

def lE(H:Array Obj)(a:Addr):Prop:=(hat H a).isSome=true/\hfz H a=false
def aP(H:Array Obj)(a:Addr):List Value->Nat->Array Obj
 | [],_=>H
 | v::vs,i=>aP (hput H (a.add i) v) a vs (i+1)

theorem ml(H:Array Obj)(a b:Addr)(v:Value)(h:(hat H b).isSome=true):(hat (hput H a v) b).isSome=true:=by
 unfold hat hput at*
 rw[Array.getElem?_modify]
 by_cases hb:a.block=b.block
 ·rw[if_pos hb]
  cases hx:H[b.block]? with
  | none=>simp[hx]at h
  | some o=>
   simp only[hx]at h
   simp only[Option.map_some]
   cases o with
   | cells c el fr=>
    by_cases hs:b.spot.isSome=true
    ·simp[hs]at h
    ·simp only[hs,Bool.false_eq_true,if_false]at h⊢
     split<;>simpa using h
   | _=>exact h
 ·rw[if_neg hb];exact h
theorem rC(H:Array Obj)(a b:Addr)(v:Value):hfz (hput H a v) b=hfz H b:=by
 unfold hfz hput
 rw[Array.getElem?_modify]
 by_cases hb:a.block=b.block
 ·rw[if_pos hb]
  cases hx:H[b.block]? with
  | none=>simp
  | some o=>cases o<;>simp
 ·rw[if_neg hb]
theorem lE.put{H:Array Obj}{b:Addr}(h:lE H b)(a:Addr)(v:Value):lE (hput H a v) b:=⟨ml H a b v h.1,by rw[rC];exact h.2⟩

@[simp] theorem addr_add_mk (b o n:Nat):Addr.add ⟨b,o,none⟩ n=⟨b,o+n,none⟩:=by
 unfold Addr.add;split<;>simp_all

def mF(P:Program)(H:Array Obj)(t:TypeId)(a:Addr)(v:Value):Prop:= ∀w,w.heap=H->(loadVar t a).run P w=.ok v w

theorem run_bind_ok{α β:Type}{P:Program}{s:Sem α}{k:α->Sem β}{w w':World}{x:α}(h:s.run P w=.ok x w'):(s>>=k).run P w=(k x).run P w':=by
 rw[Sem.run_bind,h];rfl

theorem oF{P:Program}{w:World}{a:Addr}{v:Value}(h:w.cell? a=some v):(load a).run P w=.ok v w:=by
 show Sem.run P (Sem.load .plain a Sem.pure) w=_
 simp only[Sem.run,h]

theorem jf{P:Program}{H:Array Obj}{t:TypeId}{a:Addr}{v:Value}(hg: ∀w,(isAgg t).run P w=.ok false w)(h:hat H a=some v):mF P H t a v:=λw hw=>by
 unfold loadVar
 rw[run_bind_ok (hg w)]
 simp only[Bool.false_eq_true,if_false]
 exact oF (by rw[mE,hw];exact h)

def aG(H:Array Obj)(a:Addr):Nat->List Value->Prop
 | _,[]=>True
 | i,v::vs=>hat H (a.add i)=some v/\aG H a (i+1) vs

theorem iN{P:Program}{w:World}{a:Addr}: ∀(vs:List Value) (i:Nat) (acc:Array Value),aG w.heap a i vs->(loadCellsFrom a i vs.length acc).run P w=.ok (acc++vs.toArray) w
 | [],i,acc,_=>by simp[loadCellsFrom,pure]
 | v::vs,i,acc,h=>by
  simp only[List.length_cons,loadCellsFrom]
  rw[run_bind_ok (oF (P:=P) (v:=v) (w:=w) h.1)]
  rw[iN vs (i+1) _ h.2]
  simp

theorem aQ{P:Program}{H:Array Obj}{t:TypeId}{a:Addr}{vs:List Value}(hg: ∀w,(isAgg t).run P w=.ok true w)(hn: ∀w,(sizeOf t).run P w=.ok vs.length w)(h:aG H a 0 vs):mF P H t a (.agg vs.toArray):=λw hw=>by
 unfold loadVar
 rw[run_bind_ok (hg w)]
 simp only[if_true]
 rw[run_bind_ok (hn w)]
 unfold loadCells
 rw[run_bind_ok (iN (P:=P) vs 0 #[] (by rw[hw];exact h))]
 simp[pure]

def aT(t:TypeId)(v:Value):Sem Next:=do pure (.value (<-Instr.loadAt t v))
theorem hG{P:Program}{H:Array Obj}{t:TypeId}{a:Addr}{v:Value}(h:mF P H t a v)(w:World)(hw:w.heap=H):(aT t (.pointer (some a))).run P w=.ok (.value v) w:=by
 have h1:(Instr.loadAt t (.pointer (some a))).run P w=.ok v w:=h w hw
 unfold aT
 rw[run_bind_ok h1]
 rfl
theorem sD{P:Program}{H:Array Obj}{t:TypeId}{a:Addr}{v:Value}(h:mF P H t a v):SS P (aT t (.pointer (some a))) H (λu H'=>u=v/\H'=H):=
 λw hw=>⟨v,w,hG h w hw,Same.refl w,rfl,hw⟩

theorem qM{P:Program}{w:World}{a:Addr}{v:Value}(hv:(match v with | .agg _ | .tuple _=>false | _=>true)=true)(h:lE w.heap a):(store a v).run P w=.ok () (w.setCell a v):=by
 obtain⟨u,hu⟩:=Option.isSome_iff_exists.1 h.1
 have hf:w.frozen? a=false:=by rw[pQ];exact h.2
 have hc:w.cell? a=some u:=by rw[mE];exact hu
 show Sem.run P (Sem.store .plain a v (Sem.pure ())) w=_
 cases v<;>simp at hv<;>simp only[Sem.run,hc,hf,Bool.false_eq_true,if_false]

def gF:List Value->Bool
 | []=>true
 | v::vs=>(match v with | .agg _ | .tuple _=>false | _=>true) && gF vs
def aJ(H:Array Obj)(a:Addr):Nat->Nat->Prop
 | _,0=>True
 | i,n+1=>lE H (a.add i)/\aJ H a (i+1) n
theorem aJ.put{H:Array Obj}{b:Addr}(a:Addr)(v:Value): ∀{n i:Nat},aJ H b i n->aJ (hput H a v) b i n
 | 0,_,_=>trivial
 | _+1,_,h=>⟨h.1.put a v,aJ.put a v h.2⟩

theorem iV{P:Program}{a:Addr}: ∀(vs:List Value) (i:Nat) (w:World),gF vs=true->aJ w.heap a i vs.length->
  ∃w',(storeCells a vs i).run P w=.ok () w'/\Same w w'/\w'.heap=aP w.heap a vs i
 | [],_,w,_,_=>⟨w,rfl,Same.refl w,rfl⟩
 | v::vs,i,w,h1,h2=>by
  simp only[gF,Bool.and_eq_true]at h1
  obtain⟨w',hr,hs,hh⟩:=iV (P:=P) (a:=a) vs (i+1) (w.setCell (a.add i) v) h1.2 (by rw[lh];exact h2.2.put _ _)
  refine⟨w',?_,(nY w _ _).trans hs,by rw[hh,lh];rfl⟩
  unfold storeCells
  rw[run_bind_ok (qM h1.1 h2.1)]
  exact hr

def jg(t:TypeId)(a v:Value):Sem Next:=do Instr.storeAt t a v;pure .skip
theorem iW{P:Program}{H:Array Obj}{t:TypeId}{a:Addr}{v:Value}(vs:List Value)(k:Nat)(hl:v.cells.toList=vs)(hk:vs.length=k)(hn: ∀w,(sizeOf t).run P w=.ok k w)(h1:gF vs=true)(h2:aJ H a 0 k):
  ∀w,w.heap=H-> ∃w',(jg t (.pointer (some a)) v).run P w=.ok .skip w'/\Same w w'/\w'.heap=aP H a vs 0:=λw hw=>by
 subst hl;subst hk
 obtain⟨w',hr,hs,hh⟩:=iV (P:=P) (a:=a) v.cells.toList 0 w h1 (by rw[hw];exact h2)
 refine⟨w',?_,hs,by rw[hh,hw]⟩
 have h3:(Instr.storeAt t (.pointer (some a)) v).run P w=.ok () w':=by
  show(storeVar t a v).run P w=_
  unfold storeVar
  rw[run_bind_ok (hn w)]
  simp only[Array.length_toList,ne_eq,not_true_eq_false,if_false]
  exact hr
 unfold jg
 rw[run_bind_ok h3]
 rfl

section
variable {P:Program} {n:Nat} {w0:World} {e e':Env} {H H':Array Obj} {Q:Exit->Act->World->Prop}
theorem tr{ops:Array Oper}{i:Nat}(d:Option Tmp)(f:Nat->Value)(o:Obj)(hx: ∀w,dY P ops i e w=some (d,.ok (.value (f w.heap.size)) {w with heap:=w.heap.push o}))
  (h: ∀b H',b=H.size->H'=H.push o-> ∃e',gn n e d (f b) e'/\RegN ro P n ds w0 ops (i+1) e' H' Q):RegN ro P n ds w0 ops i e H Q:=λa w ha hw hs=>by
 obtain⟨op,hd,hwant,hok,hdst,hrun⟩:=iw (hx w)
 rw[hd]
 unfold wpListIn
 rw[ha.wanted hwant]
 simp only[if_true]
 refine⟨λ_ _=>trivial,?_⟩
 rw[ha.sem hok,hrun]
 obtain⟨e',he',hk⟩:=h w.heap.size (w.heap.push o) (by rw[hw]) (by rw[hw])
 simp only[Oper.uponIn]
 rw[hdst]
 exact hk _ _ (ha.putSub he') rfl (hs.trans ⟨rfl,rfl,rfl,by simp⟩)

theorem nH{ops:Array Oper}{i:Nat}(d:Option Tmp)(S:Sem Next)(v:Value)(hx: ∀w,dY P ops i e w=some (d,S.run P w))(hS: ∀w,w.heap=H->S.run P w=.ok (.value v) w)
  (e':Env) (he:gn n e d v e') (h:RegN ro P n ds w0 ops (i+1) e' H Q):RegN ro P n ds w0 ops i e H Q:=
 N_op d S (λu H'=>u=v/\H'=H) hx (λw hw=>⟨v,w,hS w hw,Same.refl w,rfl,hw⟩) (by rintro _ _ ⟨rfl,rfl⟩;exact⟨e',he,h⟩)
end

def bD(t:TypeId)(x i:Value):Sem Next:=do pure (.value (<-Instr.indexAt t x i))
theorem bR{P:Program}{t elem sz:Nat}{a:Addr}{len cap:Nat}{k:IntKind}{i:Int}(hu:P.underlying t=some (.slice elem))(hz: ∀w,(sizeOf elem).run P w=.ok sz w)
  (h0:0<=i) (h1:i<len) (w:World):(bD t (.slice (some a) len cap) (.int k i)).run P w=.ok (.value (.pointer (some (a.add (i.toNat*sz))))) w:=by
 have hz':=hz w
 simp[bD,Instr.indexAt,Sem.run_bind,asIntOf,underlying,program,hu,h0,h1,hz',Sem.run,pure,Result.andThen]
theorem dK{P:Program}{t elem sz n:Nat}{a:Addr}{k:IntKind}{i:Int}(hu:P.underlying t=some (.array n elem))(hz: ∀w,(sizeOf elem).run P w=.ok sz w)
  (h0:0<=i) (h1:i<n) (w:World):(bD t (.pointer (some a)) (.int k i)).run P w=.ok (.value (.pointer (some (a.add (i.toNat*sz))))) w:=by
 have hz':=hz w
 simp[bD,Instr.indexAt,Sem.run_bind,asIntOf,underlying,program,hu,h0,h1,hz',Sem.run,pure,Result.andThen,Instr.sureAddr]

def pR(t:TypeId)(x i:Value):Sem Next:=do pure (.value (<-Instr.index t x i))
theorem nZ{P:Program}{t elem n:Nat}{cs:Array Value}{k:IntKind}{i:Int}{v:Value}(hu:P.underlying t=some (.array n elem))(hz: ∀w,(sizeOf elem).run P w=.ok 1 w)(hg: ∀w,(isAgg elem).run P w=.ok false w)
  (h0:0<=i) (h1:i<n) (hv:cs[i.toNat]?=some v) (w:World):(pR t (.agg cs) (.int k i)).run P w=.ok (.value v) w:=by
 have hz':=hz w
 have hg':=hg w
 simp[pR,Instr.index,Sem.run_bind,asIntOf,underlying,program,hu,h0,h1,hz',hg',hv,Sem.run,pure,Result.andThen,part]

def binN(op:BinOp)(t:TypeId)(x y:Value):Sem Next:=do pure (.value (<-binOp op t x y))
theorem sE{P:Program}{t:TypeId}{k:IntKind}{x y:Int}(hy:y≠0)(w:World):(binN .rem t (.int k x) (.int k y)).run P w=.ok (.value (.int k (x.tmod y))) w:=by
 simp[binN,binOp,Op.intDiv,hy,Sem.run_bind,Sem.run,pure,Result.andThen]
def ishl(k:IntKind)(x y:Int):Int:=k.wrap (x*2 ^ (min y.toNat k.bits))
def ishr(k:IntKind)(x y:Int):Int:=x.fdiv (2 ^ (min y.toNat k.bits))
theorem mp{P:Program}{t:TypeId}{k k':IntKind}{x y:Int}(hy:0<=y)(w:World):(binN .shl t (.int k x) (.int k' y)).run P w=.ok (.value (.int k (ishl k x y))) w:=by
 have: ¬y<0:=by omega
 simp[binN,binOp,Op.shift,this,Sem.run_bind,Sem.run,pure,Result.andThen,ishl]
theorem qC{P:Program}{t:TypeId}{k k':IntKind}{x y:Int}(hy:0<=y)(w:World):(binN .shr t (.int k x) (.int k' y)).run P w=.ok (.value (.int k (ishr k x y))) w:=by
 have: ¬y<0:=by omega
 simp[binN,binOp,Op.shift,this,Sem.run_bind,Sem.run,pure,Result.andThen,ishr]
def iand(k:IntKind)(x y:Int):Int:=k.wrap (BitVec.ofInt k.bits x &&& BitVec.ofInt k.bits y).toNat
def ior(k:IntKind)(x y:Int):Int:=k.wrap (BitVec.ofInt k.bits x ||| BitVec.ofInt k.bits y).toNat
def ku(t:TypeId)(x:Value)(lo hi mx:Option Value):Sem Next:=do pure (.value (<-Instr.sliceAt t x lo hi mx))
theorem jD{P:Program}{t elem sz:Nat}{a:Option Addr}{len cap:Nat}(lo hi:Option Value)(l h:Nat)(hu:P.underlying t=some (.slice elem))(hz: ∀w,(sizeOf elem).run P w=.ok sz w)
  (hlo:(lo=none/\l=0)\/ ∃k,lo=some (.int k l)) (hhi:(hi=none/\h=len)\/ ∃k,hi=some (.int k h)) (h1:l<=h) (h2:h<=cap) (w:World):
  (ku t (.slice a len cap) lo hi none).run P w=.ok (.value (.slice (if cap=l then a else a.map (·.add (l*sz))) (h-l) (cap-l))) w:=by
 have hz':=hz w
 have e0:(0:Int)<=(h:Int):=by omega
 have e1:(h:Int)<=(cap:Int):=by omega
 have e2:(0:Int)<=(l:Int):=by omega
 have e3:(l:Int)<=(h:Int):=by omega
 rcases hlo with⟨rfl,rfl⟩ | ⟨k,rfl⟩<;>rcases hhi with⟨rfl,rfl⟩ | ⟨k',rfl⟩<;>
  simp_all [ku,Instr.sliceAt,Instr.slice,Instr.sliceBounds,Instr.sliceBound,Sem.run_bind,asIntOf,underlying,program,Sem.run,pure,Result.andThen]
def tup:List Value->Value
 | [v]=>v
 | vs=> .tuple vs.toArray
inductive cK (P:Program) (H:Array Obj) (e:Env):List ResultVar->List Value->Prop where
 | nil:cK P H e [] []
 | tmp {t:Nat} {v:Value} {rs:List ResultVar} {vs:List Value} (h:e.get t=some v) (r:cK P H e rs vs):cK P H e (.tmp t::rs) (v::vs)
 | cell {b t:Nat} {a:Addr} {v:Value} {rs:List ResultVar} {vs:List Value} (h:e.get b=some (.pointer (some a))) (hl:mF P H t a v) (r:cK P H e rs vs):cK P H e (.cell b t::rs) (v::vs)

theorem Agree.getD{n:Nat}{e:Env}{a:Act}(h:Agree n ds e a){t:Nat}{v:Value}(hv:e.get t=some v):a.tmps.getD t undef=v:=by
 have:=h.vals t v hv
 simp[Array.getD_eq_getD_getElem?,this]

theorem cK.list{P:Program}{H:Array Obj}{n:Nat}{e:Env}{a:Act}{w:World}(ha:Agree n ds e a)(hw:w.heap=H): ∀{rs:List ResultVar} {vs:List Value},cK P H e rs vs->
  Sem.run P (rs.mapM (λr:ResultVar=>match r with | .tmp t=>(pure (a.tmps.getD t undef):Sem Value) | .cell b t=>do loadVar t (<-asAddr (a.tmps.getD b undef)))) w=Result.ok vs w
 | _,_,.nil=>rfl
 | _,_,.tmp h r=>by
  have ih:=cK.list ha hw r
  rw[List.mapM_cons]
  simp only[pure_bind,ha.getD h]
  rw[run_bind_ok ih]
  rfl
 | _,_,.cell h hl r=>by
  have ih:=cK.list ha hw r
  rw[List.mapM_cons]
  simp only[ha.getD h]
  rw[run_bind_ok (x:=_) (w':=w) (by show Sem.run P (loadVar _ _) w=_;exact hl w hw),run_bind_ok ih]
  rfl

theorem cK.run{P:Program}{H:Array Obj}{n:Nat}{e:Env}{a:Act}{w:World}{fn:Func}{vs:List Value}(ha:Agree n ds e a)(hw:w.heap=H)(h:cK P H e fn.results.toList vs):
  (results fn a.tmps).run P w=.ok (tup vs) w:=by
 have h1:=cK.list ha hw h
 unfold results
 rw[Array.mapM_eq_mapM_toList]
 simp only[bind_map_left]
 refine(run_bind_ok (x:=vs) (w':=w) h1).trans ?_
 match vs with
 | []=>rfl
 | [v]=>rfl
 | v::u::vs=>simp[tup,pure]

section
variable {P:Program} {n:Nat} {w0:World} {e:Env} {H:Array Obj} {Q:Exit->Act->World->Prop}
def marks(Ds:List Nat):List Deferred:=Ds.map λD=>{target:=.collected D,args:= #[]}
def Shut:List Nat->Array Obj->(Array Obj->Prop)->Prop
 | [],H,K=>K H
 | D::Ds,H,K=>H[D]?=some (.deferred (some []))/\Shut Ds (H.setIfInBounds D (.deferred none)) K
theorem Shut.mono{K K':Array Obj->Prop}(hk: ∀H',K H'->K' H'): ∀{Ds:List Nat} {H:Array Obj},Shut Ds H K->Shut Ds H K'
 | [],_,h=>hk _ h
 | _::_,_,h=>⟨h.1,Shut.mono hk h.2⟩
theorem Shut.leave{fn:Func}{R:Value->Array Obj->Prop}{tm:Array Value}(ht: ∀w vs,cK P w.heap e fn.results.toList vs->(results fn tm).run P w=.ok (tup vs) w): ∀(Ds:List Nat) (w:World),Same w0 w->Shut Ds w.heap (λH'=> ∃vs,cK P H' e fn.results.toList vs/\R (tup vs) H')->
  LeavesInM Fence.wide 0 P fn tm (λe w'=> ∃v,e=.returned v/\Same w0 w'/\R v w'.heap) (marks Ds) .returning w
 | [],w,hs,⟨vs,h⟩=>⟨_,ht w vs h.1,_,rfl,hs,h.2⟩
 | D::Ds,w,hs,h=>⟨by simp,.inl ⟨D,_,rfl,run_takeDeferred h.1,Shut.leave ht Ds _ ⟨hs.os,hs.tape,hs.output,hs.drawn⟩ h.2⟩⟩
theorem sF{fn:Func}{R:Value->Array Obj->Prop}(Ds:List Nat)(hQ: ∀a w,kL P fn w0 R a w->Q .ret a w/\Q .normal a w)
  (h:Shut Ds H (λH'=> ∃vs,cK P H' e fn.results.toList vs/\R (tup vs) H')):At n (marks Ds) w0 e H (Q .ret):=λa w ha hw hs=>
 (hQ a w (by unfold kL;rw[ha.defers];exact Shut.leave (λw' vs hr=>hr.run ha rfl) Ds w hs (by rw[hw];exact h))).1
theorem rD{fn:Func}{R:Value->Array Obj->Prop}(Ds:List Nat)(hQ: ∀a w,kL P fn w0 R a w->Q .ret a w/\Q .normal a w)
  (h:Shut Ds H (λH'=> ∃vs,cK P H' e fn.results.toList vs/\R (tup vs) H')):At n (marks Ds) w0 e H (Q .normal):=λa w ha hw hs=>
 (hQ a w (by unfold kL;rw[ha.defers];exact Shut.leave (λw' vs hr=>hr.run ha rfl) Ds w hs (by rw[hw];exact h))).2
theorem cP{fn:Func}{R:Value->Array Obj->Prop}(vs:List Value)
  (hQ: ∀a w,kL P fn w0 R a w->Q .ret a w/\Q .normal a w)
  (hres:cK P H e fn.results.toList vs) (h:R (tup vs) H):At n [] w0 e H (Q .ret):=sF [] hQ ⟨vs,hres,h⟩
theorem n9{fn:Func}{R:Value->Array Obj->Prop}(vs:List Value)
  (hQ: ∀a w,kL P fn w0 R a w->Q .ret a w/\Q .normal a w)
  (hres:cK P H e fn.results.toList vs) (h:R (tup vs) H):At n [] w0 e H (Q .normal):=rD [] hQ ⟨vs,hres,h⟩

theorem kb{σ:Type}{c:Code}(env:σ->Env)(J:σ->Array Obj->Prop)(hk: ∀s H',J s H'->At n ds w0 (env s) H' (Q .normal))
  (h:At n ds w0 e H (c.wpR ro P (Exit.then (λa w=> ∃s,Agree n ds (env s) a/\Same w0 w/\J s w.heap) Q))):At n ds w0 e H (c.wpR ro P Q):=λa w ha hw hs=>by
 refine wpIn_mono (h a w ha hw hs) ?_
 intro ex a' w' hq
 cases ex with
 | normal=>obtain⟨s,ha',hs',hJ⟩:=hq;exact hk s _ hJ a' w' ha' rfl hs'
 | exit id=>exact hq
 | goto l=>exact hq
 | ret=>exact hq
 | panic ch=>exact hq
 | outgrown=>exact hq
theorem fH{σ:Type}{env:σ->Env}{J:σ->Array Obj->Prop}(s:σ)(he:Sub (env s) e)(hJ:J s H):At n ds w0 e H (λa w=> ∃s,Agree n ds (env s) a/\Same w0 w/\J s w.heap):=
 λa w ha hw hs=>⟨s,ha.sub he,hs,by rw[hw];exact hJ⟩
theorem gp{ops:Array Oper}{i:Nat}(e1:Env)(hk:At n ds w0 e1 H (Q .normal))(h:At n ds w0 e1 H (Q .normal)->RegN ro P n ds w0 ops i e H Q):RegN ro P n ds w0 ops i e H Q:=h hk
theorem eT(e':Env)(he:e=e'){K:Act->World->Prop}(h:At n ds w0 e' H K):At n ds w0 e H K:=he▸h
theorem bV{ops:Array Oper}{i:Nat}(e':Env)(he:e=e')(h:RegN ro P n ds w0 ops i e' H Q):RegN ro P n ds w0 ops i e H Q:=he▸h
theorem tB{ops:Array Oper}{i:Nat}(e':Env)(he:e=e')(h:RegQ P n ds w0 ops i e' H Q):RegQ P n ds w0 ops i e H Q:=he▸h
end

def gk(p:Option Addr)(A:Prop)(B:Addr->Prop):Prop:=match p with | none=>A | some a=>B a
@[simp] theorem onPtr_none {A:Prop} {B:Addr->Prop}:gk none A B=A:=rfl
@[simp] theorem onPtr_some {A:Prop} {B:Addr->Prop} {a:Addr}:gk (some a) A B=B a:=rfl
theorem sb{e' e:Env}(h:e'.map (λp=>e.get p.1)=e'.map (λp=>some p.2)):Sub e' e:=h
theorem ps{n:Nat}{e:Env}{d:Option Nat}{v:Value}{e':Env}(h:(putS n e d v).map (λe1=>e'.map (λp=>e1.get p.1))=some (e'.map (λp=>some p.2))):gn n e d v e':=h

def Code.fa:Code->Code
 | .seq a _=>a
 | .cond _ a _=>a
 | .block _ b=>b
 | .loop b=>b
 | .scope b=>b
 | .rangeFunc _ _ a _=>a
 | c=>c
def Code.fb:Code->Code
 | .seq _ b=>b
 | .cond _ _ b=>b
 | .rangeFunc _ _ _ b=>b
 | c=>c
def Code.ops:Code->Array Oper
 | .region _ o _=>o
 | _=> #[]
def Func.code(f:Func):Code:=f.body.getD .skip
variable {ds:List Deferred} {ro:Option Nat}

def QN(Q:Exit->Act->World->Prop):Exit->Act->World->Prop
 | .panic _,_,_=>False
 | e,a,w=>Q e a w
theorem QN.imp{Q:Exit->Act->World->Prop}: ∀(e:Exit) (a:Act) (w:World),QN Q e a w->Q e a w:=λe a w h=>by
 cases e<;>first | exact h | exact(h:False).elim

section
variable {P:Program} {ops:Array Oper} {Q:Exit->Act->World->Prop} {md:Region.Mode} {S:Array Bool->World->Prop}

def Closed(md:Region.Mode)(ops:Array Oper)(L:Array Bool):Prop:=
 L.size=ops.size/\ ∀j oj,ops[j]?=some oj->L.getD j false=true-> ∀e∈oj.after,Region.binds md e=true->L.getD e.on false=true
theorem Closed.set{L:Array Bool}{i:Nat}(h:Closed md ops L)(hi:i∈Region.ready md ops L):Closed md ops (L.setIfInBounds i true):=by
 obtain⟨_,oi,hoi,hall⟩:=mem_ready.1 hi
 refine⟨by simpa using h.1,?_⟩
 intro j oj hj hl e he hb
 by_cases hij:i=j
 ·subst hij
  have:oj=oi:=Option.some.inj (hj.symm.trans hoi)
  subst this
  exact getD_set_true (hall e he hb)
 ·rw[getD_set_ne false hij]at hl
  exact getD_set_true (h.2 j oj hj hl e he hb)
theorem Closed.none(m:Nat)(hm:ops.size=m):Closed md ops (Array.replicate m false):=⟨by simp[hm],λj oj _ hl=>by
 have:(Array.replicate m false).getD j false=false:=by
  rcases Nat.lt_or_ge j m with h | h<;>simp[h]
 rw[this]at hl;cases hl⟩

def kv(md:Region.Mode)(ops:Array Oper):Nat->Nat->Nat->Bool
 | 0,_,_=>false
 | f+1,k,i=>match ops[k]? with
  | some o=>o.after.any (λe=>Region.binds md e && e.on==i) || o.after.any (λe=>Region.binds md e && kv md ops f e.on i)
  | none=>false
theorem lU{L:Array Bool}(hc:Closed md ops L): ∀{f k i:Nat},kv md ops f k i=true->L.getD k false=true->L.getD i false=true
 | 0,_,_,h,_=>by simp[kv]at h
 | f+1,k,i,h,hk=>by
  unfold kv at h
  cases ho:ops[k]? with
  | none=>simp[ho]at h
  | some o=>
   simp only[ho,Bool.or_eq_true]at h
   rcases h with h | h
   ·obtain⟨e,he,hb⟩:=Array.any_eq_true'.1 h
    simp only[Bool.and_eq_true,beq_iff_eq]at hb
    have:=hc.2 k o ho hk e he hb.1
    rw[hb.2]at this;exact this
   ·obtain⟨e,he,hb⟩:=Array.any_eq_true'.1 h
    simp only[Bool.and_eq_true]at hb
    exact lU hc hb.2 (hc.2 k o ho hk e he hb.1)

def iQ(P:Program)(md:Region.Mode)(ops:Array Oper)(S:Array Bool->World->Prop)(i:Nat)(o:Oper)(v:Value)(a:Act):Prop:=
 (∀c,o.op≠.defer c)/\((Region.wanted o (yielded ops a.tmps)=true/\ ∀L w,Closed md ops L->L.getD i true=false->S L w->(execOp a.eval o).run P w=.ok (.value v) w)\/
 (Region.wanted o (yielded ops a.tmps)=false/\v=undef))

theorem iQ.wpOp{i:Nat}{o:Oper}{v:Value}{a:Act}(hi:ops[i]?=some o)(hy:iQ P md ops S i o v a)
  {K:Act->World->Prop} {w:World} {L:Array Bool} (hc:Closed md ops L) (hL:L.getD i true=false) (hS:S L w) (h:K (a.put o.dst v) w):wpOpIn (fen ro) 0 P ops Q i K a w:=by
 unfold Go.wpOpIn
 simp only[hi]
 have hnd:o.semAt (fen ro).round a.eval=execOp a.eval o:=Oper.semAt_eq ro _ o hy.1
 rcases hy.2 with⟨hw,hv⟩ | ⟨hw,rfl⟩
 ·simp only[hw,if_true,Oper.wpIn,hnd,hv L w hc hL hS,Oper.uponIn];exact⟨λ_ _=>trivial,h⟩
 ·simp only[hw,Bool.false_eq_true,if_false];exact⟨λ_ _=>trivial,h⟩
theorem iQ.of_same{i:Nat}{o:Oper}{v:Value}{a a':Act}(hy:iQ P md ops S i o v a)(he:execOp a'.eval o=execOp a.eval o)
  (hw:Region.wanted o (yielded ops a'.tmps)=Region.wanted o (yielded ops a.tmps)):iQ P md ops S i o v a':=by
 unfold iQ at*
 rw[he,hw]
 exact hy
theorem qN{i j:Nat}{oi oj:Oper}{v:Value}(hj:ops[j]?=some oj)(hap:oi.apart ops oj=true)
  (hsi: ∀cs b,oi.op≠.select cs b) (hsj: ∀cs b,oj.op≠.select cs b) (hdj: ∀c,oj.op≠.defer c)
  (hQ: ∀c a w,¬Q (.panic c) a w) {K:Act->World->Prop} {a:Act} {w:World}
  (hy:iQ P md ops S i oi v a) (h:wpOpIn (fen ro) 0 P ops Q j K (a.put oi.dst v) w):
  wpOpIn (fen ro) 0 P ops Q j (λa' w'=>iQ P md ops S i oi v a'/\K (a'.put oi.dst v) w') a w:=by
 obtain⟨h1,h2,h3⟩:=Oper.apart_spec hap
 have keep: ∀(a:Act),iQ P md ops S i oi v a-> ∀u,iQ P md ops S i oi v (a.put oj.dst u):=λa hy u=>
  hy.of_same (execOp_put oi hsi a oj.dst u h3) (wanted_put oi a oj.dst u h3)
 have keepD: ∀d,iQ P md ops S i oi v {a with defers:=d::a.defers}:=λd=>hy.of_same rfl rfl
 unfold wpOpIn at*
 simp only[hj]at*
 rw[wanted_put oj a oi.dst v h1]at h
 have hnd: ∀ρ,oj.semAt (fen ro).round ρ=execOp ρ oj:=λρ=>Oper.semAt_eq ro ρ oj hdj
 split
 ·rename_i hw
  simp only[hw,if_true]at h
  refine⟨λ_ _=>trivial,?_⟩
  have h:=h.2
  rw[hnd,execOp_put oj hsj a oi.dst v h1]at h
  rw[hnd]
  generalize (execOp a.eval oj).run P w=r at*
  cases r with
  | ok n w'=>
   cases n<;>simp only[Oper.uponIn]at h⊢
   case value u=>exact⟨keep a hy u,by rw[<-Act.put_comm a v u h2];exact h⟩
   case skip=>exact⟨keep a hy _,by rw[<-Act.put_comm a v undef h2];exact h⟩
   case defer d=>
    refine⟨keep _ (keepD d) _,?_⟩
    rw[<-Act.put_comm _ v undef h2,<-Act.put_defers]
    exact h
   case enter f args=>
    refine⟨h.1,CallsIn.mono h.2 λe w'' he=>?_⟩
    cases e with
    | returned u=>exact⟨keep a hy u,by rw[<-Act.put_comm a v u h2];exact he⟩
    | panicked c=>exact(hQ _ _ _ he).elim
    | outgrown=>exact he
   case row row args=>exact⟨h.1,RowsIn.mono h.2 λu w'' he=>⟨keep a hy u,by rw[<-Act.put_comm a v u h2];exact he⟩⟩
   case round l f tmps assign body=>
    refine⟨h.1,RoundIn.mono h.2 λe w'' he=>?_⟩
    cases e with
    | returned u=>exact⟨keep a hy u,by rw[<-Act.put_comm a v u h2];exact he⟩
    | panicked c=>exact(hQ _ _ _ he).elim
    | outgrown=>exact he
  | halt x w'=>
   cases x<;>simp only[Oper.uponIn]at h⊢
   case panic u=>exact(hQ _ _ _ h).elim
 ·rename_i hw
  simp only[hw]at h
  exact⟨λ_ _=>trivial,keep a hy _,by rw[<-Act.put_comm a v undef h2];exact h.2⟩

def wpG(ro:Option Nat)(P:Program)(md:Region.Mode)(ops:Array Oper)(Q:Exit->Act->World->Prop)(S:Array Bool->World->Prop):Nat->Array Bool->Act->World->Prop
 | 0,L,a,w=>Region.ready md ops L=[]/\Q .normal a w
 | fuel+1,L,a,w=>
  (Region.ready md ops L=[]->Q .normal a w)/\
  ∀i∈Region.ready md ops L,wpOpIn (fen ro) 0 P ops Q i (λa' w'=>S (L.setIfInBounds i true) w'/\wpG ro P md ops Q S fuel (L.setIfInBounds i true) a' w') a w
theorem mG: ∀(fuel:Nat) (L:Array Bool) (a:Act) (w:World),wpG ro P md ops Q S fuel L a w->wpAnyIn (fen ro) 0 P md ops Q fuel L a w
 | 0,_,_,_,h=>h
 | fuel+1,_,_,_,h=>⟨h.1,λi hi=>wpOpIn_mono (λa' w' h'=>mG fuel _ a' w' h'.2) (h.2 i hi)⟩

theorem nI{i:Nat}{oi:Oper}{v:Value}(hi:ops[i]?=some oi)(hsel: ∀(j:Nat) (o:Oper) cs b,ops[j]?=some o->o.op≠.select cs b)(hdef: ∀(j:Nat) (o:Oper) c,ops[j]?=some o->o.op≠.defer c)
  (hQ: ∀c a w,¬Q (.panic c) a w) (hSi: ∀L w,S (L.setIfInBounds i true) w ↔ S L w):
  ∀(fuel:Nat) (L:Array Bool) (a:Act) (w:World),
   (∀j oj,ops[j]?=some oj->j≠i->L.getD j true=false->(∀e∈oj.after,Region.binds md e=true->e.on≠i)->oi.apart ops oj=true)->
   Closed md ops L->i∈Region.ready md ops L->iQ P md ops S i oi v a->S L w->
   wpG ro P md ops Q S fuel (L.setIfInBounds i true) (a.put oi.dst v) w->wpG ro P md ops Q S (fuel+1) L a w:=by
 intro fuel
 induction fuel with
 | zero=>
  intro L a w _ hc hr hy hS H
  refine⟨λh=>(by rw[h]at hr;cases hr),λj hj=>?_⟩
  by_cases hji:j=i
  ·subst hji;exact hy.wpOp hi hc (mem_ready.1 hr).1 hS ⟨(hSi L w).2 hS,H⟩
  ·have:=ready_mono hj hji
   rw[H.1]at this
   cases this
 | succ fuel ih=>
  intro L a w hfree hc hr hy hS H
  refine⟨λh=>(by rw[h]at hr;cases hr),λj hj=>?_⟩
  by_cases hji:j=i
  ·subst hji;exact hy.wpOp hi hc (mem_ready.1 hr).1 hS ⟨(hSi L w).2 hS,H⟩
  ·have h1:=H.2 j (ready_mono hj hji)
   obtain⟨hjun,oj,hoj,hall⟩:=mem_ready.1 hj
   have hnot: ∀e∈oj.after,Region.binds md e=true->e.on≠i:=λe he hb heq=>by
    have h1:=hall e he hb
    have h0:=(mem_ready.1 hr).1
    rw[heq]at h1
    rcases Nat.lt_or_ge i L.size with h' | h'
    ·simp[h']at h0 h1;rw[h0]at h1;cases h1
    ·simp[Array.getElem?_eq_none h']at h1
   have h2:=qN hoj (hfree j oj hoj hji hjun hnot) (λcs b=>hsel i oi cs b hi) (λcs b=>hsel j oj cs b hoj) (λc=>hdef j oj c hoj) hQ hy h1
   have hfree': ∀k ok,ops[k]?=some ok->k≠i->(L.setIfInBounds j true).getD k true=false->
     (∀e∈ok.after,Region.binds md e=true->e.on≠i)->oi.apart ops ok=true:=λk ok hk hki hun hno=>by
    refine hfree k ok hk hki ?_ hno
    by_cases hjk:j=k
    ·subst hjk;exact hjun
    ·rw[getD_set_ne true hjk]at hun;exact hun
   refine wpOpIn_mono (λa' w' h3=>?_) h2
   have hS':S (L.setIfInBounds j true) w':=by
    have:=h3.2.1
    rw[Array.setIfInBounds_comm _ _ (Ne.symm hji)]at this
    exact(hSi _ _).1 this
   refine⟨hS',ih (L.setIfInBounds j true) a' w' hfree' (hc.set hj) (ready_mono hr (Ne.symm hji)) h3.1 hS' ?_⟩
   rw[Array.setIfInBounds_comm _ _ hji]
   exact h3.2.2
end

def iX(ops:Array Oper):Bool:=ops.toList.all λo=>match o.op with | .defer _=>false | _=>true
theorem jt{ops:Array Oper}(h:iX ops=true)(j:Nat)(o:Oper)(c:Call)(ho:ops[j]?=some o):o.op≠.defer c:=λhc=>by
 have hm:o∈ops.toList:=by
  have:=Array.mem_of_getElem? ho
  simpa using this
 have:=List.all_eq_true.1 h o hm
 simp[hc]at this
abbrev Facts:=List (Nat×Addr×List Value)
def fZ(fs:Facts)(L:Array Bool)(w:World):Prop:= ∀f∈fs,L.getD f.1 false=false->aG w.heap f.2.1 0 f.2.2
def aK(fs:Facts)(L:Array Bool)(H:Array Obj):Prop:=
 match fs with
 | []=>True
 | f::fs=>(bif L.getD f.1 false then True else aG H f.2.1 0 f.2.2)/\aK fs L H
theorem aK.ok{L:Array Bool}{w:World}: ∀{fs:Facts},aK fs L w.heap->fZ fs L w
 | [],_,f,hf,_=>by cases hf
 | g::fs,h,f,hf,hL=>by
  cases hf with
  | head=>have:=h.1;rw[hL]at this;exact this
  | tail _ hm=>exact aK.ok h.2 f hm hL
theorem fZ.at{L:Array Bool}{w:World}: ∀{fs:Facts},fZ fs L w->aK fs L w.heap
 | [],_=>trivial
 | g::fs,h=>⟨by
   cases hL:L.getD g.1 false with
   | true=>trivial
   | false=>exact h g (List.mem_cons_self ..) hL,fZ.at λf hf=>h f (List.mem_cons_of_mem _ hf)⟩
theorem fZ.set{fs:Facts}{i:Nat}(hi:fs.all (λf=>f.1 !=i)=true)(L:Array Bool)(w:World):fZ fs (L.setIfInBounds i true) w ↔ fZ fs L w:=by
 have hne: ∀f∈fs,i≠f.1:=λf hf=>by
  have:=List.all_eq_true.1 hi f hf
  simp at this;exact λh=>this h.symm
 constructor<;>intro h f hf hL<;>refine h f hf ?_
 ·rw[getD_set_ne false (hne f hf)];exact hL
 ·rw[getD_set_ne false (hne f hf)]at hL;exact hL

def RegG(ro:Option Nat)(P:Program)(n:Nat)(ds:List Deferred)(w0:World)(ops:Array Oper)(fs:Facts)(fuel:Nat)(L:Array Bool)(e:Env)(H:Array Obj)(Q:Exit->Act->World->Prop):Prop:=
 ∀a w,Agree n ds e a->w.heap=H->Same w0 w->Closed .any ops L->fZ fs L w->wpG ro P .any ops (QN Q) (fZ fs) fuel L a w

section
variable {P:Program} {n:Nat} {w0:World} {e:Env} {H:Array Obj} {Q:Exit->Act->World->Prop} {c:Code} {ops:Array Oper} {fs:Facts} {fuel:Nat} {L:Array Bool}

theorem qO(id:Nat)(ops:Array Oper)(fs:Facts)(k:Nat)(L:Array Bool)(hc:c=.region id ops true)(hm:P.follows .mixedOrders=true)(_hs:Region.noSelect ops=true)(hk:ops.size=k)(hL:Array.replicate k false=L)(hf:aK fs L H)
  (h:RegG ro P n ds w0 ops fs k L e H Q):At n ds w0 e H (c.wpR ro P Q):=λa w ha hw hs0=>by
 rw[hc]
 refine wpIn_mono (wpIn_region_any hm ?_) QN.imp
 subst hk;subst hL
 refine mG _ _ _ _ (h a _ ha ?_ ?_ (Closed.none _ rfl) ?_)
 ·exact hw
 ·exact⟨hs0.os,hs0.tape,hs0.output,Nat.le_succ_of_le hs0.drawn⟩
 ·exact aK.ok (by show aK fs _ w.heap;rw[hw];exact hf)
theorem yq(id:Nat)(ops:Array Oper)(fs:Facts)(k:Nat)(L:Array Bool)(hf:aK fs L H)(h:RegG ro P n ds w0 ops fs k L e H Q)(hc:c=.region id ops true:=by kernel_rfl)(hm:P.follows .mixedOrders=true:=by kernel_rfl)(hs:Region.noSelect ops=true:=by kernel_rfl)(hk:ops.size=k:=by kernel_rfl)(hL:Array.replicate k false=L:=by kernel_rfl):At n ds w0 e H (c.wpR ro P Q):=qO id ops fs k L hc hm hs hk hL hf h

theorem tu(hr:Region.ready .any ops L=[])(h:At n ds w0 e H (Q .normal)):RegG ro P n ds w0 ops fs fuel L e H Q:=λa w ha hw hs _ _=>by
 cases fuel with
 | zero=>exact⟨hr,h a w ha hw hs⟩
 | succ f=>exact⟨λ_=>h a w ha hw hs,by rw[hr];simp⟩
theorem yz(h:At n ds w0 e H (Q .normal))(hr:Region.ready .any ops L=[]:=by kernel_rfl):RegG ro P n ds w0 ops fs fuel L e H Q:=tu hr h

theorem eI(e':Env)(hs:Sub e' e)(h:RegG ro P n ds w0 ops fs fuel L e' H Q):RegG ro P n ds w0 ops fs fuel L e H Q:=λa w ha=>h a w (ha.sub hs)
theorem tC(e':Env)(he:e=e')(h:RegG ro P n ds w0 ops fs fuel L e' H Q):RegG ro P n ds w0 ops fs fuel L e H Q:=he▸h

theorem iT{i:Nat}{w:World}{d:Option Tmp}{r:Result Next}(h:dY P ops i e w=some (d,r)): ∃o,ops[i]?=some o/\j2 ops e o=some true/\kr e o=true/\o.dst=d/\(execOp (rho e) o).run P w=r:=by
 obtain⟨o,hd,h1,h2,h3,h4⟩:=iw h
 refine⟨o,?_,h1,h2,h3,h4⟩
 have:ops.toList[i]?=some o:=by
  have:=congrArg List.head? hd
  simpa[List.head?_drop]using this
 simpa using this

theorem lF(i:Nat)(d:Option Tmp)(v:Value)(L':Array Bool)(e':Env)(S:Sem Next)(hx: ∀w,dY P ops i e w=some (d,S.run P w))
  (hS: ∀L w,Closed .any ops L->L.getD i true=false->fZ fs L w->S.run P w=.ok (.value v) w)
  (hr:(Region.ready .any ops L).contains i=true) (hsel:Region.noSelect ops=true) (hdef:iX ops=true) (hf:Region.free .any ops L i=true) (hfs:fs.all (λf=>f.1 !=i)=true) (hL:L.setIfInBounds i true=L') (he:gn n e d v e')
  (h:RegG ro P n ds w0 ops fs fuel L' e' H Q):RegG ro P n ds w0 ops fs (fuel+1) L e H Q:=λa w ha hw hs hc hfo=>by
 obtain⟨o,hd,hwant,hok,hdst,_⟩:=iT (hx default)
 subst hL
 have hri:i∈Region.ready .any ops L:=by simpa using hr
 refine nI (oi:=o) (v:=v) hd (Region.noSelect_spec hsel) (jt hdef) (λ_ _ _ h=>h) (fZ.set hfs) fuel L a w (Region.free_spec hd hf) hc hri ?_ hfo ?_
 ·refine⟨λc=>jt hdef i o c hd,.inl ⟨ha.wanted hwant,λL1 w1 hc1 hL1 hS1=>?_⟩⟩
  obtain⟨o',hd',_,_,_,hrun⟩:=iT (hx w1)
  obtain rfl:o=o':=Option.some.inj (hd.symm.trans hd')
  rw[ha.exec hok,hrun]
  exact hS L1 w1 hc1 hL1 hS1
 ·subst hdst
  exact h _ _ (ha.putSub he) hw hs (hc.set hri) ((fZ.set hfs L w).2 hfo)

theorem rE(i:Nat)(d:Option Tmp)(L':Array Bool)(e':Env)(hx:(ops[i]?).bind (λo=>(j2 ops e o).map (λb=>(o.dst,b)))=some (d,false))
  (hr:(Region.ready .any ops L).contains i=true) (hsel:Region.noSelect ops=true) (hdef:iX ops=true) (hf:Region.free .any ops L i=true) (hfs:fs.all (λf=>f.1 !=i)=true) (hL:L.setIfInBounds i true=L') (he:gn n e d undef e')
  (h:RegG ro P n ds w0 ops fs fuel L' e' H Q):RegG ro P n ds w0 ops fs (fuel+1) L e H Q:=λa w ha hw hs hc hfo=>by
 cases ho:ops[i]? with
 | none=>rw[ho]at hx;cases hx
 | some o=>
  simp only[ho,Option.bind_some,Option.map_eq_some_iff,Prod.mk.injEq]at hx
  obtain⟨b,hwant,hdst,rfl⟩:=hx
  subst hL
  have hri:i∈Region.ready .any ops L:=by simpa using hr
  refine nI (oi:=o) (v:=undef) ho (Region.noSelect_spec hsel) (jt hdef) (λ_ _ _ h=>h) (fZ.set hfs) fuel L a w (Region.free_spec ho hf) hc hri ⟨λc=>jt hdef i o c ho,.inr ⟨ha.wanted hwant,rfl⟩⟩ hfo ?_
  subst hdst
  exact h _ _ (ha.putSub he) hw hs (hc.set hri) ((fZ.set hfs L w).2 hfo)

theorem nJ{a:Addr}{vs:List Value}{i:Nat}(k:Nat)(hm:(k,a,vs)∈fs)(hw:kv .any ops 16 k i=true\/Nat.ble ops.size k=true){L:Array Bool}{w:World}(hc:Closed .any ops L)(hL:L.getD i true=false)(hf:fZ fs L w):aG w.heap a 0 vs:=by
 refine hf _ hm ?_
 rcases hw with hw | hw
 ·cases hk:L.getD k false with
  | false=>rfl
  | true=>
   have:=lU hc hw hk
   have h2:L.getD i false=false:=by
    rcases Nat.lt_or_ge i L.size with h | h
    ·simp[h]at hL⊢;exact hL
    ·simp[Array.getElem?_eq_none h]
   rw[h2]at this;cases this
 ·have:L.size<=k:=by rw[hc.1];exact Nat.le_of_ble_eq_true hw
  simp[Array.getElem?_eq_none this]
theorem dI{t:TypeId}{a:Addr}{v:Value}{i:Nat}(k:Nat)(hg: ∀w,(isAgg t).run P w=.ok false w)(hm:(k,a,[v])∈fs)(hw:kv .any ops 16 k i=true\/Nat.ble ops.size k=true):
  ∀L w,Closed .any ops L->L.getD i true=false->fZ fs L w->(aT t (.pointer (some a))).run P w=.ok (.value v) w:=λ_ w hc hL hf=>
 hG (H:=w.heap) (jf hg (nJ k hm hw hc hL hf).1) w rfl
theorem yY{t:TypeId}{a:Addr}{v:Value}{i:Nat}(k:Nat)(hm:(k,a,[v])∈fs)(hg: ∀w,(isAgg t).run P w=.ok false w:=by intro _;kernel_rfl)(hw:kv .any ops 16 k i=true:=by kernel_rfl):∀L w,Closed .any ops L->L.getD i true=false->fZ fs L w->(aT t (.pointer (some a))).run P w=.ok (.value v) w:=dI k hg hm (.inl hw)
theorem iY{t:TypeId}{a:Addr}{vs:List Value}{i:Nat}(k:Nat)(hg: ∀w,(isAgg t).run P w=.ok true w)(hn: ∀w,(sizeOf t).run P w=.ok vs.length w)(hm:(k,a,vs)∈fs)(hw:kv .any ops 16 k i=true\/Nat.ble ops.size k=true):
  ∀L w,Closed .any ops L->L.getD i true=false->fZ fs L w->(aT t (.pointer (some a))).run P w=.ok (.value (.agg vs.toArray)) w:=λ_ w hc hL hf=>
 hG (H:=w.heap) (aQ hg hn (nJ k hm hw hc hL hf)) w rfl

theorem pS(i:Nat)(d:Option Tmp)(L':Array Bool)(S:Sem Next)(R:Value->Array Obj->Prop)(hr:Region.ready .any ops L=[i])(hx: ∀w,dY P ops i e w=some (d,S.run P w))(hS:SS P S H R)(hL:L.setIfInBounds i true=L')
  (h: ∀v H',R v H'-> ∃e',gn n e d v e'/\aK fs L' H'/\RegG ro P n ds w0 ops fs fuel L' e' H' Q):RegG ro P n ds w0 ops fs (fuel+1) L e H Q:=λa w ha hw hs hc _=>by
 obtain⟨o,ho,hwant,hok,hdst,hrun⟩:=iT (hx w)
 refine⟨λh0=>(by rw[hr]at h0;cases h0),λj hj=>?_⟩
 have hri:i∈Region.ready .any ops L:=by rw[hr];simp
 rw[hr]at hj
 obtain rfl:j=i:=by simpa using hj
 unfold wpOpIn
 simp only[ho]
 rw[ha.wanted hwant]
 simp only[if_true]
 refine⟨λ_ _=>trivial,?_⟩
 rw[ha.sem hok,hrun]
 obtain⟨v,w',hv,hsame,hR⟩:=hS w hw
 rw[hv]
 obtain⟨e',he',hfa,hk⟩:=h v _ hR
 subst hL;subst hdst
 simp only[Oper.uponIn]
 exact⟨aK.ok hfa,hk _ _ (ha.putSub he') rfl (hs.trans hsame) (hc.set hri) (aK.ok hfa)⟩

theorem iS(i:Nat)(d:Option Tmp)(L':Array Bool)(S:Sem Next)(R:Array Obj->Prop)(hr:Region.ready .any ops L=[i])(hx: ∀w,dY P ops i e w=some (d,S.run P w))
  (hS: ∀w,w.heap=H-> ∃w',S.run P w=.ok .skip w'/\Same w w'/\R w'.heap) (hL:L.setIfInBounds i true=L')
  (h: ∀H',R H'-> ∃e',gn n e d undef e'/\aK fs L' H'/\RegG ro P n ds w0 ops fs fuel L' e' H' Q):RegG ro P n ds w0 ops fs (fuel+1) L e H Q:=λa w ha hw hs hc _=>by
 obtain⟨o,ho,hwant,hok,hdst,hrun⟩:=iT (hx w)
 refine⟨λh0=>(by rw[hr]at h0;cases h0),λj hj=>?_⟩
 have hri:i∈Region.ready .any ops L:=by rw[hr];simp
 rw[hr]at hj
 obtain rfl:j=i:=by simpa using hj
 unfold wpOpIn
 simp only[ho]
 rw[ha.wanted hwant]
 simp only[if_true]
 refine⟨λ_ _=>trivial,?_⟩
 rw[ha.sem hok,hrun]
 obtain⟨w',hv,hsame,hR⟩:=hS w hw
 rw[hv]
 obtain⟨e',he',hfa,hk⟩:=h _ hR
 subst hL;subst hdst
 simp only[Oper.uponIn]
 exact⟨aK.ok hfa,hk _ _ (ha.putSub he') rfl (hs.trans hsame) (hc.set hri) (aK.ok hfa)⟩

theorem sV(i:Nat)(d:Option Tmp)(L':Array Bool)(f:FuncId)(args:Array Value)(hr:Region.ready .any ops L=[i])(hx: ∀w,dY P ops i e w=some (d,.ok (.enter f args) w)){R:Value->Array Obj->Prop}(hcall:HC P f args H R)(hL:L.setIfInBounds i true=L')
  (h: ∀v H',R v H'-> ∃e',gn n e d v e'/\aK fs L' H'/\RegG ro P n ds w0 ops fs fuel L' e' H' Q):RegG ro P n ds w0 ops fs (fuel+1) L e H Q:=λa w ha hw hs hc _=>by
 obtain⟨o,ho,hwant,hok,hdst,hrun⟩:=iT (hx w)
 refine⟨λh0=>(by rw[hr]at h0;cases h0),λj hj=>?_⟩
 have hri:i∈Region.ready .any ops L:=by rw[hr];simp
 rw[hr]at hj
 obtain rfl:j=i:=by simpa using hj
 unfold wpOpIn
 simp only[ho]
 rw[ha.wanted hwant]
 simp only[if_true]
 refine⟨λ_ _=>trivial,?_⟩
 rw[ha.sem hok,hrun]
 simp only[Oper.uponIn]
 refine⟨λhh=>(by cases hh),CallsIn.mono (show CallsIn (fen ro) _ P f args w _ from callsIn_wide.2 (hcall w hw)) λen w' ⟨v,hen,hsame,hR⟩=>?_⟩
 subst hen
 obtain⟨e',he',hfa,hk⟩:=h v _ hR
 subst hL;subst hdst
 simp only[]
 exact⟨aK.ok hfa,hk _ _ (ha.putSub he') rfl (hs.trans hsame) (hc.set hri) (aK.ok hfa)⟩
theorem yx(i:Nat)(d:Option Tmp)(L':Array Bool)(f:FuncId)(args:Array Value){R:Value->Array Obj->Prop}(hcall:HC P f args H R)(h: ∀v H',R v H'-> ∃e',gn n e d v e'/\aK fs L' H'/\RegG ro P n ds w0 ops fs fuel L' e' H' Q)(hr:Region.ready .any ops L=[i]:=by kernel_rfl)(hx: ∀w,dY P ops i e w=some (d,.ok (.enter f args) w):=by intro _;kernel_rfl)(hL:L.setIfInBounds i true=L':=by kernel_rfl):RegG ro P n ds w0 ops fs (fuel+1) L e H Q:=sV i d L' f args hr hx hcall hL h

theorem oG(i:Nat)(d:Option Tmp)(L':Array Bool)(f:Nat->Value)(o:Obj)(hr:Region.ready .any ops L=[i])(hx: ∀w,dY P ops i e w=some (d,.ok (.value (f w.heap.size)) {w with heap:=w.heap.push o}))(hL:L.setIfInBounds i true=L')
  (h: ∀b H',b=H.size->H'=H.push o-> ∃e',gn n e d (f b) e'/\aK fs L' H'/\RegG ro P n ds w0 ops fs fuel L' e' H' Q):RegG ro P n ds w0 ops fs (fuel+1) L e H Q:=λa w ha hw hs hc _=>by
 obtain⟨op,ho,hwant,hok,hdst,hrun⟩:=iT (hx w)
 refine⟨λh0=>(by rw[hr]at h0;cases h0),λj hj=>?_⟩
 have hri:i∈Region.ready .any ops L:=by rw[hr];simp
 rw[hr]at hj
 obtain rfl:j=i:=by simpa using hj
 unfold wpOpIn
 simp only[ho]
 rw[ha.wanted hwant]
 simp only[if_true]
 refine⟨λ_ _=>trivial,?_⟩
 rw[ha.sem hok,hrun]
 obtain⟨e',he',hfa,hk⟩:=h w.heap.size (w.heap.push o) (by rw[hw]) (by rw[hw])
 subst hL;subst hdst
 simp only[Oper.uponIn]
 exact⟨aK.ok hfa,hk _ _ (ha.putSub he') rfl (hs.trans ⟨rfl,rfl,rfl,by simp⟩) (hc.set hri) (aK.ok hfa)⟩

def qD(ro:Option Nat)(P:Program)(n:Nat)(ds:List Deferred)(w0:World)(ops:Array Oper)(fs:Facts)(fuel:Nat)(L:Array Bool)(e:Env)(H:Array Obj)(Q:Exit->Act->World->Prop)(i:Nat):Prop:=
 ∀a w,Agree n ds e a->w.heap=H->Same w0 w->Closed .any ops L->wpOpIn (fen ro) 0 P ops (QN Q) i (λa' w'=>fZ fs (L.setIfInBounds i true) w'/\wpG ro P .any ops (QN Q) (fZ fs) fuel (L.setIfInBounds i true) a' w') a w
theorem sW(i j:Nat)(hr:Region.ready .any ops L=[i,j])(h1:qD ro P n ds w0 ops fs fuel L e H Q i)(h2:qD ro P n ds w0 ops fs fuel L e H Q j):RegG ro P n ds w0 ops fs (fuel+1) L e H Q:=λa w ha hw hs hc _=>by
 refine⟨λh0=>(by rw[hr]at h0;cases h0),λk hk=>?_⟩
 rw[hr]at hk
 rcases List.mem_cons.1 hk with rfl | hk
 ·exact h1 a w ha hw hs hc
 ·obtain rfl:k=j:=by simpa using hk
  exact h2 a w ha hw hs hc
theorem sX(i:Nat)(d:Option Tmp)(L':Array Bool)(f:FuncId)(args:Array Value)(hr:List.elem i (Region.ready .any ops L)=true)(hx: ∀w,dY P ops i e w=some (d,.ok (.enter f args) w)){R:Value->Array Obj->Prop}(hcall:HC P f args H R)(hL:L.setIfInBounds i true=L')
  (h: ∀v H',R v H'-> ∃e',gn n e d v e'/\aK fs L' H'/\RegG ro P n ds w0 ops fs fuel L' e' H' Q):qD ro P n ds w0 ops fs fuel L e H Q i:=λa w ha hw hs hc=>by
 obtain⟨o,ho,hwant,hok,hdst,hrun⟩:=iT (hx w)
 have hri:i∈Region.ready .any ops L:=List.elem_iff.1 hr
 unfold wpOpIn
 simp only[ho]
 rw[ha.wanted hwant]
 simp only[if_true]
 refine⟨λ_ _=>trivial,?_⟩
 rw[ha.sem hok,hrun]
 simp only[Oper.uponIn]
 refine⟨λhh=>(by cases hh),CallsIn.mono (show CallsIn (fen ro) _ P f args w _ from callsIn_wide.2 (hcall w hw)) λen w' ⟨v,hen,hsame,hR⟩=>?_⟩
 subst hen
 obtain⟨e',he',hfa,hk⟩:=h v _ hR
 subst hL;subst hdst
 simp only[]
 exact⟨aK.ok hfa,hk _ _ (ha.putSub he') rfl (hs.trans hsame) (hc.set hri) (aK.ok hfa)⟩
theorem tv(i:Nat)(d:Option Tmp)(L':Array Bool)(f:Nat->Value)(o:Obj)(hr:List.elem i (Region.ready .any ops L)=true)(hx: ∀w,dY P ops i e w=some (d,.ok (.value (f w.heap.size)) {w with heap:=w.heap.push o}))(hL:L.setIfInBounds i true=L')
  (h: ∀b H',b=H.size->H'=H.push o-> ∃e',gn n e d (f b) e'/\aK fs L' H'/\RegG ro P n ds w0 ops fs fuel L' e' H' Q):qD ro P n ds w0 ops fs fuel L e H Q i:=λa w ha hw hs hc=>by
 obtain⟨op,ho,hwant,hok,hdst,hrun⟩:=iT (hx w)
 have hri:i∈Region.ready .any ops L:=List.elem_iff.1 hr
 unfold wpOpIn
 simp only[ho]
 rw[ha.wanted hwant]
 simp only[if_true]
 refine⟨λ_ _=>trivial,?_⟩
 rw[ha.sem hok,hrun]
 obtain⟨e',he',hfa,hk⟩:=h w.heap.size (w.heap.push o) (by rw[hw]) (by rw[hw])
 subst hL;subst hdst
 simp only[Oper.uponIn]
 exact⟨aK.ok hfa,hk _ _ (ha.putSub he') rfl (hs.trans ⟨rfl,rfl,rfl,by simp⟩) (hc.set hri) (aK.ok hfa)⟩
end

def cY(H:Array Obj)(b:Option Addr)(xs:List Value):Prop:=
 match b with
 | none=>xs=[]
 | some a=>aG H a 0 xs
@[simp] theorem SrcAt_none {H:Array Obj} {xs:List Value}:cY H none xs=(xs=[]):=rfl
@[simp] theorem SrcAt_some {H:Array Obj} {a:Addr} {xs:List Value}:cY H (some a) xs=aG H a 0 xs:=rfl

theorem jH{P:Program}{w:World}{sz n c:Nat}{b:Option Addr}{xs:List Value}(h:cY w.heap b xs)(hl:b≠none->xs.length=n*sz):(Builtin.firstCells sz n (.slice b n c)).run P w=.ok xs.toArray w:=by
 cases b with
 | none=>simp only[SrcAt_none]at h;subst h;rfl
 | some a=>
  have hl:=hl (by simp)
  show Sem.run P (loadCells a (n*sz)) w=_
  rw[<-hl]
  unfold loadCells
  rw[iN (P:=P) xs 0 #[] h]
  simp

theorem kM: ∀(xs ys:List Value),gF (xs++ys)=(gF xs && gF ys)
 | [],ys=>by simp[gF]
 | x::xs,ys=>by simp[gF,kM xs ys,Bool.and_assoc]

def cS(ats:Array TypeId)(ty:TypeId)(args:Array Value):Sem Next:=do pure (.value (<-Builtin.append_ ats ty args))

def bW(sz T bytes:Nat)(zero:List Value)(base:Option Addr)(n c:Nat)(xb:Option Addr)(m:Nat)(H:Array Obj)(K:Option Addr->Nat->Array Obj->Prop):Prop:=
 ∃xs:List Value,cY H xb xs/\(xb≠none->xs.length=m*sz)/\gF xs=true/\
  (n+m<=c->gk base (K none c H) (λa=>aJ H (a.add (n*sz)) 0 xs.length/\K (some a) c (aP H (a.add (n*sz)) xs 0)))/\
  (c<n+m-> ∃ys:List Value,cY H base ys/\(base≠none->ys.length=n*sz)/\Builtin.nextslicecap (n+m) c*bytes<=2 ^ 48/\
   ∀(c' b:Nat) (H':Array Obj),n+m<=c'->b=H.size->H'=H.push (.cells ((ys++xs).toArray++Builtin.zeroCells zero.toArray (c'-(n+m))) T)->K (some ⟨b,0,none⟩) c' H')

theorem bP{P:Program}{H:Array Obj}{ty sT xT T sz bytes:Nat}{zero:Value}{info:TypeInfo}{K:Option Addr->Nat->Array Obj->Prop}{base xb:Option Addr}{n c m xc:Nat}{d:TypeDesc}
  (hu:P.underlying sT=some (.slice T)) (hux:P.underlying xT=some d) (hd:(match d with | .int _=>true | _=>false)=false)
  (hi:P.info? T=some info) (hsz:info.size=sz) (hb:info.bytes=bytes) (hb0:bytes≠0) (hz:info.zero=some zero)
  (h:bW sz T bytes zero.cells.toList base n c xb m H K):
  SS P (cS #[sT,xT] ty #[.slice base n c,.slice xb m xc]) H (λv H'=> ∃b' c',v=.slice b' (n+m) c'/\K b' c' H'):=λw hw=>by
 obtain⟨xs,hx,hxl,hone,hfit,hgrow⟩:=h
 have hint: ∀k,d≠.int k:=λk hk=>by subst hk;simp at hd
 have hzb:(Sem.run P (do let r<-underlying xT;pure (match r with | .int _=>true | _=>false):Sem Bool) w)=.ok false w:=by
  rw[run_bind_ok (x:=d) (w':=w) (by simp[underlying,program,Sem.run,hux,Sem.run_bind,pure,Result.andThen])]
  cases d<;>first | rfl | exact absurd rfl (hint _)
 have hsize: ∀w,(sizeOf T).run P w=.ok sz w:=λw=>by simp[sizeOf,typeInfo,program,Sem.run,Sem.run_bind,hi,hsz,pure,Result.andThen]
 have hti: ∀w,(typeInfo T).run P w=.ok info w:=λw=>by simp[typeInfo,program,Sem.run,Sem.run_bind,hi,pure,Result.andThen]
 have hzv: ∀w,(zeroValue T).run P w=.ok zero w:=λw=>by simp[zeroValue,typeInfo,program,Sem.run,Sem.run_bind,hi,hz,pure,Result.andThen]
 have hus: ∀w,(underlying sT).run P w=.ok (.slice T) w:=λw=>by simp[underlying,program,Sem.run,hu,Sem.run_bind,pure,Result.andThen]
 have hux': ∀w,(underlying xT).run P w=.ok d w:=λw=>by simp[underlying,program,Sem.run,hux,Sem.run_bind,pure,Result.andThen]
 have hfc:(Builtin.firstCells sz m (.slice xb m xc)).run P w=.ok xs.toArray w:=jH (by rw[hw];exact hx) hxl
 by_cases hle:n+m<=c
 ·have hk:=hfit hle
  cases base with
  | none=>
   refine⟨_,w,?_,Same.refl w,none,c,rfl,by rw[hw];exact hk⟩
   unfold cS
   rw[run_bind_ok (x:=Value.slice none (n+m) c) (w':=w)]
   ·rfl
   ·unfold Builtin.append_
    simp only[List.getElem?_toArray,List.getElem?_cons_zero,List.getElem?_cons_succ]
    rw[run_bind_ok (hus w)]
    simp only[]
    rw[run_bind_ok (hsize w)]
    simp only[pure_bind]
    rw[run_bind_ok (hux' w)]
    cases d<;>first | exact absurd rfl (hint _) | (simp only[Bool.false_eq_true,if_false,Builtin.lenOf,pure_bind,Bool.not_false,if_true,hle];rw[run_bind_ok hfc];rfl)
  | some a=>
   simp only[onPtr_some]at hk
   obtain⟨w',hst,hs,hh⟩:=iV (P:=P) (a:=a.add (n*sz)) xs 0 w hone (by rw[hw];exact hk.1)
   refine⟨_,w',?_,hs,some a,c,rfl,by rw[hh,hw];exact hk.2⟩
   unfold cS
   rw[run_bind_ok (x:=Value.slice (some a) (n+m) c) (w':=w')]
   ·rfl
   ·unfold Builtin.append_
    simp only[List.getElem?_toArray,List.getElem?_cons_zero,List.getElem?_cons_succ]
    rw[run_bind_ok (hus w)]
    simp only[]
    rw[run_bind_ok (hsize w)]
    simp only[pure_bind]
    rw[run_bind_ok (hux' w)]
    cases d<;>first | exact absurd rfl (hint _) | (simp only[Bool.false_eq_true,if_false,Builtin.lenOf,pure_bind,Bool.not_false,if_true,hle];rw[run_bind_ok hfc];simp only[];rw[run_bind_ok hst];rfl)
 ·have hlt:c<n+m:=by omega
  obtain⟨ys,hy,hyl,hcap,hk⟩:=hgrow hlt
  have hfy: ∀w1:World,w1.heap=w.heap->(Builtin.firstCells sz n (.slice base n c)).run P w1=.ok ys.toArray w1:=λw1 h1=>jH (by rw[h1,hw];exact hy) hyl
  have hfx: ∀w1:World,w1.heap=w.heap->(Builtin.firstCells sz m (.slice xb m xc)).run P w1=.ok xs.toArray w1:=λw1 h1=>jH (by rw[h1,hw];exact hx) hxl
  let q:Question:=.appendCap (n+m) c T
  let nc:Nat:=q.cut (w.tape w.drawn q)
  have hnc:n+m<=nc:=Nat.le_add_right _ _
  let w1:World:={w with drawn:=w.drawn+1}
  let o:Obj:=.cells ((ys++xs).toArray++Builtin.zeroCells zero.cells (nc-(n+m))) T
  let w2:World:={w1 with heap:=w1.heap.push o}
  refine⟨.slice (some ⟨w.heap.size,0,none⟩) (n+m) nc,w2,?_,⟨rfl,rfl,rfl,Nat.le_succ _⟩,_,nc,rfl,?_⟩
  ·have hch:(choose q:Sem Nat).run P w=.ok nc w1:=by
    show Sem.run P (Sem.choose q Sem.pure) w=_
    simp only[Sem.run,q,Question.forced,Bool.false_eq_true,if_false]
    rfl
   have hroom: ∀k,(askRoom k:Sem Unit).run P w1=.ok () w1:=λk=>by
    unfold askRoom
    split<;>rfl
   unfold cS
   rw[run_bind_ok (x:=Value.slice (some ⟨w.heap.size,0,none⟩) (n+m) nc) (w':=w2)]
   ·rfl
   ·unfold Builtin.append_
    simp only[List.getElem?_toArray,List.getElem?_cons_zero,List.getElem?_cons_succ]
    rw[run_bind_ok (hus w)]
    simp only[]
    rw[run_bind_ok (hsize w)]
    simp only[pure_bind]
    rw[run_bind_ok (hux' w)]
    have hcap': ¬(Builtin.nextslicecap (n+m) c*bytes>2 ^ 48):=by omega
    cases d<;>first | exact absurd rfl (hint _) | (
     simp only[Bool.false_eq_true,if_false,Builtin.lenOf,pure_bind,Bool.not_false,if_true,hle,false_or]
     rw[run_bind_ok (hti w)]
     simp only[hb,hb0,and_false,if_false]
     rw[run_bind_ok (hti w)]
     simp only[hb,hcap',if_false]
     rw[run_bind_ok hch]
     rw[run_bind_ok (hti w1)]
     rw[run_bind_ok (hroom _)]
     rw[run_bind_ok (hfy w1 rfl)]
     rw[run_bind_ok (hfx w1 rfl)]
     rw[run_bind_ok (hzv w1),show ys.toArray++xs.toArray=(ys++xs).toArray by simp]
     rfl)
  ·show K (some ⟨w.heap.size,0,none⟩) nc w2.heap
   exact hk nc w.heap.size w2.heap hnc (by rw[hw]) (by show w.heap.push o=_;rw[hw])

def oH(ats:Array TypeId)(ty:TypeId)(args:Array Value):Sem Next:=do pure (.value (<-Builtin.copy_ ats ty args))
def qE(sz:Nat)(base:Option Addr)(n:Nat)(xb:Option Addr)(m:Nat)(H:Array Obj)(K:Nat->Array Obj->Prop):Prop:=
 ∃xs:List Value,cY H xb xs/\(xb≠none->xs.length=Nat.min m n*sz)/\gF xs=true/\
  gk base (K (Nat.min m n) H) (λa=>aJ H a 0 xs.length/\K (Nat.min m n) (aP H a xs 0))
theorem qF{P:Program}{H:Array Obj}{ty dT sT T sz:Nat}{K:Nat->Array Obj->Prop}{base xb:Option Addr}{n c m xc:Nat}
  (hu:P.underlying dT=some (.slice T)) (hsize: ∀w,(sizeOf T).run P w=.ok sz w) (h:qE sz base n xb m H K):
  SS P (oH #[dT,sT] ty #[.slice base n c,.slice xb m xc]) H (λv H'=> ∃k:Nat,v=.int .i64 k/\K k H'):=λw hw=>by
 obtain⟨xs,hx,hxl,hone,hk⟩:=h
 have hus: ∀w,(underlying dT).run P w=.ok (.slice T) w:=λw=>by simp[underlying,program,Sem.run,hu,Sem.run_bind,pure,Result.andThen]
 have hfc:(Builtin.firstCells sz (Nat.min m n) (.slice xb m xc)).run P w=.ok xs.toArray w:=by
  cases xb with
  | none=>simp only[SrcAt_none]at hx;subst hx;rfl
  | some a=>
   have hl:=hxl (by simp)
   show Sem.run P (loadCells a (Nat.min m n*sz)) w=_
   rw[<-hl]
   unfold loadCells
   rw[iN (P:=P) xs 0 #[] (by rw[hw];exact hx)]
   simp
 cases base with
 | none=>
  refine⟨_,w,?_,Same.refl w,Nat.min m n,rfl,by rw[hw];exact hk⟩
  unfold oH
  rw[run_bind_ok (x:=Value.int .i64 (Nat.min m n:Nat)) (w':=w)]
  ·rfl
  ·unfold Builtin.copy_
   simp only[List.getElem?_toArray,List.getElem?_cons_zero,List.getElem?_cons_succ]
   rw[run_bind_ok (hus w)]
   simp only[Builtin.lenOf,pure_bind]
   rw[run_bind_ok (hsize w),run_bind_ok hfc]
   rfl
 | some a=>
  simp only[onPtr_some]at hk
  obtain⟨w',hst,hs,hh⟩:=iV (P:=P) (a:=a) xs 0 w hone (by rw[hw];exact hk.1)
  refine⟨_,w',?_,hs,Nat.min m n,rfl,by rw[hh,hw];exact hk.2⟩
  unfold oH
  rw[run_bind_ok (x:=Value.int .i64 (Nat.min m n:Nat)) (w':=w')]
  ·rfl
  ·unfold Builtin.copy_
   simp only[List.getElem?_toArray,List.getElem?_cons_zero,List.getElem?_cons_succ]
   rw[run_bind_ok (hus w)]
   simp only[Builtin.lenOf,pure_bind]
   rw[run_bind_ok (hsize w),run_bind_ok hfc]
   simp only[]
   rw[run_bind_ok hst]
   rfl

def jI(t:TypeId)(l c:Value):Sem Next:=do pure (.value (<-Instr.makeSlice t l c))
theorem oa{P:Program}{H:Array Obj}{t T:TypeId}{info:TypeInfo}{zero:Value}{l c:Int}(hu:P.underlying t=some (.slice T))(hi:P.info? T=some info)(hz:info.zero=some zero)
  (h0:0<=l) (h1:l<=c) (h2:info.bytes*c<=2 ^ 48) (h3:c<=9223372036854775807) (hs:info.size=zero.cells.size) (_hp:info.size≠0):
  SS P (jI t (.int .i64 l) (.int .i64 c)) H (λv H'=>v=.slice (some ⟨H.size,0,none⟩) l.toNat c.toNat/\H'=H.push (.cells (Builtin.zeroCells zero.cells c.toNat) T)):=λw hw=>by
 have hti: ∀w,(typeInfo T).run P w=.ok info w:=λw=>by simp[typeInfo,program,Sem.run,Sem.run_bind,hi,pure,Result.andThen]
 have hzv: ∀w,(zeroValue T).run P w=.ok zero w:=λw=>by simp[zeroValue,typeInfo,program,Sem.run,Sem.run_bind,hi,hz,pure,Result.andThen]
 have hus: ∀w,(underlying t).run P w=.ok (.slice T) w:=λw=>by simp[underlying,program,Sem.run,hu,Sem.run_bind,pure,Result.andThen]
 have hsize: ∀w,(sizeOf T).run P w=.ok info.size w:=λw=>by simp[sizeOf,typeInfo,program,Sem.run,Sem.run_bind,hi,pure,Result.andThen]
 have hroom: ∀k,(askRoom k:Sem Unit).run P w=.ok () w:=λk=>by
  unfold askRoom
  split<;>rfl
 have wl:IntKind.wrap .i64 l=l:=Go.IntWalk.i64_in l (by omega)
 have wc:IntKind.wrap .i64 c=c:=Go.IntWalk.i64_in c (by omega)
 refine⟨_,{w with heap:=w.heap.push (.cells (Builtin.zeroCells zero.cells c.toNat) T)},?_,⟨rfl,rfl,rfl,Nat.le_refl _⟩,rfl,by rw[hw]⟩
 unfold jI
 rw[run_bind_ok (x:=Value.slice (some ⟨H.size,0,none⟩) l.toNat c.toNat) (w':={w with heap:=w.heap.push (.cells (Builtin.zeroCells zero.cells c.toNat) T)})]
 ·rfl
 ·unfold Instr.makeSlice
  rw[run_bind_ok (hus w)]
  simp only[asInt,asIntOf,pure_bind]
  rw[run_bind_ok (hti w)]
  simp only[wl,wc]
  have e1: ¬(c<0):=by omega
  have e2: ¬((info.bytes:Int)*c>2 ^ 48):=by omega
  have e3: ¬(l<0):=by omega
  have e4: ¬(l>c):=by omega
  simp only[e1,e2,e3,e4,decide_false,Bool.or_false,Bool.false_or,Bool.false_eq_true,if_false]
  rw[run_bind_ok (hroom _),run_bind_ok (hsize w)]
  by_cases hc0:c.toNat*info.size=0
  ·have e0:Builtin.zeroCells zero.cells c.toNat= #[]:=by unfold Builtin.zeroCells;rw[<-hs,hc0];simp
   simp only[hc0,if_true]
   rw[e0,<-hw]
   have e5: ∀f:Nat->Value,Array.map f (Array.range 0)= #[]:=λf=>by simp
   rw[e5]
   rfl
  ·simp only[hc0,if_false]
   rw[run_bind_ok (hzv w),<-hw]
   unfold Builtin.zeroCells
   rw[<-hs]
   rfl

structure Ext (H H':Array Obj):Prop where
 size:H.size<=H'.size
 old: ∀i,i<H.size->H'[i]?=H[i]?
theorem Ext.refl(H:Array Obj):Ext H H:=⟨Nat.le_refl _,λ_ _=>rfl⟩
theorem Ext.trans{a b c:Array Obj}(h:Ext a b)(k:Ext b c):Ext a c:=
 ⟨Nat.le_trans h.size k.size,λi hi=>(k.old i (Nat.lt_of_lt_of_le hi h.size)).trans (h.old i hi)⟩
theorem Ext.push(H:Array Obj)(o:Obj):Ext H (H.push o):=
 ⟨by simp,λi hi=>by rw[Array.getElem?_push,if_neg (by omega)]⟩
theorem Ext.push'{H H':Array Obj}{o:Obj}(h:H'=H.push o):Ext H H':=h▸Ext.push H o
theorem Ext.get{H H':Array Obj}(h:Ext H H'){b:Nat}{o:Obj}(hb:H[b]?=some o):H'[b]?=some o:=by
 have:b<H.size:=by
  rcases Nat.lt_or_ge b H.size with h | h
  ·exact h
  ·simp[Array.getElem?_eq_none h]at hb
 rw[h.old b this];exact hb
theorem Ext.hat{H H':Array Obj}(h:Ext H H'){a:Addr}{v:Value}(hb:hat H a=some v):hat H' a=some v:=by
 unfold Go.Proofs.YtihdffpekpnglaaGreat.hat at*
 cases hx:H[a.block]? with
 | none=>simp[hx]at hb
 | some o=>rw[h.get hx];rw[hx]at hb;exact hb

theorem aO{H H':Array Obj}{b:Nat}{o:Obj}(hb:b=H.size)(hH:H'=H.push o):H'[b]?=some o:=by
 subst hb;subst hH;simp
theorem bI{H:Array Obj}{b:Nat}{o:Obj}(h:H[b]?=some o):b<H.size:=by
 rcases Nat.lt_or_ge b H.size with h' | h'
 ·exact h'
 ·simp[Array.getElem?_eq_none h']at h

theorem aU{H:Array Obj}{b o:Nat}{cs:Array Value}{T:TypeId}{fz:Nat×Nat}(h:H[b]?=some (.cells cs T fz)):hat H ⟨b,o,none⟩=cs[o]?:=by
 unfold hat;simp[h]
theorem pT{H:Array Obj}{b o:Nat}{cs:Array Value}{T:TypeId}(h:H[b]?=some (.cells cs T (0,0)))(ho:o<cs.size):lE H ⟨b,o,none⟩:=by
 refine⟨by rw[aU h];simp[ho],?_⟩
 unfold hfz;simp[h]
theorem eJ{H:Array Obj}{b:Nat}{cs:Array Value}{T:TypeId}(h:H[b]?=some (.cells cs T (0,0))): ∀(n o i:Nat),o+i+n<=cs.size->aJ H ⟨b,o,none⟩ i n
 | 0,_,_,_=>trivial
 | n+1,o,i,hn=>⟨by rw[addr_add_mk];exact pT h (by omega),eJ h n o (i+1) (by omega)⟩

def iu(H:Array Obj)(b:Nat)(o:Obj):Array Obj:=H.setIfInBounds b o
theorem dU{H:Array Obj}{b:Nat}{o:Obj}(hb:b<H.size):(iu H b o)[b]?=some o:=by
 unfold iu;simp[hb]
theorem iD{H:Array Obj}{b b':Nat}{o:Obj}(hb:b≠b'):(iu H b o)[b']?=H[b']?:=by
 unfold iu;rw[Array.getElem?_setIfInBounds_ne hb]
@[simp] theorem setBlk_size {H:Array Obj} {b:Nat} {o:Obj}:(iu H b o).size=H.size:=by unfold iu;simp
theorem oI{H:Array Obj}{b:Nat}{o:Obj}(h:H[b]?=some o):iu H b o=H:=by
 refine Array.ext_getElem? λi=>?_
 by_cases hi:b=i
 ·subst hi;rw[dU (bI h),h]
 ·rw[iD hi]
theorem li{H:Array Obj}{b:Nat}{o o':Obj}:iu (iu H b o) b o'=iu H b o':=by
 unfold iu;simp

def splice(cs:Array Value)(o:Nat):List Value->Array Value
 | []=>cs
 | v::vs=>splice (cs.setIfInBounds o v) (o+1) vs
@[simp] theorem splice_size (cs:Array Value): ∀(vs:List Value) (o:Nat),(splice cs o vs).size=cs.size
 | [],_=>rfl
 | v::vs,o=>by simp only[splice];rw[splice_size _ vs (o+1)];simp
theorem eD(cs:Array Value): ∀(vs:List Value) (o i:Nat),i<o->(splice cs o vs)[i]?=cs[i]?
 | [],_,_,_=>rfl
 | v::vs,o,i,h=>by simp only[splice];rw[eD _ vs (o+1) i (by omega),Array.getElem?_setIfInBounds_ne (by omega)]
theorem hU(cs:Array Value): ∀(vs:List Value) (o i:Nat),o+vs.length<=i->(splice cs o vs)[i]?=cs[i]?
 | [],_,_,_=>rfl
 | v::vs,o,i,h=>by
  simp only[List.length_cons]at h
  simp only[splice];rw[hU _ vs (o+1) i (by omega),Array.getElem?_setIfInBounds_ne (by omega)]
theorem fT(cs:Array Value): ∀(vs:List Value) (o j:Nat),o+vs.length<=cs.size->j<vs.length->(splice cs o vs)[o+j]?=vs[j]?
 | [],_,_,_,h=>by simp at h
 | v::vs,o,0,h,_=>by
  simp only[List.length_cons]at h
  simp only[splice,Nat.add_zero,List.getElem?_cons_zero]
  rw[eD _ vs (o+1) o (by omega)]
  have ho:o<cs.size:=by omega
  simp[ho]
 | v::vs,o,j+1,h,hj=>by
  simp only[List.length_cons]at h hj
  simp only[splice,List.getElem?_cons_succ]
  have:=fT (cs.setIfInBounds o v) vs (o+1) j (by simp;omega) (by omega)
  rw[show o+(j+1)=o+1+j by omega];exact this

theorem rF{H:Array Obj}{b o:Nat}{cs:Array Value}{T:TypeId}{fz:Nat×Nat}(h:H[b]?=some (.cells cs T fz))(v:Value):hput H ⟨b,o,none⟩ v=iu H b (.cells (cs.setIfInBounds o v) T fz):=by
 refine Array.ext_getElem? λi=>?_
 unfold hput
 rw[Array.getElem?_modify]
 by_cases hi:b=i
 ·subst hi;rw[if_pos rfl,h,dU (bI h)];rfl
 ·rw[if_neg hi,iD hi]
theorem gj{b:Nat}{T:TypeId}{fz:Nat×Nat}: ∀(vs:List Value) (H:Array Obj) (cs:Array Value) (o i:Nat),H[b]?=some (.cells cs T fz)->aP H ⟨b,o,none⟩ vs i=iu H b (.cells (splice cs (o+i) vs) T fz)
 | [],H,cs,o,i,h=>by simp only[aP,splice];rw[oI h]
 | v::vs,H,cs,o,i,h=>by
  simp only[aP,addr_add_mk,splice]
  rw[rF h,gj vs _ (cs.setIfInBounds (o+i) v) o (i+1) (dU (bI h)),li,show o+(i+1)=o+i+1 by omega]

theorem dH{H:Array Obj}{b:Nat}{cs:Array Value}{T:TypeId}{fz:Nat×Nat}(h:H[b]?=some (.cells cs T fz)): ∀(vs:List Value) (o i:Nat),(∀j,j<vs.length->cs[o+i+j]?=vs[j]?)->aG H ⟨b,o,none⟩ i vs
 | [],_,_,_=>trivial
 | v::vs,o,i,hv=>⟨by rw[addr_add_mk,aU h];have:=hv 0 (by simp);simpa using this,
   dH h vs o (i+1) λj hj=>by have:=hv (j+1) (by simp;omega);rw[show o+(i+1)+j=o+i+(j+1)by omega,this];simp⟩
theorem gZ{H:Array Obj}{a:Addr}: ∀{vs:List Value} {i:Nat},aG H a i vs-> ∀j v,vs[j]?=some v->hat H (a.add (i+j))=some v
 | [],_,_,j,v,hv=>by simp at hv
 | u::vs,i,h,0,v,hv=>by simp at hv;subst hv;exact h.1
 | u::vs,i,h,j+1,v,hv=>by
  have:=gZ h.2 j v (by simpa using hv)
  rw[show i+(j+1)=i+1+j by omega];exact this
theorem Ext.rowAt{H H':Array Obj}(h:Ext H H'){a:Addr}: ∀{vs:List Value} {i:Nat},aG H a i vs->aG H' a i vs
 | [],_,_=>trivial
 | _::_,_,hr=>⟨h.hat hr.1,Ext.rowAt h hr.2⟩
theorem Ext.set{H0 H:Array Obj}(h:Ext H0 H){b:Nat}{o:Obj}(hb:H0.size<=b):Ext H0 (iu H b o):=
 ⟨by simpa using h.size,λi hi=>by rw[iD (by omega)];exact h.old i hi⟩

theorem boxed{H H1:Array Obj}{b:Nat}{cs:Array Value}{T:TypeId}{vs:List Value}{n:Nat}(hb:H[b]?=some (.cells cs T (0,0)))(hn:cs.size=n)(hv:vs.length=n):
  aJ H ⟨b,0,none⟩ 0 n/\(∀H1,H1=aP H ⟨b,0,none⟩ vs 0->aG H1 ⟨b,0,none⟩ 0 vs/\ ∀H0:Array Obj,Ext H0 H->H0.size<=b->Ext H0 H1):=by
 refine⟨eJ hb n 0 0 (by omega),λH1 hH=>?_⟩
 rw[gj vs H cs 0 0 hb]at hH
 subst hH
 refine⟨dH (dU (bI hb)) vs 0 0 λj hj=>?_,λH0 h hle=>h.set hle⟩
 rw[show 0+0+j=0+j by omega]
 exact fT cs vs 0 j (by omega) hj

theorem HC.via{P:Program}{f:FuncId}{args:Array Value}{H:Array Obj}{post:Value->Array Obj->Prop}(h: ∀R:Value->Array Obj->Prop,(∀v H',post v H'->R v H')->HC P f args H R):HC P f args H post:=h post λ_ _ h=>h

abbrev aM(w:Int):Prop:=0<=w/\w<18446744073709551616
theorem w64{n:Int}(h: -9223372036854775808<=n/\n<=9223372036854775807):IntKind.wrap .i64 n=n:=Go.IntWalk.i64_in n h
theorem wu64{n:Int}(h:0<=n/\n<=18446744073709551615):IntKind.wrap .u64 n=n:=Go.IntWalk.u64_in n h
theorem wi32{n:Int}(h: -2147483648<=n/\n<=2147483647):IntKind.wrap .i32 n=n:=Go.IntWalk.i32_in n h
theorem wu32{n:Int}(h:0<=n/\n<=4294967295):IntKind.wrap .u32 n=n:=Go.IntWalk.u32_in n h
theorem jU(n:Int):IntKind.wrap .u64 n=n % 18446744073709551616:=by
 unfold IntKind.wrap;simp only[IntKind.bits,IntKind.signed,Bool.false_and,Bool.false_eq_true,if_false];rfl
theorem jl(n:Int):IntKind.wrap .u32 n=n % 4294967296:=by
 unfold IntKind.wrap;simp only[IntKind.bits,IntKind.signed,Bool.false_and,Bool.false_eq_true,if_false];rfl
theorem sG(n:Int):IntKind.wrap .i64 n=(if n % 18446744073709551616>=9223372036854775808 then n % 18446744073709551616-18446744073709551616 else n % 18446744073709551616):=by
 unfold IntKind.wrap
 have e1:(2:Int) ^ IntKind.i64.bits=18446744073709551616:=by decide
 have e2:(2:Int) ^ (IntKind.i64.bits-1)=9223372036854775808:=by decide
 simp only[e1,e2,IntKind.signed,Bool.true_and,decide_eq_true_eq]

theorem jm{x:Int}(h0:0<=x)(h1:x<18446744073709551616):(BitVec.ofInt IntKind.u64.bits x).toNat=x.toNat:=by
 rw[BitVec.toNat_ofInt]
 show(x % ((2 ^ 64:Nat):Int)).toNat=_
 rw[Int.emod_eq_of_lt h0 (by simpa using h1)]
theorem rG{x y:Int}(hx:0<=x/\x<18446744073709551616)(hy:0<=y/\y<18446744073709551616):iand .u64 x y=((x.toNat &&& y.toNat:Nat):Int):=by
 unfold iand
 rw[BitVec.toNat_and,jm hx.1 hx.2,jm hy.1 hy.2]
 apply wu64
 have:x.toNat &&& y.toNat<=x.toNat:=Nat.and_le_left
 omega
theorem mq{x y:Int}(hx:0<=x/\x<18446744073709551616)(hy:0<=y/\y<18446744073709551616):ior .u64 x y=((x.toNat ||| y.toNat:Nat):Int):=by
 unfold ior
 rw[BitVec.toNat_or,jm hx.1 hx.2,jm hy.1 hy.2]
 apply wu64
 have:x.toNat ||| y.toNat<2 ^ 64:=Nat.or_lt_two_pow (by omega) (by omega)
 omega
theorem j3{x:Int}(b:Nat)(hb:b<64)(hx:0<=x/\x<18446744073709551616)(m:Int)(hm:m=2 ^ b-1):iand .u64 x m=x % (2 ^ b:Int):=by
 have hp:(0:Int)<2 ^ b:=Int.pow_pos (by decide)
 have hle:(2:Nat) ^ b<=2 ^ 63:=Nat.pow_le_pow_right (by decide) (by omega)
 have hcast:((2 ^ b:Nat):Int)=(2:Int) ^ b:=by simp
 rw[rG hx (by omega),hm]
 have e:((2:Int) ^ b-1).toNat=2 ^ b-1:=by omega
 rw[e,Nat.and_two_pow_sub_one_eq_mod]
 have:x=(x.toNat:Int):=by omega
 rw[Int.natCast_emod,hcast,<-this]
theorem lj{x y:Int}(b:Nat)(hx:0<=x/\x<18446744073709551616)(hd:x % (2 ^ b:Int)=0)(hy:0<=y/\y< (2 ^ b:Int))(hb:b<=64):ior .u64 x y=x+y:=by
 have hcast:((2 ^ b:Nat):Int)=(2:Int) ^ b:=by simp
 have hle:(2:Nat) ^ b<=2 ^ 64:=Nat.pow_le_pow_right (by decide) hb
 rw[mq hx (by omega)]
 have hdn:x.toNat % 2 ^ b=0:=by
  have:((x.toNat % 2 ^ b:Nat):Int)=0:=by rw[Int.natCast_emod,hcast,show((x.toNat:Nat):Int)=x by omega];exact hd
  omega
 have hq:x.toNat=2 ^ b*(x.toNat / 2 ^ b):=by
  have:=Nat.div_add_mod x.toNat (2 ^ b);omega
 have hyn:y.toNat<2 ^ b:=by omega
 rw[hq,<-Nat.two_pow_add_eq_or_of_lt hyn,<-hq]
 omega
theorem hM{k:IntKind}{x:Int}(y:Int)(n:Nat)(hy:y=n)(hn:n<=k.bits):ishr k x y=x / (2 ^ n:Int):=by
 unfold ishr
 subst hy
 rw[show min (n:Int).toNat k.bits=n by rw[Int.toNat_natCast];exact Nat.min_eq_left hn]
 rw[Int.fdiv_eq_ediv_of_nonneg _ (Int.pow_nonneg (by decide))]
theorem jJ{x:Int}(y:Int)(n:Nat)(hy:y=n)(hn:n<=64):ishl .u64 x y=(x*2 ^ n) % 18446744073709551616:=by
 unfold ishl
 subst hy
 rw[show min (n:Int).toNat IntKind.u64.bits=n by rw[Int.toNat_natCast];exact Nat.min_eq_left hn,jU]
theorem mH{x:Int}(y:Int)(n:Nat)(hy:y=n)(hn:n<=64):ishl .i64 x y=IntKind.wrap .i64 (x*2 ^ n):=by
 unfold ishl
 subst hy
 rw[show min (n:Int).toNat IntKind.i64.bits=n by rw[Int.toNat_natCast];exact Nat.min_eq_left hn]
theorem ic{x y:Int}(hx:0<=x):Int.tdiv x y=x / y:=Int.tdiv_eq_ediv_of_nonneg hx
theorem gP{x y:Int}(hx:0<=x):Int.tmod x y=x % y:=Int.tmod_eq_emod_of_nonneg hx
theorem zZ{b:Bool}(h:¬b=true):b=false:=eq_false_of_ne_true h
theorem zQ{p:Prop}[Decidable p](h:p):decide p=true:=decide_eq_true h
theorem zJ{p:Prop}[Decidable p](h:¬p):decide p=false:=decide_eq_false h
theorem zK{α:Type}[BEq α][LawfulBEq α]{a b:α}(h:a≠b):(a==b)=false:=beq_eq_false_iff_ne.mpr h
theorem zV{α:Type}[BEq α][LawfulBEq α]{a b:α}(h:a=b):(a==b)=true:=beq_iff_eq.mpr h
