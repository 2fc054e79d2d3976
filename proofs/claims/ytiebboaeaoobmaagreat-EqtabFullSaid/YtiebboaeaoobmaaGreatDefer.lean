/-
 A deferred call, made when a function returns; a scope through which the run goes without a jump. Proves nothing of any one program.
-/
import Derived.Test.YtiebboaeaoobmaaGreatRange
import Derived.Scope
set_option linter.unusedVariables false
set_option linter.unusedSimpArgs false
namespace Go.Proofs.YtiebboaeaoobmaaGreat
open Go

def HD(P:Program)(f:FuncId)(args:Array Value)(H:zV)(R:zV->Prop):Prop:=
 ∀w,w.heap=H->CallsDIn Fence.wide 0 P f args .returning w (λen u w'=>u=.returning/\ ∃v,en=.returned v/\Same w w'/\R w'.heap)
theorem HD.mono{P:Program}{f:FuncId}{args:Array Value}{H:zV}{R R':zV->Prop}(h:HD P f args H R)(hr: ∀H',R H'->R' H'):HD P f args H R':=
 λw hw=>(h w hw).mono λ_ _ _ ⟨hu,v,he,hs,hR⟩=>⟨hu,v,he,hs,hr _ hR⟩
def ke(f:FuncId)(args:Array Value):Deferred:={target:=.fn (.func f) #[],args:=args}

section
variable {P:Program} {n:Nat} {w0:World} {e e':Env} {H H':zV} {Q:Exit->Act->World->Prop} {K:Act->World->Prop} {c x y:Code} {ds:List Deferred} {ro:Option Nat}

theorem rt{f:FuncId}{fn:Func}{args:Array Value}{R:zk}(n:Nat)(hf:P.funcs[f]?=some fn)(hb:fn.body=some c)(hn:fn.ntmps=n)(hle:args.size<=n)
  (h: ∀(w0:World) (Q:Exit->Act->World->Prop),
   (∀a w,a.defers=[]->ik P fn w0 R a w->Q .ret a w/\Q .normal a w)->At n [] w0 (env0 0 args.toList) H (c.wpR none P Q)):HD P f args H (λH'=> ∃v,R v H'):=λw hw=>by
 refine(callsDIn_of_wp (R:=λen w'=> ∃v,en=.returned v/\Same w w'/\R v w'.heap) hf hb trivial (n:=0) ?_).mono ?_
 ·refine h w (bodyPost P fn _) (λa w' hd hl=>?_) _ _ ?_ hw (Same.refl w)
  ·unfold ik at hl
   rw[hd]at hl
   exact⟨⟨hd,hl⟩,⟨hd,hl⟩⟩
  ·refine⟨?_,rfl,λt v hv=>?_⟩
   ·simp only[Array.size_append,Array.size_replicate];omega
   ·obtain⟨_,h2⟩:=mc _ _ _ _ hv
    simp only[Nat.sub_zero,Array.getElem?_toList]at h2
    show(args++Array.replicate (fn.ntmps-args.size) undef)[t]?=some v
    have:t<args.size:=by
     rcases Nat.lt_or_ge t args.size with h | h
     ·exact h
     ·rw[Array.getElem?_eq_none h]at h2;cases h2
    rw[Array.getElem?_append_left this];exact h2
 ·rintro en u w' ⟨hu,v,he,hs,hR⟩
  exact⟨hu,v,he,hs,v,hR⟩

theorem sw{fn:Func}{R:zk}(vs:List Value)
  (hQ: ∀a w,a.defers=[]->ik P fn w0 R a w->Q .ret a w/\Q .normal a w)
  (hres:cF P H e fn.results.toList vs) (h:R (tup vs) H):At n [] w0 e H (Q .ret):=λa w ha hw hs=>
 (hQ a w ha.defers (by unfold ik;rw[ha.defers];exact Shut.leave (λw' vs hr=>hr.run ha rfl) [] w hs (by rw[hw];exact⟨vs,hres,h⟩))).1
theorem ru{fn:Func}{R:zk}(vs:List Value)
  (hQ: ∀a w,a.defers=[]->ik P fn w0 R a w->Q .ret a w/\Q .normal a w)
  (hres:cF P H e fn.results.toList vs) (h:R (tup vs) H):At n [] w0 e H (Q .normal):=λa w ha hw hs=>
 (hQ a w ha.defers (by unfold ik;rw[ha.defers];exact Shut.leave (λw' vs hr=>hr.run ha rfl) [] w hs (by rw[hw];exact⟨vs,hres,h⟩))).2

def tj(P:Program)(ops:Array Oper)(i:Nat)(e:Env)(w:World):Option (Option Tmp×Result Next):=
 match ops.toList.drop i with
 | []=>none
 | o::_=>
  match ja ops e o with
  | some true=>bif (match o.op with | .select .. =>false | _=>true) && allIn e o.op.operands.toList then some (o.dst,(execOp (rho e) o).run P w)else none
  | _=>none
theorem sx{ops:Array Oper}{i:Nat}(d:Option Tmp)(f:FuncId)(args:Array Value)(hx: ∀w,tj P ops i e w=some (d,.ok (.defer (ke f args)) w))(e':Env)(he:ee n e d undef e')
  (h:RegN none P n (ke f args::ds) w0 ops (i+1) e' H Q):RegN none P n ds w0 ops i e H Q:=λa w ha hw hs=>by
 have h1:=hx w
 unfold tj at h1
 cases hd:ops.toList.drop i with
 | nil=>simp[hd]at h1
 | cons o l=>
  simp only[hd]at h1
  cases hwt:ja ops e o with
  | none=>simp[hwt]at h1
  | some b=>
   cases b with
   | false=>simp[hwt]at h1
   | true=>
    simp only[hwt]at h1
    by_cases hok:((match o.op with | .select .. =>false | _=>true) && allIn e o.op.operands.toList)=true
    ·rw[hok]at h1
     simp only[cond_true,Option.some.injEq,Prod.mk.injEq]at h1
     obtain⟨hdst,hrun⟩:=h1
     rw[Bool.and_eq_true]at hok
     have hex:execOp a.eval o=execOp (rho e) o:=by
      refine execOp_congr o (λcs b hs=>by rw[hs]at hok;simp at hok) λx hx=>?_
      have h2:=lg hok.2 x (by simpa using hx)
      obtain⟨v,hv⟩:=Option.isSome_iff_exists.1 h2
      rw[ha.eval hv]
      simp[rho,hv]
     have hl:ops.toList.drop (i+1)=l:=by rw[<-List.drop_drop,hd];rfl
     unfold wpListIn
     rw[ha.wanted hwt]
     simp only[if_true]
     refine⟨λ_ _=>trivial,?_⟩
     rw[show o.semAt (fen none).round a.eval=execOp a.eval o from rfl,hex,hrun]
     simp only[Oper.uponIn]
     rw[hdst]
     have ha2:=ha.putSub he
     have:=h ({a with defers:=ke f args::a.defers}.put d undef) w ⟨by cases d<;>exact ha2.size,by cases d<;>(show _::a.defers=_;rw[ha.defers]),by cases d<;>exact ha2.vals⟩ hw hs
     rw[hl]at this
     exact this
    ·rw[Bool.not_eq_true]at hok
     rw[hok]at h1;simp at h1

theorem leaveD{fn:Func}{R:zk}{f:FuncId}{args:Array Value}(hf:Enters P f){a:Act}{w:World}(ha:Agree n [ke f args] e a)(hw:w.heap=H)(hs:Same w0 w)
  (h:HD P f args H (λH'=> ∃vs,cF P H' e fn.results.toList vs/\R (tup vs) H')):ik P fn w0 R a w:=by
 unfold ik
 rw[ha.defers]
 refine⟨by simp,.inr ⟨λq=>by simp[Fence.wide]at q,.func f,#[],f,args,rfl,?_,λ_ _=>trivial,?_⟩⟩
 ·have:=hf args w
  simpa[invoke,ke]using this
 ·refine(h w hw).mono ?_
  rintro en u w' ⟨rfl,v,rfl,hs2,vs,hr,hR⟩
  show LeavesInM Fence.wide 0 P fn a.tmps _ [] (settle .returning) w'
  exact⟨_,hr.run ha rfl,_,rfl,hs.trans hs2,hR⟩
theorem sD{fn:Func}{R:zk}{f:FuncId}{args:Array Value}(hf:Enters P f)(hQ: ∀a w,ik P fn w0 R a w->Q .ret a w/\Q .normal a w)
  (h:HD P f args H (λH'=> ∃vs,cF P H' e fn.results.toList vs/\R (tup vs) H')):At n [ke f args] w0 e H (Q .ret):=λa w ha hw hs=>(hQ a w (leaveD hf ha hw hs h)).1
theorem sE(x:Code)(hc:c=.scope x)(h:At n ds w0 e H (x.wpR none P (Exit.noGoto Q))):At n ds w0 e H (c.wpR none P Q):=
 λa w ha hw hs=>by
  rw[hc]
  exact wpIn_wide.2 (wp_scope_straight (wpIn_wide.1 (h a w ha hw hs)))
theorem sF(l:Nat)(hc:c=.label l)(h:At n ds w0 e H (Q .normal)):At n ds w0 e H (c.wpR ro P Q):=
 λa w ha hw hs=>by rw[hc];exact wpIn_label (h a w ha hw hs)
end

section
variable {P:Program} {n:Nat} {w0:World} {e e':Env} {H H':zV} {Q:Exit->Act->World->Prop} {K:Act->World->Prop} {c x y:Code} {ds:List Deferred} {ro:Option Nat}
end
