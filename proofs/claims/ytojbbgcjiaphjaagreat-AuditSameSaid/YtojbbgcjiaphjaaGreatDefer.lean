/-
 A deferred call, made when a function returns; a scope through which the run goes without a jump. Proves nothing of any one program.
-/
import Derived.Test.YtojbbgcjiaphjaaGreatRange
import Derived.Scope
set_option linter.unusedVariables false
set_option linter.unusedSimpArgs false
namespace Go.Proofs.YtojbbgcjiaphjaaGreat
open Go

def HD(P:Program)(f:FuncId)(args:Array Value)(H:zV)(R:zV->Prop):Prop:=
 ∀w,w.heap=H->CallsDIn Fence.wide 0 P f args .returning w (λen u w'=>u=.returning/\ ∃v,en=.returned v/\Same w w'/\R w'.heap)
theorem HD.mono{P:Program}{f:FuncId}{args:Array Value}{H:zV}{R R':zV->Prop}(h:HD P f args H R)(hr: ∀H',R H'->R' H'):HD P f args H R':=
 λw hw=>(h w hw).mono λ_ _ _ ⟨hu,v,he,hs,hR⟩=>⟨hu,v,he,hs,hr _ hR⟩
section
variable {P:Program} {n:Nat} {w0:World} {e e':Env} {H H':zV} {Q:Exit->Act->World->Prop} {K:Act->World->Prop} {c x y:Code} {ds:List Deferred} {ro:Option Nat}

theorem qP{f:FuncId}{fn:Func}{args:Array Value}{R:zv}(n:Nat)(hf:P.funcs[f]?=some fn)(hb:fn.body=some c)(hn:fn.ntmps=n)(hle:args.size<=n)
  (h: ∀(w0:World) (Q:Exit->Act->World->Prop),
   (∀a w,a.defers=[]->iG P fn w0 R a w->Q .ret a w/\Q .normal a w)->At n [] w0 (env0 0 args.toList) H (c.wpR none P Q)):HD P f args H (λH'=> ∃v,R v H'):=λw hw=>by
 refine(callsDIn_of_wp (R:=λen w'=> ∃v,en=.returned v/\Same w w'/\R v w'.heap) hf hb trivial (n:=0) ?_).mono ?_
 ·refine h w (bodyPost P fn _) (λa w' hd hl=>?_) _ _ ?_ hw (Same.refl w)
  ·unfold iG at hl
   rw[hd]at hl
   exact⟨⟨hd,hl⟩,⟨hd,hl⟩⟩
  ·refine⟨?_,rfl,λt v hv=>?_⟩
   ·simp only[Array.size_append,Array.size_replicate];omega
   ·obtain⟨_,h2⟩:=lq _ _ _ _ hv
    simp only[Nat.sub_zero,Array.getElem?_toList]at h2
    show(args++Array.replicate (fn.ntmps-args.size) undef)[t]?=some v
    have:t<args.size:=by
     rcases Nat.lt_or_ge t args.size with h | h
     ·exact h
     ·rw[Array.getElem?_eq_none h]at h2;cases h2
    rw[Array.getElem?_append_left this];exact h2
 ·rintro en u w' ⟨hu,v,he,hs,hR⟩
  exact⟨hu,v,he,hs,v,hR⟩

theorem qW{fn:Func}{R:zv}(vs:List Value)
  (hQ: ∀a w,a.defers=[]->iG P fn w0 R a w->Q .ret a w/\Q .normal a w)
  (hres:dF P H e fn.results.toList vs) (h:R (tup vs) H):At n [] w0 e H (Q .ret):=λa w ha hw hs=>
 (hQ a w ha.defers (by unfold iG;rw[ha.defers];exact Shut.leave (λw' vs hr=>hr.run ha rfl) [] w hs (by rw[hw];exact⟨vs,hres,h⟩))).1
theorem qQ{fn:Func}{R:zv}(vs:List Value)
  (hQ: ∀a w,a.defers=[]->iG P fn w0 R a w->Q .ret a w/\Q .normal a w)
  (hres:dF P H e fn.results.toList vs) (h:R (tup vs) H):At n [] w0 e H (Q .normal):=λa w ha hw hs=>
 (hQ a w ha.defers (by unfold iG;rw[ha.defers];exact Shut.leave (λw' vs hr=>hr.run ha rfl) [] w hs (by rw[hw];exact⟨vs,hres,h⟩))).2

end

section
variable {P:Program} {n:Nat} {w0:World} {e e':Env} {H H':zV} {Q:Exit->Act->World->Prop} {K:Act->World->Prop} {c x y:Code} {ds:List Deferred} {ro:Option Nat}
end
