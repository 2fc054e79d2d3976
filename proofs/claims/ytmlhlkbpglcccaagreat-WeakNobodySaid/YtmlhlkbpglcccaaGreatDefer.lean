/-
 A deferred call, made when a function returns; a scope through which the run goes without a jump. Proves nothing of any one program.
-/
import Derived.Test.YtmlhlkbpglcccaaGreatRange
import Derived.Scope
set_option linter.unusedVariables false
set_option linter.unusedSimpArgs false
namespace Go.Proofs.YtmlhlkbpglcccaaGreat
open Go

def HD(P:Program)(f:FuncId)(args:Array Value)(H:zV)(R:zV->Prop):Prop:=
 ∀w,w.heap=H->CallsDIn Fence.wide 0 P f args .returning w (λen u w'=>u=.returning/\ ∃v,en=.returned v/\Same w w'/\R w'.heap)
theorem HD.mono{P:Program}{f:FuncId}{args:Array Value}{H:zV}{R R':zV->Prop}(h:HD P f args H R)(hr: ∀H',R H'->R' H'):HD P f args H R':=
 λw hw=>(h w hw).mono λ_ _ _ ⟨hu,v,he,hs,hR⟩=>⟨hu,v,he,hs,hr _ hR⟩
section
variable {P:Program} {n:Nat} {w0:World} {e e':Env} {H H':zV} {Q:Exit->Act->World->Prop} {K:Act->World->Prop} {c x y:Code} {ds:List Deferred} {ro:Option Nat}

end

def Exit.jump(l:Nat)(J:Act->World->Prop)(Q:Exit->Act->World->Prop):Exit->Act->World->Prop
 | .goto l',a,w=>l'=l/\J a w
 | e,a,w=>Q e a w
def jm(P:Program)(x:Code)(l:Nat)(Q:Exit->Act->World->Prop)(a:Act)(w:World):Prop:=
 ∀r,findLabel x l=some r-> ∀b k cs,∃e a₁ w₁,Q e a₁ w₁/\Arrives P (lone (b.at a (.code r::.inScope x::k)) cs w) b k cs e a₁ w₁
section
variable {P:Program} {n:Nat} {w0:World} {e e':Env} {H H':zV} {Q:Exit->Act->World->Prop} {K:Act->World->Prop} {c x y:Code} {ds:List Deferred} {ro:Option Nat}
theorem j8{l:Nat}{a:Act}{w:World}(hl:(findLabel x l).isSome=true)(h:x.wp P (Exit.jump l (jm P x l Q) Q) a w):(Code.scope x).wp P Q a w:=by
 obtain⟨r,hr⟩:=Option.isSome_iff_exists.1 hl
 intro b k cs
 obtain⟨e,a₁,w₁,hq,harr⟩:=h b (.inScope x::k) cs
 cases e with
 | normal=>exact⟨.normal,a₁,w₁,hq,.head step_scope (Steps.trans harr (.one step_inScope))⟩
 | exit id=>exact⟨.exit id,a₁,w₁,hq,λk' hk=> .head step_scope (harr k' (by simp[exitTo,hk]))⟩
 | goto l'=>
  obtain⟨rfl,hres⟩:=hq
  obtain⟨e₂,a₂,w₂,hq₂,harr₂⟩:=hres r hr b k cs
  exact⟨e₂,a₂,w₂,hq₂,.of_steps (.head step_scope (harr _ (by simp[gotoIn,hr]))) harr₂⟩
 | ret=>exact⟨_,a₁,w₁,hq,.of_steps (.one step_scope) harr⟩
 | panic ch=>exact⟨_,a₁,w₁,hq,.of_steps (.one step_scope) harr⟩
 | outgrown=>exact⟨_,a₁,w₁,hq,.of_steps (.one step_scope) harr⟩
theorem lO{l:Nat}{B:Code}(hl:findLabel x l=some (.seq .skip B))(I:Act->World->Prop)(μ:Act->World->Nat)(round: ∀a w,I a w->B.wp P (Exit.jump l (λa' w'=>I a' w'/\μ a' w'<μ a w) Q) a w):
  ∀(k:Nat) (a:Act) (w:World),μ a w=k->I a w->jm P x l Q a w:=by
 intro k
 induction k using Nat.strongRecOn with
 | ind k ih=>
  intro a w hk hI r hr b kk cs
  obtain rfl:Code.seq .skip B=r:=Option.some.inj (hl.symm.trans hr)
  have h1:(Code.seq .skip B).wp P (Exit.jump l (λa' w'=>I a' w'/\μ a' w'<μ a w) Q) a w:=wp_seq (wp_skip (round a w hI))
  obtain⟨e,a₁,w₁,hq,harr⟩:=h1 b (.inScope x::kk) cs
  cases e with
  | normal=>exact⟨.normal,a₁,w₁,hq,Steps.trans harr (.one step_inScope)⟩
  | exit id=>exact⟨.exit id,a₁,w₁,hq,λk' hk=>harr k' (by simp[exitTo,hk])⟩
  | goto l'=>
   obtain⟨rfl,hI₁,hlt⟩:=hq
   obtain⟨e₂,a₂,w₂,hq₂,harr₂⟩:=ih _ (hk▸hlt) a₁ w₁ rfl hI₁ _ hr b kk cs
   exact⟨e₂,a₂,w₂,hq₂,.of_steps (harr _ (by simp[gotoIn,hl])) harr₂⟩
  | ret=>exact⟨_,a₁,w₁,hq,harr⟩
  | panic ch=>exact⟨_,a₁,w₁,hq,harr⟩
  | outgrown=>exact⟨_,a₁,w₁,hq,harr⟩
theorem nA(x:Code)(l:Nat)(hc:c=.scope x)(hl:(findLabel x l).isSome=true)(h:At n ds w0 e H (x.wpR none P (Exit.jump l (jm P x l Q) Q))):At n ds w0 e H (c.wpR none P Q):=
 λa w ha hw hs=>by
  rw[hc]
  exact wpIn_wide.2 (j8 hl (wpIn_wide.1 (h a w ha hw hs)))
theorem nB(l:Nat)(B:Code)(e0:Env)(I:zV->Prop)(μ:zV->Nat)(hc:c=.seq (.label l) B)(hl:findLabel x l=some (.seq .skip B))(hI:I H)(he:Sub e0 e)
  (round: ∀H',I H'->At n ds w0 e0 H' (B.wpR none P (Exit.jump l (λa w=>Agree n ds e0 a/\Same w0 w/\I w.heap/\μ w.heap<μ H') Q))):
  At n ds w0 e H (c.wpR none P (Exit.jump l (jm P x l Q) Q)):=λa w ha hw hs=>by
 have key: ∀a w,(Agree n ds e0 a/\Same w0 w/\I w.heap)->B.wp P (Exit.jump l (λa' w'=>(Agree n ds e0 a'/\Same w0 w'/\I w'.heap)/\μ w'.heap<μ w.heap) Q) a w:=by
  rintro a w ⟨ha,hs,hI⟩
  refine wp_mono (wpIn_wide.1 (round w.heap hI a w ha rfl hs)) ?_
  intro ex a2 w2 hq
  cases ex with
  | goto l'=>
   obtain⟨rfl,h1,h2,h3,h4⟩:=hq
   exact⟨rfl,⟨h1,h2,h3⟩,h4⟩
  | normal=>exact hq
  | exit id=>exact hq
  | ret=>exact hq
  | panic ch=>exact hq
  | outgrown=>exact hq
 have hres:=lO (x:=x) hl (λa w=>Agree n ds e0 a/\Same w0 w/\I w.heap) (λ_ w=>μ w.heap) key
 rw[hc]
 refine wpIn_wide.2 (wp_seq (wp_label ?_))
 refine wp_mono (key a w ⟨ha.sub he,hs,hw▸hI⟩) ?_
 intro ex a2 w2 hq
 cases ex with
 | goto l'=>exact⟨hq.1,hres _ a2 w2 rfl hq.2.1⟩
 | normal=>exact hq
 | exit id=>exact hq
 | ret=>exact hq
 | panic ch=>exact hq
 | outgrown=>exact hq
theorem oP(l:Nat)(hc:c=.goto l)(h:At n ds w0 e H (Q (.goto l))):At n ds w0 e H (c.wpR ro P Q):=
 λa w ha hw hs=>by rw[hc];exact wpIn_goto (h a w ha hw hs)
theorem ik{l:Nat}(h:At n ds w0 e H (Q (.goto l))):At n ds w0 e H (Exit.then K Q (.goto l)):=h
theorem ja{id l:Nat}(h:At n ds w0 e H (Q (.goto l))):At n ds w0 e H (Exit.inBlock id Q (.goto l)):=h
theorem oQ{l:Nat}{e0:Env}{I:zV->Prop}{μ:zV->Nat}{H0:zV}(he:Sub e0 e)(hI:I H/\μ H<μ H0):
  At n ds w0 e H (Exit.jump l (λa w=>Agree n ds e0 a/\Same w0 w/\I w.heap/\μ w.heap<μ H0) Q (.goto l)):=
 λa w ha hw hs=>⟨rfl,ha.sub he,hs,by rw[hw];exact hI.1,by rw[hw];exact hI.2⟩
end
