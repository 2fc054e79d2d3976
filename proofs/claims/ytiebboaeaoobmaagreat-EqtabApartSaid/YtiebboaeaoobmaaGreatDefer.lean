/-
 A deferred call, made when a function returns; a scope through which the run goes without a jump. Proves nothing of any one program.
-/
import Derived.Test.YtiebboaeaoobmaaGreatRange
import Derived.Scope
set_option linter.unusedVariables false
set_option linter.unusedSimpArgs false
namespace Go.Proofs.YtiebboaeaoobmaaGreat
open Go

def HD(P:Program)(f:FuncId)(args:Array Value)(H:zV)(R:zV->Prop):Prop:=
 ∀w,w.heap=H->CallsDIn Fence.wide 0 P f args .returning w (λen u w'=>u=.returning/\ ∃v,en=.returned v/\Same w w'/\R w'.heap)
theorem HD.mono{P:Program}{f:FuncId}{args:Array Value}{H:zV}{R R':zV->Prop}(h:HD P f args H R)(hr: ∀H',R H'->R' H'):HD P f args H R':=
 λw hw=>(h w hw).mono λ_ _ _ ⟨hu,v,he,hs,hR⟩=>⟨hu,v,he,hs,hr _ hR⟩
section
variable {P:Program} {n:Nat} {w0:World} {e e':Env} {H H':zV} {Q:Exit->Act->World->Prop} {K:Act->World->Prop} {c x y:Code} {ds:List Deferred} {ro:Option Nat}

end
