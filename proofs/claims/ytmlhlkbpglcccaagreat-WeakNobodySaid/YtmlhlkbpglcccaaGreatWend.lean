/-
 Has a trace ended (package weak)? Proves nothing of any one statement.
-/
import Derived.Test.YtmlhlkbpglcccaaGreatTrB
import Derived.Test.YtmlhlkbpglcccaaGreatFweak
set_option linter.unusedVariables false
set_option linter.unusedSimpArgs false
namespace Go.Proofs.YtmlhlkbpglcccaaGreat
open Go

theorem iJ{H:zV}{b:Blk}{x:Hp}{q:TB}{t:Tr}(T:Tc H b x q t):dq.C (some ⟨q.t,0,none⟩) H (λv H'=>v=.bool t.over/\H'=H):=by
 refine HC.via λR hR=>dq.link ?_
 unfold dq.pt
 rw[onPtr_some]
 have h:cJ.C (some ⟨q.t,0,none⟩) H (λv H'=>v=.bool t.over/\H'=H):=by
  refine HC.via λR hR=>cJ.link ?_
  unfold cJ.pt
  refine HC.mono (fZ T) ?_
  rintro _ _ ⟨rfl,rfl⟩
  exact⟨_,rfl,hR _ _ ⟨rfl,rfl⟩⟩
 refine HC.mono h ?_
 rintro _ _ ⟨rfl,rfl⟩
 exact⟨_,rfl,hR _ _ ⟨rfl,rfl⟩⟩
