/-
 AuditSame, but for the chapter's example, whose contract is handed in. Proves nothing of any one statement.
-/
import Derived.Test.YtojbbgcjiaphjaaGreatAuA
set_option linter.unusedVariables false
set_option linter.unusedSimpArgs false
namespace Go.Proofs.YtojbbgcjiaphjaaGreat
open Go
open Go.ChangeShapes Go.WideShapes

set_option maxRecDepth 100000 in
theorem lR(awk: ∀{A:zV},aY.C A (λv A'=>v=.bool true/\Ext A A'))(a b:Sl eM)(H:zV)(Al:SlOK 5 eU maxLen H a)(Bl:SlOK 5 eU maxLen H b):
  bI.C a.p a.n a.c b.p b.n b.c H (λv H'=>v=.bool true/\Ext H H'):=by
 refine HC.via λR hR=>bI.link ?_
 unfold bI.pt
 have fin: ∀{A:zV},Ext H A->aY.C A (λv H1=> ∃x:Bool,v=.bool x/\R (.bool x) H1):=λ{A} e=>by
  refine HC.mono awk ?_
  rintro _ H1 ⟨rfl,e1⟩
  exact⟨_,rfl,hR _ _ ⟨rfl,e.trans e1⟩⟩
 refine HC.mono (m8 Al) ?_
 rintro _ H1 ⟨⟨x1,rfl⟩,h1⟩
 obtain rfl:H=H1:=h1.symm
 refine⟨_,rfl,?_⟩
 by_cases c1:x1=true
 ·rw[if_pos c1];exact fin (Ext.refl _)
 rw[if_neg c1]
 refine HC.mono (m8 Bl) ?_
 rintro _ H2 ⟨⟨x2,rfl⟩,h2⟩
 obtain rfl:H=H2:=h2.symm
 refine⟨_,rfl,?_⟩
 by_cases c2:x2=true
 ·rw[if_pos c2];exact fin (Ext.refl _)
 rw[if_neg c2]
 refine HC.mono (ou Al Bl) ?_
 rintro _ H3 ⟨rfl,e3⟩
 refine⟨_,rfl,?_⟩
 refine HC.mono (qd (Al.ext e3) (Bl.ext e3)) ?_
 rintro _ H4 ⟨rfl,e4⟩
 refine⟨_,rfl,?_⟩
 rw[if_pos rfl]
 refine HC.mono (ou (Al.ext (e3.trans e4)) (Al.ext (e3.trans e4))) ?_
 rintro _ H5 ⟨rfl,e5⟩
 refine⟨_,rfl,?_⟩
 rw[if_pos (zX rfl)]
 exact fin ((e3.trans e4).trans e5)
