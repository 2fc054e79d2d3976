/-
 The chapter's first example of tables. Proves nothing of any one statement.
-/
import Derived.Test.YtiebboaeaoobmaaGreatTabL
set_option linter.unusedVariables false
set_option linter.unusedSimpArgs false
namespace Go.Proofs.YtiebboaeaoobmaaGreat
open Go

theorem J1_fresh:J1 ⟨Mem.fresh 200,λ_ _=>0⟩ (λ_=>True):=⟨spOK_fresh (by decide),even_fresh _,by decide,λ_=>trivial⟩
theorem awake15_c{H:zV}:morainelaw15_awake.C H (λv H'=>v=.bool true/\Ext H H'):=by
 refine HC.via λR hR=>morainelaw15_awake.link ?_
 unfold morainelaw15_awake.pt
 refine HC.mono (begun_c J1_ok J1_fresh) ?_
 rintro _ H1 ⟨b,x,G,f,th,t,W,P,q,keys,rfl,S,hep,hfr,-,-⟩
 refine⟨_,rfl,?_⟩
 rw[onPtr_some]
 refine HC.mono (callPut_c J1_ok S (what:=0) (key:=0) (val:=1) (gen:=0) (up:=false) (.inl (by decide))) ?_
 rintro _ H2 ⟨x2,G2,f2,th2,E2,W2,B2,c2,L2,rfl,S2,mv2,-,-,hL2⟩
 have hL2:=hL2 (by omega)
 have hf2:=mv2.rest.free
 refine⟨_,rfl,?_⟩
 rw[if_pos rfl]
 refine HC.mono (callPut_c J1_ok S2 (what:=0) (key:=1) (val:=2) (gen:=0) (up:=false) (.inl (by decide))) ?_
 rintro _ H3 ⟨x3,G3,f3,th3,E3,W3,B3,c3,L3,rfl,S3,mv3,-,-,hL3⟩
 have hL3:=hL3 (by omega)
 have hf3:=mv3.rest.free
 refine⟨_,rfl,?_⟩
 rw[if_pos rfl]
 refine HC.mono (callPut_c J1_ok S3 (what:=0) (key:=0) (val:=3) (gen:=0) (up:=false) (.inl (by decide))) ?_
 rintro _ H4 ⟨x4,G4,f4,th4,E4,W4,B4,c4,L4,rfl,S4,mv4,-,-,hL4⟩
 have hL4:=hL4 (by omega)
 refine⟨_,rfl,?_⟩
 rw[if_pos rfl]
 refine HC.mono (told15_c S4) ?_
 rintro _ H5 ⟨rfl,e5⟩
 refine⟨_,rfl,?_⟩
 rw[if_pos rfl]
 have S5:=S4.ext e5
 refine⟨_,S5.play.ref,_,rfl,_,_,_,hat_blk S5.ref.cell,hR _ _ ⟨?_,S5.ts.hs.e⟩⟩
 have hlen:L4.length=2:=by rw[hL4,hL3,hL2];decide
 rw[hlen];rfl
