/-
 BuildTells: of any things that are drawn on a heap, rings among them, the datum of the last one, or the error, is the document's. Without conditions (beyond the row's cells).
-/
import Derived.Lib.LaidU8T
import Derived.Lib.LaidIn
import Derived.Test.YtibpklpgmgakcaaGreatDoorTellsH
import Derived.Test.YtibpklpgmgakcaaGreatDoorLawL
import Derived.Test.YtibpklpgmgakcaaGreatDoorTie
import Derived.Test.YtibpklpgmgakcaaGreatDoorCards
set_option linter.unusedVariables false
set_option linter.unusedSimpArgs false
namespace Go.Proofs.YtibpklpgmgakcaaGreatDoor.buildTells
open Go Go.Proofs.YtibpklpgmgakcaaGreatDoor
open Go.ChangeShapes Go.WideShapes Go.ChangeAt Go.RowKit

def ren:Go.Shelf.Ren:=⟨id,λ| 5=>5 | 119=>155 | 138=>157 | 139=>158 | n=>n,λ| 3=>0 | 4=>1 | n=>n⟩
theorem tabs8{W:World}(h:laidMetH Tryz.prog Rows.buildTellsRow.laid W):Tabs8 W.heap:=by
 rw[MakeChecks.laidMetH_plain _ _ _ (by kernel_rfl)]at h
 have ef:Pinned.utf8First=Lib.firstData:=by kernel_rfl
 have ea:Rows.laid_unicode_utf8_acceptRanges (H:=Unit)=Lib.acceptData:=by kernel_rfl
 have r2:=Lib.laidMet.reads h (.head _)
 have r1:=Lib.laidMet.reads h (.tail _ (.head _))
 rw[show Rows.laid_unicode_utf8_first=Lib.firstData from ef]at r1
 rw[ea]at r2
 have t:=utf8Tabs_of_readsT (P:=Tryz.prog) (ρ:=ren) ⟨Tryz.underlying5,Tryz.underlying155,Tryz.underlying157,Tryz.underlying158⟩
  ⟨by kernel_rfl,by kernel_rfl,by kernel_rfl,by kernel_rfl,by kernel_rfl,by kernel_rfl,by kernel_rfl⟩ r1 r2
 refine⟨λc hc=>?_,λi hi=>⟨?_,?_,trivial⟩⟩
 ·have:=t.1 c hc
  rw[cell_hat]at this
  rw[addr_add_mk,Nat.zero_add];exact this
 ·have:=(t.2 i hi).1
  rw[cell_hat]at this
  rw[addr_add_mk,addr_add_mk,Nat.zero_add,Nat.add_zero,Nat.mul_comm];exact this
 ·have:=(t.2 i hi).2
  rw[cell_hat]at this
  rw[addr_add_mk,addr_add_mk,Nat.zero_add,Nat.mul_comm];exact this

set_option maxRecDepth 100000 in
theorem lifted(os:Os)(started:os.Started)(H:Type)(enc:TypeId×Value->H):
  ReturnsInHanded {} Tryz.checked os 3 .any (λw args=>(Rows.buildTellsSpec.pre enc Tryz.prog Tryz.f3 Rows.buildTellsRow.domain false w args/\laidMetH Tryz.prog Rows.buildTellsRow.laid w)/\sizedMet enc Tryz.prog Tryz.f3 (OpenSpec.ofChange Rows.buildTellsSpec) false w args)
   (Rows.buildTellsSpec.post enc Tryz.prog Tryz.f3 false true false false):=by
 refine law_lifted_laid (tb:=4) started (by kernel_rfl) Tryz.func3
  (ChangeSpec.witness_shaped (enc:=enc) (C:=Tryz.checked) (os:=os) (X:=λw _=>laidMetH Tryz.prog Rows.buildTellsRow.laid w) false (World.laidAll Tryz.prog os Rows.buildTellsRow.laid) #[.slice Option.none 0 0] 8 (World.laidAll_os _ _ _)
   (World.shaped_of_ZipB (by kernel_rfl) (by kernel_rfl)) (by kernel_rfl) (by kernel_rfl) (by kernel_rfl)
   (by rw[MakeChecks.laidMetH_plain _ _ _ (by kernel_rfl)];exact laidMet_laidAll _ (by kernel_rfl) (by kernel_rfl)))
  rfl (by kernel_rfl) rfl Tryz.underlying4 (λds hds=>?_) ?_
 ·match ds,hds with
  | [d0],_=>rfl
 intro W base args ds p hL hval hA _
 rw[Tryz.params3]at hA hval
 obtain⟨v0,vs0,d0,ds0,p0,q0,hargs,rfl,rfl,h0,r0⟩:=trodAll_cons hA
 obtain⟨rfl,rfl,rfl⟩:=trodAll_nil r0
 obtain rfl:args= #[v0]:=by cases args;simp_all
 obtain⟨a0,rfl,w0⟩:=open_read Tryz.underlying22 (by kernel_rfl) reads_ItemOf (B:=maxLen) (.inl rfl) (hval 0 22 v0 rfl rfl) h0
 exact buildTells_c (tabs8 hL) w0

theorem over:Rows.BuildTellsSaid:=
 OpenClaim.holds_of_wide 3 Tryz.f3 rfl rfl rfl rfl rfl rfl rfl ⟨rfl,rfl,rfl,rfl,rfl⟩ rfl rfl rfl rfl rfl (by kernel_rfl) Tryz.func3 (by kernel_rfl)
  (of_decide_eq_true (by kernel_rfl)) (by unfold Func.isWrapper;first | (rw[if_pos (by decide+kernel)];kernel_rfl) | (rw[if_neg (by decide+kernel)];exact⟨rfl,rfl⟩))
  (λos started H enc _=>lifted os started H enc)
theorem proved:Rows.BuildTellsCardSaid:=
 Claim7.holds_tied_plain_at .later [] [.data,.pinned] true (true, "b8e426633e0b6621a784120b817b762e80a4d31f8bde95c5f80a573440e4cf4e") false over (λ_ h=>by cases h) (by kernel_rfl) (λ_ h=>by cases h) buildTells_row_tie rfl ⟨rfl,rfl⟩ (by kernel_rfl) rfl
  (λf fn hf hfn=>by
   obtain rfl:f=3:=Option.some.inj ((show Tryz.prog.funcNamed "moraine/morainelaw17.BuildTells" =some 3 by kernel_rfl).symm.trans hf) |>.symm
   obtain rfl:fn=Tryz.f3:=(Option.some.inj (Tryz.func3.symm.trans hfn)).symm
   exact⟨by kernel_rfl,λj t ht=>by
    rw[Tryz.params3]at ht
    have hm:t∈[22]:=by simpa using Array.mem_of_getElem? ht
    have hall:([22].all λu=> !Tryz.prog.wantsStandIn u)=true:=by kernel_rfl
    exact(show Tryz.prog.wantsStandIn t=false by simpa using List.all_eq_true.1 hall t hm)⟩)
  (by kernel_rfl)
#print axioms proved
end Go.Proofs.YtibpklpgmgakcaaGreatDoor.buildTells
