/-
 BuildSize: a datum has just the words on the heap that its things need. The condition: the argument does not hold itself (the row's cell).
-/
import Derived.Lib.LaidU8T
import Derived.Lib.LaidIn
import Derived.Test.YtdgejifkcfgliaaGreatDoorBuildSz
import Derived.Test.YtdgejifkcfgliaaGreatDoorLawL
import Derived.Test.YtdgejifkcfgliaaGreatDoorTie
import Derived.Test.YtdgejifkcfgliaaGreatDoorCards
set_option linter.unusedVariables false
set_option linter.unusedSimpArgs false
namespace Go.Proofs.YtdgejifkcfgliaaGreatDoor.buildSize
open Go Go.Proofs.YtdgejifkcfgliaaGreatDoor
open Go.ChangeShapes Go.WideShapes Go.ChangeAt Go.RowKit

def ren : Go.Shelf.Ren := ⟨id, fun | 5 => 5 | 119 => 159 | 138 => 161 | 139 => 162 | n => n, fun | 3 => 0 | 4 => 1 | n => n⟩
theorem tabs8 {W : World} (h : laidMetH Tryz.prog Rows.buildSizeRow.laid W) : Tabs8 W.heap := by
 rw [MakeChecks.laidMetH_plain _ _ _ (by kernel_rfl)] at h
 have ef : Pinned.utf8First = Lib.firstData := by kernel_rfl
 have ea : Rows.laid_unicode_utf8_acceptRanges (H := Unit) = Lib.acceptData := by kernel_rfl
 have r2 := Lib.laidMet.reads h (.head _)
 have r1 := Lib.laidMet.reads h (.tail _ (.head _))
 rw [show Rows.laid_unicode_utf8_first = Lib.firstData from ef] at r1
 rw [ea] at r2
 have t := utf8Tabs_of_readsT (P := Tryz.prog) (ρ := ren) ⟨Tryz.underlying5, Tryz.underlying159, Tryz.underlying161, Tryz.underlying162⟩
  ⟨by kernel_rfl, by kernel_rfl, by kernel_rfl, by kernel_rfl, by kernel_rfl, by kernel_rfl, by kernel_rfl⟩ r1 r2
 refine ⟨fun c hc => ?_, fun i hi => ⟨?_, ?_, trivial⟩⟩
 ·have := t.1 c hc
  rw [cell_hat] at this
  rw [addr_add_mk, Nat.zero_add]; exact this
 ·have := (t.2 i hi).1
  rw [cell_hat] at this
  rw [addr_add_mk, addr_add_mk, Nat.zero_add, Nat.add_zero, Nat.mul_comm]; exact this
 ·have := (t.2 i hi).2
  rw [cell_hat] at this
  rw [addr_add_mk, addr_add_mk, Nat.zero_add, Nat.mul_comm]; exact this

set_option maxRecDepth 100000 in
theorem lifted (os : Os) (started : os.Started) (H : Type) (enc : TypeId × Value → H) :
  ReturnsInHanded {} Tryz.checked os 5 .any (fun w args => (Rows.buildSizeSpec.pre enc Tryz.prog Tryz.f5 Rows.buildSizeRow.domain false w args ∧ laidMetH Tryz.prog Rows.buildSizeRow.laid w) ∧ sizedMet enc Tryz.prog Tryz.f5 (OpenSpec.ofChange Rows.buildSizeSpec) false w args)
   (Rows.buildSizeSpec.post enc Tryz.prog Tryz.f5 false true false false) := by
 refine law_lifted_laid (tb := 4) started (by kernel_rfl) Tryz.func5
  (ChangeSpec.witness_shaped (enc := enc) (C := Tryz.checked) (os := os) (X := fun w _ => laidMetH Tryz.prog Rows.buildSizeRow.laid w) false (World.laidAll Tryz.prog os Rows.buildSizeRow.laid) #[.agg #[.int .i64 0, .int .i32 0, .bool false, .slice Option.none 0 0, .string (ByteArray.mk #[]), .slice Option.none 0 0]] 8 (World.laidAll_os _ _ _)
   (World.shaped_of_ZipB (by kernel_rfl) (by kernel_rfl)) (by kernel_rfl) (by kernel_rfl) (by kernel_rfl)
   (by rw [MakeChecks.laidMetH_plain _ _ _ (by kernel_rfl)]; exact laidMet_laidAll _ (by kernel_rfl) (by kernel_rfl)))
  rfl (by kernel_rfl) rfl Tryz.underlying4 (fun ds hds => ?_) ?_
 ·match ds, hds with
  | [d0], _ => rfl
 intro W base args ds p hL hval hA _
 rw [Tryz.params5] at hA hval
 obtain ⟨v0, vs0, d0, ds0, p0, q0, hargs, rfl, rfl, h0, r0⟩ := trodAll_cons hA
 obtain ⟨rfl, rfl, rfl⟩ := trodAll_nil r0
 obtain rfl : args = #[v0] := by cases args; simp_all
 obtain ⟨a0, rfl, w0⟩ := open_struct Tryz.underlying27 (reads_Dat (by decide)) (B := maxLen) (.inl rfl) (hval 0 27 v0 rfl rfl) h0
 exact buildSize_c (tabs8 hL) w0

theorem over : Rows.BuildSizeSaid :=
 OpenClaim.holds_of_wide 5 Tryz.f5 rfl rfl rfl rfl rfl rfl rfl ⟨rfl, rfl, rfl, rfl, rfl⟩ rfl rfl rfl rfl rfl (by kernel_rfl) Tryz.func5 (by kernel_rfl)
  (of_decide_eq_true (by kernel_rfl)) (by unfold Func.isWrapper; first | (rw [if_pos (by decide +kernel)]; kernel_rfl) | (rw [if_neg (by decide +kernel)]; exact ⟨rfl, rfl⟩))
  (fun os started H enc _ => lifted os started H enc)
theorem proved : Rows.BuildSizeCardSaid :=
 Claim7.holds_tied_plain_at .later [] [.data, .pinned] true (true, "260eacdc949dbcf8dd2b376585e551b10b5e35c3c6f259e7d29fe38b7d106f6f") false over (fun _ h => by cases h) (by kernel_rfl) (fun _ h => by cases h) buildSize_row_tie rfl ⟨rfl, rfl⟩ (by kernel_rfl) rfl
  (fun f fn hf hfn => by
   obtain rfl : f = 5 := Option.some.inj ((show Tryz.prog.funcNamed "moraine/morainelaw17.BuildSize" = some 5 by kernel_rfl).symm.trans hf) |>.symm
   obtain rfl : fn = Tryz.f5 := (Option.some.inj (Tryz.func5.symm.trans hfn)).symm
   exact ⟨by kernel_rfl, fun j t ht => by
    rw [Tryz.params5] at ht
    have hm : t ∈ [27] := by simpa using Array.mem_of_getElem? ht
    have hall : ([27].all fun u => !Tryz.prog.wantsStandIn u) = true := by kernel_rfl
    exact (show Tryz.prog.wantsStandIn t = false by simpa using List.all_eq_true.1 hall t hm)⟩)
  (by kernel_rfl)
#print axioms proved
end Go.Proofs.YtdgejifkcfgliaaGreatDoor.buildSize
