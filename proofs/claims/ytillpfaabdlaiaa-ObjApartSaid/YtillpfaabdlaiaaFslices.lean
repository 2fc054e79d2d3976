/-
 Written by a program of mine (gen.py): for functions of this translation a predicate transformer over heaps (.pt), and the proof that it is sound for the call (.link).
-/
import Derived.Test.YtillpfaabdlaiaaFnsC
set_option linter.unusedSimpArgs false
set_option linter.unusedVariables false
set_option maxHeartbeats 1000000
noncomputable section
namespace Go.Proofs.Ytillpfaabdlaiaa
open Go
/-! slices.Repeat[[]moraine/api.Word,moraine/api.Word] -/
namespace slices_Repeat_api_Word_api_Word
def kk0 := Func.code Try.f27
def kk1 := Code.fa kk0
def kk2 := Code.fb kk0
def kk3 := Code.fa kk2
def kk4 := Code.fb kk2
def kk5 := Code.fa kk3
def kk6 := Code.fb kk3
def kk7 := Code.fa kk6
def kk8 := Code.fb kk6
def kk9 := Code.fa kk4
def kk10 := Code.fb kk4
def kk11 := Code.fa kk10
def kk12 := Code.fb kk10
def kk13 := Code.fa kk11
def kk14 := Code.fb kk11
def kk15 := Code.fa kk14
def kk16 := Code.fb kk14
def kk17 := Code.fa kk12
def kk18 := Code.fb kk12
def kk19 := Code.fa kk18
def kk20 := Code.fb kk18
def kk21 := Code.fa kk20
def kk22 := Code.fb kk20
def kk23 := Code.fa kk21
def kk24 := Code.fa kk23
def kk25 := Code.fa kk24
def kk26 := Code.fb kk24
def kk27 := Code.fa kk25
def kk28 := Code.fb kk25
def kk29 := Code.fa kk28
def kk30 := Code.fb kk28
def kk31 := Code.fa kk26
def kk32 := Code.fa kk22
def kk33 := Code.fb kk22
end slices_Repeat_api_Word_api_Word
def slices_Repeat_api_Word_api_Word.pt (xB : Option Addr) (xN : Nat) (xC : Nat) (count : Int) (H : Array Obj) (R : Value → Array Obj → Prop) : Prop :=
 if count < 0 then (
 False)
 else
 math_bits_Mul.C (IntKind.wrap .u64 (xN : Int)) (IntKind.wrap .u64 count) H (fun v H1 => ∃ ra : Int, ∃ rb : Int, v = .tuple #[.int .u64 ra, .int .u64 rb] ∧ 
 if ((decide (ra > 0)) || (decide (rb > 9223372036854775807))) = true then (
 False)
 else
 0 ≤ (IntKind.wrap .i64 rb) ∧ (IntKind.wrap .i64 rb) ≤ (IntKind.wrap .i64 rb) ∧ 8 * (IntKind.wrap .i64 rb) ≤ 2 ^ 48 ∧ (IntKind.wrap .i64 rb) ≤ 9223372036854775807 ∧
 ∀ (b : Nat) (H2 : Array Obj), b = H1.size → H2 = H1.push (.cells (Builtin.zeroCells #[.int .u64 0] (Int.toNat (IntKind.wrap .i64 rb))) 32) →
 copyK 1 (some (Addr.mk b 0 none)) (Int.toNat (IntKind.wrap .i64 rb)) xB xN H2 (fun cn H3 =>
 ∃ (i : Int → Array Obj → Prop) (m25 : Int → Array Obj → Nat), i (cn : Int) H3 ∧ ∀ (nv : Int) (H4 : Array Obj), i nv H4 →
 if nv < ((Int.toNat (IntKind.wrap .i64 rb)) : Int) then (
 ∃ (lo hi : Nat), nv = (lo : Int) ∧ hi = (Int.toNat (IntKind.wrap .i64 rb)) ∧ lo ≤ hi ∧ hi ≤ (Int.toNat (IntKind.wrap .i64 rb)) ∧
 ∀ sl : Option Addr, sl = (if (Int.toNat (IntKind.wrap .i64 rb)) = lo then (some (Addr.mk b 0 none)) else Option.map (fun a : Addr => a.add (lo * 1)) (some (Addr.mk b 0 none))) →
 ∃ (d f : Nat), d = 0 ∧ nv = (f : Int) ∧ d ≤ f ∧ f ≤ (Int.toNat (IntKind.wrap .i64 rb)) ∧
 ∀ g : Option Addr, g = (if (Int.toNat (IntKind.wrap .i64 rb)) = d then (some (Addr.mk b 0 none)) else Option.map (fun a : Addr => a.add (d * 1)) (some (Addr.mk b 0 none))) →
 copyK 1 sl (hi - lo) g (f - d) H4 (fun e H5 =>
 (i (IntKind.wrap .i64 (nv + (e : Int))) H5 ∧ m25 (IntKind.wrap .i64 (nv + (e : Int))) H5 < m25 nv H4)))
 else
 R (.slice (some (Addr.mk b 0 none)) (Int.toNat (IntKind.wrap .i64 rb)) (Int.toNat (IntKind.wrap .i64 rb))) H4))
namespace slices_Repeat_api_Word_api_Word
set_option maxRecDepth 100000 in
theorem link {xB : Option Addr} {xN : Nat} {xC : Nat} {count : Int} {H : Array Obj} {R : Value → Array Obj → Prop} (h : pt xB xN xC count H R) : C xB xN xC count H R := by
 refine S_enter (fn := Try.f27) (c := kk0) 48 Try.func27 (by kernel_rfl) (by kernel_rfl) (Nat.le_of_ble_eq_true (by kernel_rfl)) ?_
 intro w0 Q hQ
 unfold pt at h
 refine T_su [(0, vs xB xN xC), (1, vi count)] ?_
 refine T_sr 0 kk1 kk2 ?_
 refine T_ne 1 [(0, vs xB xN xC), (1, vi count)] ?_
 refine T_s kk3 kk4 ?_
 refine T_sr 1 kk5 kk6 ?_
 refine T_ne 2 [(0, vs xB xN xC), (1, vi count), (10, .bool (decide (count < 0)))] ?_
 by_cases c1 : count < 0
 ·rw [if_pos c1] at h
  have b2 : (decide (count < 0)) = true := decide_eq_true c1
  refine S_env [(0, vs xB xN xC), (1, vi count), (10, .bool true)] (by simp only [b2, Bool.not_true, Bool.not_false]) ?_
  clear b2
  refine T_t 10 kk7 kk8 ?_
  refine T_r 2 kk7 ?_
  refine T_nu [(0, vs xB xN xC), (1, vi count)] ?_
  exact h.elim
 ·rw [if_neg c1] at h
  have b2 : (decide (count < 0)) = false := decide_eq_false c1
  refine S_env [(0, vs xB xN xC), (1, vi count), (10, .bool false)] (by simp only [b2, Bool.not_true, Bool.not_false]) ?_
  clear b2
  refine T_f 10 kk7 kk8 ?_
  refine T_kt ?_
  refine T_sr 3 kk9 kk10 ?_
  refine T_n 5 [(0, vs xB xN xC), (15, vu (IntKind.wrap .u64 (xN : Int))), (17, vu (IntKind.wrap .u64 count))] ?_
  refine N_call (some 18) 48 #[vu (IntKind.wrap .u64 (xN : Int)), vu (IntKind.wrap .u64 count)] (fun _=>by kernel_rfl) h ?_; clear h
  rintro v H1 ⟨ra, rb, rfl, h⟩
  refine ⟨[(0, vs xB xN xC), (18, .tuple #[vu ra, vu rb])], pk, ?_⟩
  refine T_ne 5 [(0, vs xB xN xC), (5, vu ra), (6, vu rb)] ?_
  refine T_s kk11 kk12 ?_
  refine T_sr 4 kk13 kk14 ?_
  refine N_cut [(0, vs xB xN xC), (6, vu rb), (26, .bool ((decide (ra > 0)) || (decide (rb > 9223372036854775807))))] ?_ ?_
  ·refine S_then ?_
   by_cases c5 : ((decide (ra > 0)) || (decide (rb > 9223372036854775807))) = true
   ·rw [if_pos c5] at h
    have b6 : ((decide (ra > 0)) || (decide (rb > 9223372036854775807))) = true := c5
    refine S_env [(0, vs xB xN xC), (6, vu rb), (26, .bool true)] (by simp only [b6, Bool.not_true, Bool.not_false]) ?_
    clear b6
    refine T_t 26 kk15 kk16 ?_
    refine T_r 5 kk15 ?_
    refine T_nu [(0, vs xB xN xC), (6, vu rb)] ?_
    exact h.elim
   ·rw [if_neg c5] at h
    have b6 : ((decide (ra > 0)) || (decide (rb > 9223372036854775807))) = false := eq_false_of_ne_true c5
    refine S_env [(0, vs xB xN xC), (6, vu rb), (26, .bool false)] (by simp only [b6, Bool.not_true, Bool.not_false]) ?_
    clear b6
    refine T_f 26 kk15 kk16 ?_
    refine T_kt ?_
    refine T_sr 6 kk17 kk18 ?_
    refine T_n 2 [(0, vs xB xN xC), (29, vi (IntKind.wrap .i64 rb))] ?_
    obtain ⟨q7, q8, q9, q10, h⟩ := h
    refine N_op (some 30) (makeSliceN 29 (vi (IntKind.wrap .i64 rb)) (vi (IntKind.wrap .i64 rb))) (fun v Hz => v = Value.slice (some (Addr.mk H1.size 0 none)) (Int.toNat (IntKind.wrap .i64 rb)) (Int.toNat (IntKind.wrap .i64 rb)) ∧ Hz = H1.push (.cells (Builtin.zeroCells #[vu 0] (Int.toNat (IntKind.wrap .i64 rb))) 32)) (fun _=>by kernel_rfl) (ss_make (T := 32) (zero := vu 0) Try.underlying29 (show Try.prog.info? 32 = some Try.t32 from by kernel_rfl) (by kernel_rfl) q7 q8 q9 q10 (by kernel_rfl) (by decide)) ?_
    rintro _ H2 ⟨rfl, e12⟩
    obtain ⟨b, e11⟩ : ∃ b, b = H1.size := ⟨_, rfl⟩
    replace h := h b H2 e11 e12
    rw [← e11]
    refine ⟨[(0, vs xB xN xC), (30, vs (pa b) (Int.toNat (IntKind.wrap .i64 rb)) (Int.toNat (IntKind.wrap .i64 rb)))], pk, ?_⟩
    refine T_ne 1 [(0, vs xB xN xC), (7, vs (pa b) (Int.toNat (IntKind.wrap .i64 rb)) (Int.toNat (IntKind.wrap .i64 rb)))] ?_
    refine T_sr 7 kk19 kk20 ?_
    refine T_n 2 [(7, vs (pa b) (Int.toNat (IntKind.wrap .i64 rb)) (Int.toNat (IntKind.wrap .i64 rb))), (31, vs (pa b) (Int.toNat (IntKind.wrap .i64 rb)) (Int.toNat (IntKind.wrap .i64 rb))), (32, vs xB xN xC)] ?_
    refine N_op (some 33) (copyN #[29, 29] 3 #[vs (pa b) (Int.toNat (IntKind.wrap .i64 rb)) (Int.toNat (IntKind.wrap .i64 rb)), vs xB xN xC]) _ (fun _=>by kernel_rfl) (ss_copy (T := 32) (sz := 1) Try.underlying29 (fun _=>by kernel_rfl) h) ?_; clear h
    rintro _ H3 ⟨cn, rfl, h⟩
    refine ⟨[(7, vs (pa b) (Int.toNat (IntKind.wrap .i64 rb)) (Int.toNat (IntKind.wrap .i64 rb))), (33, vi cn)], pk, ?_⟩
    refine T_ne 1 [(7, vs (pa b) (Int.toNat (IntKind.wrap .i64 rb)) (Int.toNat (IntKind.wrap .i64 rb))), (8, vi cn)] ?_
    refine T_s kk21 kk22 ?_
    refine T_b 0 kk23 ?_
    obtain ⟨i, m25, i13, i14⟩ := h
    refine S_loop (x := kk24) (σ := Int) (fun s_ => [(7, vs (pa b) (Int.toNat (IntKind.wrap .i64 rb)) (Int.toNat (IntKind.wrap .i64 rb))), (8, vi s_)]) (fun s_ H => i s_ H) (fun s_ H => m25 s_ H) ((cn : Int) : Int) (by kernel_rfl) i13 sk ?_
    rintro nv H4 i15
    have h := i14 nv H4 i15
    refine T_su [(7, vs (pa b) (Int.toNat (IntKind.wrap .i64 rb)) (Int.toNat (IntKind.wrap .i64 rb))), (8, vi nv)] ?_
    refine T_s kk25 kk26 ?_
    refine T_sr 8 kk27 kk28 ?_
    refine T_ne 4 [(7, vs (pa b) (Int.toNat (IntKind.wrap .i64 rb)) (Int.toNat (IntKind.wrap .i64 rb))), (8, vi nv), (37, .bool (decide (nv < ((Int.toNat (IntKind.wrap .i64 rb)) : Int))))] ?_
    by_cases c16 : nv < ((Int.toNat (IntKind.wrap .i64 rb)) : Int)
    ·rw [if_pos c16] at h
     have b17 : (decide (nv < ((Int.toNat (IntKind.wrap .i64 rb)) : Int))) = true := decide_eq_true c16
     refine S_env [(7, vs (pa b) (Int.toNat (IntKind.wrap .i64 rb)) (Int.toNat (IntKind.wrap .i64 rb))), (8, vi nv), (37, .bool true)] (by simp only [b17, Bool.not_true, Bool.not_false]) ?_
     clear b17
     refine T_t 37 kk29 kk30 ?_
     refine T_kt ?_
     refine T_b 1 kk31 ?_
     obtain ⟨lo, hi, q18, q19, q20, q21, h⟩ := h
     obtain ⟨sl, e22⟩ : ∃ B, B = (if (Int.toNat (IntKind.wrap .i64 rb)) = lo then (pa b) else Option.map (fun a : Addr => a.add (lo * 1)) (pa b)) := ⟨_, rfl⟩
     replace h := h sl e22
     obtain ⟨d, f, q23, q24, q25, q26, h⟩ := h
     obtain ⟨g, e27⟩ : ∃ B, B = (if (Int.toNat (IntKind.wrap .i64 rb)) = d then (pa b) else Option.map (fun a : Addr => a.add (d * 1)) (pa b)) := ⟨_, rfl⟩
     replace h := h g e27
     refine S_regionG 9 (Code.ops kk31) [] 10 #[false, false, false, false, false, false, false, false, false, false] (by kernel_rfl) (by kernel_rfl) (by kernel_rfl) (by kernel_rfl) (by kernel_rfl) (show FactsAt _ _ _ from trivial) ?_
     refine T_gp 0 (some 38) (vi nv) #[true, false, false, false, false, false, false, false, false, false] [(7, vs (pa b) (Int.toNat (IntKind.wrap .i64 rb)) (Int.toNat (IntKind.wrap .i64 rb))), (8, vi nv), (38, vi nv)] ?_
     refine T_gp 1 (some 39) (vs (pa b) (Int.toNat (IntKind.wrap .i64 rb)) (Int.toNat (IntKind.wrap .i64 rb))) #[true, true, false, false, false, false, false, false, false, false] [(7, vs (pa b) (Int.toNat (IntKind.wrap .i64 rb)) (Int.toNat (IntKind.wrap .i64 rb))), (8, vi nv), (38, vi nv), (39, vs (pa b) (Int.toNat (IntKind.wrap .i64 rb)) (Int.toNat (IntKind.wrap .i64 rb)))] ?_
     refine T_gp 2 (some 40) (vi nv) #[true, true, true, false, false, false, false, false, false, false] [(7, vs (pa b) (Int.toNat (IntKind.wrap .i64 rb)) (Int.toNat (IntKind.wrap .i64 rb))), (8, vi nv), (38, vi nv), (39, vs (pa b) (Int.toNat (IntKind.wrap .i64 rb)) (Int.toNat (IntKind.wrap .i64 rb))), (40, vi nv)] ?_
     refine T_g 3 (some 41) (vs sl (hi - lo) ((Int.toNat (IntKind.wrap .i64 rb)) - lo)) #[true, true, true, true, false, false, false, false, false, false] [(7, vs (pa b) (Int.toNat (IntKind.wrap .i64 rb)) (Int.toNat (IntKind.wrap .i64 rb))), (8, vi nv), (38, vi nv), (41, vs sl (hi - lo) ((Int.toNat (IntKind.wrap .i64 rb)) - lo))] (sliceN 29 (vs (pa b) (Int.toNat (IntKind.wrap .i64 rb)) (Int.toNat (IntKind.wrap .i64 rb))) (some (vi nv)) none none) (fun _ w _ _ _ => (slice_run (P := Try.prog) (t := 29) (elem := 32) (sz := 1) (a := (pa b)) (len := (Int.toNat (IntKind.wrap .i64 rb))) (cap := (Int.toNat (IntKind.wrap .i64 rb))) (some (vi nv)) none lo hi Try.underlying29 (fun _=>by kernel_rfl) (.inr ⟨.i64, by rw [q18]⟩) (.inl ⟨rfl, q19⟩) q20 q21 w).trans (by rw [e22]; try rfl)) ?_
     refine T_gp 4 (some 42) (vs (pa b) (Int.toNat (IntKind.wrap .i64 rb)) (Int.toNat (IntKind.wrap .i64 rb))) #[true, true, true, true, true, false, false, false, false, false] [(7, vs (pa b) (Int.toNat (IntKind.wrap .i64 rb)) (Int.toNat (IntKind.wrap .i64 rb))), (8, vi nv), (38, vi nv), (41, vs sl (hi - lo) ((Int.toNat (IntKind.wrap .i64 rb)) - lo)), (42, vs (pa b) (Int.toNat (IntKind.wrap .i64 rb)) (Int.toNat (IntKind.wrap .i64 rb)))] ?_
     refine T_gp 5 (some 43) (vi nv) #[true, true, true, true, true, true, false, false, false, false] [(7, vs (pa b) (Int.toNat (IntKind.wrap .i64 rb)) (Int.toNat (IntKind.wrap .i64 rb))), (8, vi nv), (38, vi nv), (41, vs sl (hi - lo) ((Int.toNat (IntKind.wrap .i64 rb)) - lo)), (42, vs (pa b) (Int.toNat (IntKind.wrap .i64 rb)) (Int.toNat (IntKind.wrap .i64 rb))), (43, vi nv)] ?_
     refine T_g 6 (some 44) (vs g (f - d) ((Int.toNat (IntKind.wrap .i64 rb)) - d)) #[true, true, true, true, true, true, true, false, false, false] [(7, vs (pa b) (Int.toNat (IntKind.wrap .i64 rb)) (Int.toNat (IntKind.wrap .i64 rb))), (8, vi nv), (38, vi nv), (41, vs sl (hi - lo) ((Int.toNat (IntKind.wrap .i64 rb)) - lo)), (44, vs g (f - d) ((Int.toNat (IntKind.wrap .i64 rb)) - d))] (sliceN 29 (vs (pa b) (Int.toNat (IntKind.wrap .i64 rb)) (Int.toNat (IntKind.wrap .i64 rb))) none (some (vi nv)) none) (fun _ w _ _ _ => (slice_run (P := Try.prog) (t := 29) (elem := 32) (sz := 1) (a := (pa b)) (len := (Int.toNat (IntKind.wrap .i64 rb))) (cap := (Int.toNat (IntKind.wrap .i64 rb))) none (some (vi nv)) d f Try.underlying29 (fun _=>by kernel_rfl) (.inl ⟨rfl, q23⟩) (.inr ⟨.i64, by rw [q24]⟩) q25 q26 w).trans (by rw [e27]; try rfl)) ?_
     refine G_only 7 (some 45) #[true, true, true, true, true, true, true, true, false, false] (copyN #[29, 29] 3 #[vs sl (hi - lo) ((Int.toNat (IntKind.wrap .i64 rb)) - lo), vs g (f - d) ((Int.toNat (IntKind.wrap .i64 rb)) - d)]) _ (by kernel_rfl) (fun _=>by kernel_rfl) (ss_copy (T := 32) (sz := 1) Try.underlying29 (fun _=>by kernel_rfl) h) (by kernel_rfl) ?_; clear h
     rintro _ H5 ⟨e, rfl, h⟩
     refine ⟨[(7, vs (pa b) (Int.toNat (IntKind.wrap .i64 rb)) (Int.toNat (IntKind.wrap .i64 rb))), (8, vi nv), (38, vi nv), (45, vi e)], pk, (show FactsAt _ _ _ from trivial), ?_⟩
     refine T_g 8 (some 46) (vi (IntKind.wrap .i64 (nv + (e : Int)))) #[true, true, true, true, true, true, true, true, true, false] [(7, vs (pa b) (Int.toNat (IntKind.wrap .i64 rb)) (Int.toNat (IntKind.wrap .i64 rb))), (8, vi nv), (46, vi (IntKind.wrap .i64 (nv + (e : Int))))] (pure (.value (vi (IntKind.wrap .i64 (nv + (e : Int))))) : Sem Next) (fun _ _ _ _ _ => rfl) ?_
     refine T_g 9 (some 8) (vi (IntKind.wrap .i64 (nv + (e : Int)))) #[true, true, true, true, true, true, true, true, true, true] [(7, vs (pa b) (Int.toNat (IntKind.wrap .i64 rb)) (Int.toNat (IntKind.wrap .i64 rb))), (8, vi (IntKind.wrap .i64 (nv + (e : Int))))] (pure (.value (vi (IntKind.wrap .i64 (nv + (e : Int))))) : Sem Next) (fun _ _ _ _ _ => rfl) ?_
     refine G_sub [(7, vs (pa b) (Int.toNat (IntKind.wrap .i64 rb)) (Int.toNat (IntKind.wrap .i64 rb))), (8, vi (IntKind.wrap .i64 (nv + (e : Int))))] sk ?_
     refine G_end (by kernel_rfl) ?_
     refine S_blockEnd ?_
     refine S_then ?_
     exact S_round ((IntKind.wrap .i64 (nv + (e : Int))) : Int) sk h
    ·rw [if_neg c16] at h
     have b17 : (decide (nv < ((Int.toNat (IntKind.wrap .i64 rb)) : Int))) = false := decide_eq_false c16
     refine S_env [(7, vs (pa b) (Int.toNat (IntKind.wrap .i64 rb)) (Int.toNat (IntKind.wrap .i64 rb))), (8, vi nv), (37, .bool false)] (by simp only [b17, Bool.not_true, Bool.not_false]) ?_
     clear b17
     refine T_f 37 kk29 kk30 ?_
     refine S_exit 0 (by kernel_rfl) ?_
     refine S_exitThen ?_
     refine S_exitThen ?_
     refine S_exitHere ?_
     refine S_then ?_
     refine T_sr 10 kk32 kk33 ?_
     refine T_ne 2 [(4, vs (pa b) (Int.toNat (IntKind.wrap .i64 rb)) (Int.toNat (IntKind.wrap .i64 rb)))] ?_
     refine S_ret (by kernel_rfl) ?_
     show At _ _ _ _ _ (Q .ret)
     exact S_done (fn := Try.f27) [vs (pa b) (Int.toNat (IntKind.wrap .i64 rb)) (Int.toNat (IntKind.wrap .i64 rb))] hQ (show ResOK _ _ _ [.tmp 4] _ from .tmp (by kernel_rfl) (.nil)) h
  ·intro hk
   refine T_n 3 [(0, vs xB xN xC), (6, vu rb), (23, .bool (decide (ra > 0)))] ?_
   by_cases c3 : ra > 0
   ·have b4 : (decide (ra > 0)) = true := decide_eq_true c3
    refine N_env [(0, vs xB xN xC), (6, vu rb), (23, .bool true)] (by simp only [b4, Bool.not_true, Bool.not_false]) ?_
    refine T_n 3 [(0, vs xB xN xC), (6, vu rb), (26, .bool true)] ?_
    refine N_end (by kernel_rfl) ?_
    refine S_env [(0, vs xB xN xC), (6, vu rb), (26, .bool ((decide (ra > 0)) || (decide (rb > 9223372036854775807))))] (by simp only [b4, Bool.true_or, Bool.false_or, Bool.or_true, Bool.or_false, Bool.true_and, Bool.false_and, Bool.and_true, Bool.and_false, Bool.not_true, Bool.not_false, cond_true, cond_false]) ?_
    exact hk
   ·have b4 : (decide (ra > 0)) = false := decide_eq_false c3
    refine N_env [(0, vs xB xN xC), (6, vu rb), (23, .bool false)] (by simp only [b4, Bool.not_true, Bool.not_false]) ?_
    refine T_n 3 [(0, vs xB xN xC), (6, vu rb), (26, .bool (decide (rb > 9223372036854775807)))] ?_
    refine N_end (by kernel_rfl) ?_
    refine S_env [(0, vs xB xN xC), (6, vu rb), (26, .bool ((decide (ra > 0)) || (decide (rb > 9223372036854775807))))] (by simp only [b4, Bool.true_or, Bool.false_or, Bool.or_true, Bool.or_false, Bool.true_and, Bool.false_and, Bool.and_true, Bool.and_false, Bool.not_true, Bool.not_false, cond_true, cond_false]) ?_
    exact hk
end slices_Repeat_api_Word_api_Word

/-! slices.Contains[[]int,int] -/
namespace slices_Contains_int_int
def kk0 := Func.code Try.f57
def kk1 := Code.fa kk0
def kk2 := Code.fb kk0
def kk3 := Code.fa kk2
def kk4 := Code.fb kk2
end slices_Contains_int_int
def slices_Contains_int_int.pt (sB : Option Addr) (sN : Nat) (sC : Nat) (v : Int) (H : Array Obj) (R : Value → Array Obj → Prop) : Prop :=
 slices_Index_int_int.C sB sN sC v H (fun a H1 => ∃ x : Int, a = .int .i64 x ∧ 
 R (.bool (decide (x ≥ 0))) H1)
namespace slices_Contains_int_int
set_option maxRecDepth 100000 in
theorem link {sB : Option Addr} {sN : Nat} {sC : Nat} {v : Int} {H : Array Obj} {R : Value → Array Obj → Prop} (h : pt sB sN sC v H R) : C sB sN sC v H R := by
 refine S_enter (fn := Try.f57) (c := kk0) 9 Try.func57 (by kernel_rfl) (by kernel_rfl) (Nat.le_of_ble_eq_true (by kernel_rfl)) ?_
 intro w0 Q hQ
 unfold pt at h
 refine T_su [(0, vs sB sN sC), (1, vi v)] ?_
 refine T_sr 0 kk1 kk2 ?_
 refine T_ne 1 [(0, vs sB sN sC), (1, vi v)] ?_
 refine T_sr 1 kk3 kk4 ?_
 refine T_n 2 [(5, vs sB sN sC), (6, vi v)] ?_
 refine N_call (some 7) 72 #[vs sB sN sC, vi v] (fun _=>by kernel_rfl) h ?_; clear h
 rintro a H1 ⟨x, rfl, h⟩
 refine ⟨[(7, vi x)], pk, ?_⟩
 refine T_ne 2 [(4, .bool (decide (x ≥ 0)))] ?_
 refine S_ret (by kernel_rfl) ?_
 show At _ _ _ _ _ (Q .ret)
 exact S_done (fn := Try.f57) [.bool (decide (x ≥ 0))] hQ (show ResOK _ _ _ [.tmp 4] _ from .tmp (by kernel_rfl) (.nil)) h
end slices_Contains_int_int

/-! slices.Clone[[]uint32,uint32] -/
namespace slices_Clone_uint32_uint32
def kk0 := Func.code Try.f69
def kk1 := Code.fa kk0
def kk2 := Code.fb kk0
def kk3 := Code.fa kk2
def kk4 := Code.fb kk2
def kk5 := Code.fa kk3
def kk6 := Code.fb kk3
def kk7 := Code.fa kk6
def kk8 := Code.fb kk6
def kk9 := Code.fa kk7
def kk10 := Code.fb kk7
def kk11 := Code.fa kk4
def kk12 := Code.fb kk4
end slices_Clone_uint32_uint32
def slices_Clone_uint32_uint32.pt (sB : Option Addr) (sN : Nat) (sC : Nat) (H : Array Obj) (R : Value → Array Obj → Prop) : Prop :=
 onPtr sB (
 R (.slice none 0 0) H) (fun a =>
 ∀ (b : Nat) (H1 : Array Obj), b = H.size → H1 = H.push (.cells #[] 77) →
 appendK 1 77 4 [.int .u32 0] (some (Addr.mk b 0 none)) 0 0 (some a) sN H1 (fun ap d H2 =>
 R (.slice ap (0 + sN) d) H2))
namespace slices_Clone_uint32_uint32
set_option maxRecDepth 100000 in
theorem link {sB : Option Addr} {sN : Nat} {sC : Nat} {H : Array Obj} {R : Value → Array Obj → Prop} (h : pt sB sN sC H R) : C sB sN sC H R := by
 refine S_enter (fn := Try.f69) (c := kk0) 8 Try.func69 (by kernel_rfl) (by kernel_rfl) (Nat.le_of_ble_eq_true (by kernel_rfl)) ?_
 intro w0 Q hQ
 unfold pt at h
 refine T_su [(0, vs sB sN sC)] ?_
 refine T_sr 0 kk1 kk2 ?_
 refine T_ne 1 [(0, vs sB sN sC)] ?_
 refine T_s kk3 kk4 ?_
 refine T_sr 1 kk5 kk6 ?_
 refine T_n 1 [(0, vs sB sN sC), (3, vs sB sN sC)] ?_
 rcases sB with _ | a
 ·rw [onPtr_none] at h
  refine T_ne 1 [(0, vs none sN sC), (4, .bool true)] ?_
  refine T_t 4 kk7 kk8 ?_
  refine T_sr 2 kk9 kk10 ?_
  refine T_ne 1 [(2, vs none 0 0)] ?_
  refine S_ret (by kernel_rfl) ?_
  show At _ _ _ _ _ (Q .ret)
  exact S_done (fn := Try.f69) [vs none 0 0] hQ (show ResOK _ _ _ [.tmp 2] _ from .tmp (by kernel_rfl) (.nil)) h
 ·rw [onPtr_some] at h
  refine T_ne 1 [(0, vs (some a) sN sC), (4, .bool false)] ?_
  refine T_f 4 kk7 kk8 ?_
  refine T_kt ?_
  refine T_sr 3 kk11 kk12 ?_
  refine T_nu [(0, vs (some a) sN sC)] ?_
  refine N_new (some 5) (fun b => vs (pa b) 0 0) (.cells #[] 77) (fun _=>by kernel_rfl) ?_
  intro b H1 e1 e2
  replace h := h b H1 e1 e2
  refine ⟨[(0, vs (some a) sN sC), (5, vs (pa b) 0 0)], pk, ?_⟩
  refine T_n 1 [(5, vs (pa b) 0 0), (6, vs (some a) sN sC)] ?_
  refine N_op (some 7) (appendN #[36, 36] 36 #[vs (pa b) 0 0, vs (some a) sN sC]) _ (fun _=>by kernel_rfl) (ss_append (T := 77) (sz := 1) (bytes := 4) (zero := (.int .u32 0 : Value)) Try.underlying36 Try.underlying36 rfl (show Try.prog.info? 77 = some Try.t77 from by kernel_rfl) (by kernel_rfl) (by kernel_rfl) (by decide) (by kernel_rfl) (by first | exact h | (simpa only [Value.cells, List.toList_toArray] using h))) ?_; clear h
  rintro _ H2 ⟨ap, d, rfl, h⟩
  refine ⟨[(7, vs ap (0 + sN) d)], pk, ?_⟩
  refine T_ne 1 [(2, vs ap (0 + sN) d)] ?_
  refine S_ret (by kernel_rfl) ?_
  show At _ _ _ _ _ (Q .ret)
  exact S_done (fn := Try.f69) [vs ap (0 + sN) d] hQ (show ResOK _ _ _ [.tmp 2] _ from .tmp (by kernel_rfl) (.nil)) h
end slices_Clone_uint32_uint32

/-! slices.Index[[]int,int] -/
namespace slices_Index_int_int
def kk0 := Func.code Try.f72
def kk1 := Code.fa kk0
def kk2 := Code.fb kk0
def kk3 := Code.fa kk2
def kk4 := Code.fb kk2
def kk5 := Code.fa kk3
def kk6 := Code.fb kk3
def kk7 := Code.fa kk6
def kk8 := Code.fa kk7
def kk9 := Code.fa kk8
def kk10 := Code.fb kk8
def kk11 := Code.fa kk10
def kk12 := Code.fb kk10
def kk13 := Code.fa kk11
def kk14 := Code.fb kk11
def kk15 := Code.fa kk12
def kk16 := Code.fb kk12
def kk17 := Code.fa kk15
def kk18 := Code.fa kk17
def kk19 := Code.fb kk17
def kk20 := Code.fa kk19
def kk21 := Code.fb kk19
def kk22 := Code.fa kk21
def kk23 := Code.fb kk21
def kk24 := Code.fa kk22
def kk25 := Code.fb kk22
def kk26 := Code.fa kk4
def kk27 := Code.fb kk4
end slices_Index_int_int
def slices_Index_int_int.pt (sB : Option Addr) (sN : Nat) (sC : Nat) (v : Int) (H : Array Obj) (R : Value → Array Obj → Prop) : Prop :=
 ∃ (I9 : Int → Array Obj → Prop) (m9 : Int → Array Obj → Nat), I9 0 H ∧ ∀ (s8 : Int) (H1 : Array Obj), I9 s8 H1 →
 if s8 < (sN : Int) then (
 ∃ b : Addr, sB = some b ∧
 ((0 : Int) ≤ s8 ∧ s8 < (sN : Int)) ∧
 ∃ x : Int, hat H1 (b.add (Int.toNat s8 * 1)) = some (.int .i64 x) ∧
 if v = x then (
 R (.int .i64 s8) H1)
 else
 (I9 (IntKind.wrap .i64 (s8 + 1)) H1 ∧ m9 (IntKind.wrap .i64 (s8 + 1)) H1 < m9 s8 H1))
 else
 R (.int .i64 (-1)) H1
namespace slices_Index_int_int
set_option maxRecDepth 100000 in
theorem link {sB : Option Addr} {sN : Nat} {sC : Nat} {v : Int} {H : Array Obj} {R : Value → Array Obj → Prop} (h : pt sB sN sC v H R) : C sB sN sC v H R := by
 refine S_enter (fn := Try.f72) (c := kk0) 19 Try.func72 (by kernel_rfl) (by kernel_rfl) (Nat.le_of_ble_eq_true (by kernel_rfl)) ?_
 intro w0 Q hQ
 unfold pt at h
 refine T_su [(0, vs sB sN sC), (1, vi v)] ?_
 refine T_sr 0 kk1 kk2 ?_
 refine T_ne 1 [(0, vs sB sN sC), (1, vi v)] ?_
 refine T_s kk3 kk4 ?_
 refine T_sr 1 kk5 kk6 ?_
 refine T_ne 3 [(0, vs sB sN sC), (1, vi v), (7, vi sN), (8, vi 0)] ?_
 refine T_b 0 kk7 ?_
 obtain ⟨I9, m9, i1, i2⟩ := h
 refine S_loop (x := kk8) (σ := Int) (fun s_ => [(0, vs sB sN sC), (1, vi v), (7, vi sN), (8, vi s_)]) (fun s_ H => I9 s_ H) (fun s_ H => m9 s_ H) (0 : Int) (by kernel_rfl) i1 sk ?_
 rintro s8 H1 i3
 have h := i2 s8 H1 i3
 refine T_su [(0, vs sB sN sC), (1, vi v), (7, vi sN), (8, vi s8)] ?_
 refine T_sr 2 kk9 kk10 ?_
 refine T_ne 1 [(0, vs sB sN sC), (1, vi v), (7, vi sN), (8, vi s8), (9, .bool (decide (s8 < (sN : Int))))] ?_
 refine T_s kk11 kk12 ?_
 by_cases c4 : s8 < (sN : Int)
 ·rw [if_pos c4] at h
  have b5 : (decide (s8 < (sN : Int))) = true := decide_eq_true c4
  refine S_env [(0, vs sB sN sC), (1, vi v), (7, vi sN), (8, vi s8), (9, .bool true)] (by simp only [b5, Bool.not_true, Bool.not_false]) ?_
  clear b5
  refine T_t 9 kk13 kk14 ?_
  refine T_kt ?_
  refine T_s kk15 kk16 ?_
  refine T_b 1 kk17 ?_
  refine T_sr 3 kk18 kk19 ?_
  refine T_ne 2 [(0, vs sB sN sC), (1, vi v), (5, vi s8), (7, vi sN), (8, vi s8)] ?_
  refine T_sr 4 kk20 kk21 ?_
  refine T_n 3 [(0, vs sB sN sC), (1, vi v), (5, vi s8), (7, vi sN), (8, vi s8), (11, vi v), (12, vs sB sN sC), (13, vi s8)] ?_
  obtain ⟨b, rfl, h⟩ := h
  obtain ⟨q6, h⟩ := h
  refine T_ix (some 14) 90 3 1 b sN sC .i64 s8 Try.underlying90 q6.1 q6.2 [(0, vs (some b) sN sC), (1, vi v), (5, vi s8), (7, vi sN), (8, vi s8), (11, vi v), (14, vp (some (b.add (Int.toNat s8 * 1))))] ?_
  obtain ⟨x, q7, h⟩ := h
  refine T_l (some 15) 3 q7 [(0, vs (some b) sN sC), (1, vi v), (5, vi s8), (7, vi sN), (8, vi s8), (11, vi v), (15, vi x)] ?_
  refine T_ne 1 [(0, vs (some b) sN sC), (1, vi v), (5, vi s8), (7, vi sN), (8, vi s8), (16, .bool (v == x))] ?_
  by_cases c8 : v = x
  ·rw [if_pos c8] at h
   have b9 : (v == x) = true := beq_iff_eq.mpr c8
   refine S_env [(0, vs (some b) sN sC), (1, vi v), (5, vi s8), (7, vi sN), (8, vi s8), (16, .bool true)] (by simp only [b9, Bool.not_true, Bool.not_false]) ?_
   clear b9
   refine T_t 16 kk22 kk23 ?_
   refine T_sr 5 kk24 kk25 ?_
   refine T_ne 2 [(4, vi s8)] ?_
   refine S_ret (by kernel_rfl) ?_
   show At _ _ _ _ _ (Q .ret)
   exact S_done (fn := Try.f72) [vi s8] hQ (show ResOK _ _ _ [.tmp 4] _ from .tmp (by kernel_rfl) (.nil)) h
  ·rw [if_neg c8] at h
   have b9 : (v == x) = false := beq_eq_false_iff_ne.mpr c8
   refine S_env [(0, vs (some b) sN sC), (1, vi v), (5, vi s8), (7, vi sN), (8, vi s8), (16, .bool false)] (by simp only [b9, Bool.not_true, Bool.not_false]) ?_
   clear b9
   refine T_f 16 kk22 kk23 ?_
   refine T_k ?_
   refine S_blockEnd ?_
   refine S_then ?_
   refine T_r 6 kk16 ?_
   refine T_ne 2 [(0, vs (some b) sN sC), (1, vi v), (7, vi sN), (8, vi (IntKind.wrap .i64 (s8 + 1)))] ?_
   exact S_round ((IntKind.wrap .i64 (s8 + 1)) : Int) sk h
 ·rw [if_neg c4] at h
  have b5 : (decide (s8 < (sN : Int))) = false := decide_eq_false c4
  refine S_env [(0, vs sB sN sC), (1, vi v), (7, vi sN), (8, vi s8), (9, .bool false)] (by simp only [b5, Bool.not_true, Bool.not_false]) ?_
  clear b5
  refine T_f 9 kk13 kk14 ?_
  refine S_exit 0 (by kernel_rfl) ?_
  refine S_exitThen ?_
  refine S_exitThen ?_
  refine S_exitHere ?_
  refine S_then ?_
  refine T_sr 7 kk26 kk27 ?_
  refine T_ne 1 [(4, vi (-1))] ?_
  refine S_ret (by kernel_rfl) ?_
  show At _ _ _ _ _ (Q .ret)
  exact S_done (fn := Try.f72) [vi (-1)] hQ (show ResOK _ _ _ [.tmp 4] _ from .tmp (by kernel_rfl) (.nil)) h
end slices_Index_int_int

end Go.Proofs.Ytillpfaabdlaiaa
