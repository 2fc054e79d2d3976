/-
 Written by a program of mine (gen.py): for functions of this translation a predicate transformer over heaps (.pt), and the proof that it is sound for the call (.link).
-/
import Derived.Test.YtillpfaabdlaiaaDoorFnsC
set_option linter.unusedSimpArgs false
set_option linter.unusedVariables false
set_option maxHeartbeats 1000000
noncomputable section
namespace Go.Proofs.YtillpfaabdlaiaaDoor
open Go
/-! moraine/morainelaw16.begun -/
namespace morainelaw16_begun
def kk0 := Func.code Tryd.f11
def kk1 := Code.fa kk0
def kk2 := Code.fb kk0
def kk3 := Code.fa kk2
def kk4 := Code.fb kk2
def kk5 := Code.fa kk4
def kk6 := Code.fb kk4
def kk7 := Code.fa kk5
def kk8 := Code.fb kk5
def kk9 := Code.fa kk8
def kk10 := Code.fb kk8
def kk11 := Code.fa kk9
def kk12 := Code.fb kk9
def kk13 := Code.fa kk6
def kk14 := Code.fb kk6
def kk15 := Code.fa kk14
def kk16 := Code.fb kk14
def kk17 := Code.fa kk15
def kk18 := Code.fb kk15
def kk19 := Code.fa kk18
def kk20 := Code.fa kk19
def kk21 := Code.fa kk20
def kk22 := Code.fb kk20
def kk23 := Code.fa kk21
def kk24 := Code.fb kk21
def kk25 := Code.fa kk24
def kk26 := Code.fb kk24
def kk27 := Code.fa kk22
def kk28 := Code.fb kk22
def kk29 := Code.fa kk27
def kk30 := Code.fa kk16
def kk31 := Code.fb kk16
end morainelaw16_begun
def morainelaw16_begun.pt  (H : Array Obj) (R : Value → Array Obj → Prop) : Prop :=
 obj_New.C 100 H (fun v H1 => ∃ ra : Option Addr, ∃ rb : Int, v = .tuple #[.pointer ra, .int .i64 rb] ∧ 
 if rb = 0 then (
 onPtr ra (
 R (.pointer none) H1) (fun d =>
 ∀ (b : Nat) (H2 : Array Obj), b = H1.size → H2 = H1.push (.cells #[.pointer (some d), .int .u64 0, .int .u64 0, .int .u64 0, .int .u64 0, .int .u64 0, .int .u64 0, .int .u64 0, .int .u64 0, .string (ByteArray.mk #[]), .string (ByteArray.mk #[]), .string (ByteArray.mk #[]), .string (ByteArray.mk #[]), .string (ByteArray.mk #[]), .string (ByteArray.mk #[]), .string (ByteArray.mk #[]), .string (ByteArray.mk #[]), .slice none 0 0] 50) →
 ∃ (e : Int → Array Obj → Prop) (m21 : Int → Array Obj → Nat), e 0 H2 ∧ ∀ (i : Int) (H3 : Array Obj), e i H3 →
 if i < 8 then (
 ((0 : Int) ≤ i ∧ i < (8 : Int)) ∧
 (CanPuts H3 (((Addr.mk b 0 none).add 1).add (Int.toNat i * 1)) 0 1) ∧ ∀ H4 : Array Obj, H4 = hputs H3 (((Addr.mk b 0 none).add 1).add (Int.toNat i * 1)) [.int .u64 20] 0 →
 (e (IntKind.wrap .i64 (i + 1)) H4 ∧ m21 (IntKind.wrap .i64 (i + 1)) H4 < m21 i H3))
 else
 R (.pointer (some (Addr.mk b 0 none))) H3))
 else
 R (.pointer none) H1)
namespace morainelaw16_begun
set_option maxRecDepth 100000 in
theorem link  {H : Array Obj} {R : Value → Array Obj → Prop} (h : pt  H R) : C  H R := by
 refine S_enter (fn := Tryd.f11) (c := kk0) 28 Tryd.func11 (by kernel_rfl) (by kernel_rfl) (Nat.le_of_ble_eq_true (by kernel_rfl)) ?_
 intro w0 Q hQ
 unfold pt at h
 refine T_su [] ?_
 refine T_sr 0 kk1 kk2 ?_
 refine T_ne 1 [] ?_
 refine T_sr 1 kk3 kk4 ?_
 refine N_call (some 6) 4 #[vi 100] (fun _=>by kernel_rfl) h ?_; clear h
 rintro v H1 ⟨ra, rb, rfl, h⟩
 refine ⟨[(6, .tuple #[vp ra, vi rb])], pk, ?_⟩
 refine T_ne 5 [(1, vp ra), (2, vi rb)] ?_
 refine T_s kk5 kk6 ?_
 refine T_sr 2 kk7 kk8 ?_
 refine T_n 3 [(1, vp ra), (11, .bool (rb != 0))] ?_
 by_cases c1 : rb = 0
 ·rw [if_pos c1] at h
  have b2 : (rb != 0) = false := bne_eq_false_iff_eq.mpr c1
  refine N_env [(1, vp ra), (11, .bool false)] (by simp only [b2, Bool.not_true, Bool.not_false]) ?_
  clear b2
  refine T_n 1 [(1, vp ra), (11, .bool false), (12, vp ra)] ?_
  rcases ra with _ | d
  ·rw [onPtr_none] at h
   refine T_ne 2 [(1, vp none), (14, .bool true)] ?_
   refine T_t 14 kk9 kk10 ?_
   refine T_sr 3 kk11 kk12 ?_
   refine T_ne 1 [(0, vp none)] ?_
   refine S_ret (by kernel_rfl) ?_
   show At _ _ _ _ _ (Q .ret)
   exact S_done (fn := Tryd.f11) [vp none] hQ (show ResOK _ _ _ [.tmp 0] _ from .tmp (by kernel_rfl) (.nil)) h
  ·rw [onPtr_some] at h
   refine T_ne 2 [(1, vp (some d)), (14, .bool false)] ?_
   refine T_f 14 kk9 kk10 ?_
   refine T_kt ?_
   refine T_sr 4 kk13 kk14 ?_
   refine T_n 2 [(16, .agg #[vp (some d), vu 0, vu 0, vu 0, vu 0, vu 0, vu 0, vu 0, vu 0, .string (ByteArray.mk #[]), .string (ByteArray.mk #[]), .string (ByteArray.mk #[]), .string (ByteArray.mk #[]), .string (ByteArray.mk #[]), .string (ByteArray.mk #[]), .string (ByteArray.mk #[]), .string (ByteArray.mk #[]), vs none 0 0])] ?_
   refine N_new (some 17) (fun b => vp (pa b)) (.cells #[vp (some d), vu 0, vu 0, vu 0, vu 0, vu 0, vu 0, vu 0, vu 0, .string (ByteArray.mk #[]), .string (ByteArray.mk #[]), .string (ByteArray.mk #[]), .string (ByteArray.mk #[]), .string (ByteArray.mk #[]), .string (ByteArray.mk #[]), .string (ByteArray.mk #[]), .string (ByteArray.mk #[]), vs none 0 0] 50) (fun _=>by kernel_rfl) ?_
   intro b H2 e3 e4
   replace h := h b H2 e3 e4
   refine ⟨[(17, vp (pa b))], pk, ?_⟩
   refine T_ne 1 [(3, vp (pa b))] ?_
   refine T_s kk15 kk16 ?_
   refine T_sr 5 kk17 kk18 ?_
   refine T_ne 1 [(3, vp (pa b)), (4, vi 0)] ?_
   refine T_b 0 kk19 ?_
   obtain ⟨e, m21, i5, i6⟩ := h
   refine S_loop (x := kk20) (σ := Int) (fun s_ => [(3, vp (pa b)), (4, vi s_)]) (fun s_ H => e s_ H) (fun s_ H => m21 s_ H) (0 : Int) (by kernel_rfl) i5 sk ?_
   rintro i H3 i7
   have h := i6 i H3 i7
   refine T_su [(3, vp (pa b)), (4, vi i)] ?_
   refine T_s kk21 kk22 ?_
   refine T_sr 6 kk23 kk24 ?_
   refine T_ne 2 [(3, vp (pa b)), (4, vi i), (19, .bool (decide (i < 8)))] ?_
   by_cases c8 : i < 8
   ·rw [if_pos c8] at h
    have b9 : (decide (i < 8)) = true := decide_eq_true c8
    refine S_env [(3, vp (pa b)), (4, vi i), (19, .bool true)] (by simp only [b9, Bool.not_true, Bool.not_false]) ?_
    clear b9
    refine T_t 19 kk25 kk26 ?_
    refine T_kt ?_
    refine T_s kk27 kk28 ?_
    refine T_b 1 kk29 ?_
    refine T_r 8 kk29 ?_
    refine T_n 4 [(3, vp (pa b)), (4, vi i), (23, vi i), (25, vp (some ((Addr.mk b 0 none).add 1)))] ?_
    obtain ⟨q10, h⟩ := h
    refine T_v (some 26) (indexAtN 46 (vp (some ((Addr.mk b 0 none).add 1))) (vi i)) (vp (some (((Addr.mk b 0 none).add 1).add (Int.toNat i * 1)))) (fun w _ => indexArr_run (P := Tryd.prog) (t := 46) (elem := 23) (sz := 1) (n := 8) (a := ((Addr.mk b 0 none).add 1)) (k := .i64) (i := i) Tryd.underlying46 (fun _=>by kernel_rfl) q10.1 q10.2 w) [(3, vp (pa b)), (4, vi i), (26, vp (some (((Addr.mk b 0 none).add 1).add (Int.toNat i * 1))))] ?_
    obtain ⟨q12, h⟩ := h
    refine N_skipop none (storeN 23 (vp (some (((Addr.mk b 0 none).add 1).add (Int.toNat i * 1)))) (vu 20)) (fun Hz => Hz = hputs H3 (((Addr.mk b 0 none).add 1).add (Int.toNat i * 1)) [vu 20] 0) (fun _=>by kernel_rfl) (ss_store [vu 20] 1 (by kernel_rfl) (by kernel_rfl) (fun _=>by kernel_rfl) (by kernel_rfl) q12) ?_
    intro H4 e11
    replace h := h H4 e11
    refine ⟨[(3, vp (pa b)), (4, vi i)], pk, ?_⟩
    refine N_end (by kernel_rfl) ?_
    refine S_blockEnd ?_
    refine S_then ?_
    refine T_r 7 kk28 ?_
    refine T_ne 3 [(3, vp (pa b)), (4, vi (IntKind.wrap .i64 (i + 1)))] ?_
    exact S_round ((IntKind.wrap .i64 (i + 1)) : Int) sk h
   ·rw [if_neg c8] at h
    have b9 : (decide (i < 8)) = false := decide_eq_false c8
    refine S_env [(3, vp (pa b)), (4, vi i), (19, .bool false)] (by simp only [b9, Bool.not_true, Bool.not_false]) ?_
    clear b9
    refine T_f 19 kk25 kk26 ?_
    refine S_exit 0 (by kernel_rfl) ?_
    refine S_exitThen ?_
    refine S_exitThen ?_
    refine S_exitHere ?_
    refine S_then ?_
    refine T_sr 9 kk30 kk31 ?_
    refine T_ne 2 [(0, vp (pa b))] ?_
    refine S_ret (by kernel_rfl) ?_
    show At _ _ _ _ _ (Q .ret)
    exact S_done (fn := Tryd.f11) [vp (pa b)] hQ (show ResOK _ _ _ [.tmp 0] _ from .tmp (by kernel_rfl) (.nil)) h
 ·rw [if_neg c1] at h
  have b2 : (rb != 0) = true := bne_iff_ne.mpr c1
  refine N_env [(1, vp ra), (11, .bool true)] (by simp only [b2, Bool.not_true, Bool.not_false]) ?_
  clear b2
  refine T_ne 3 [(1, vp ra), (14, .bool true)] ?_
  refine T_t 14 kk9 kk10 ?_
  refine T_sr 3 kk11 kk12 ?_
  refine T_ne 1 [(0, vp none)] ?_
  refine S_ret (by kernel_rfl) ?_
  show At _ _ _ _ _ (Q .ret)
  exact S_done (fn := Tryd.f11) [vp none] hQ (show ResOK _ _ _ [.tmp 0] _ from .tmp (by kernel_rfl) (.nil)) h
end morainelaw16_begun

end Go.Proofs.YtillpfaabdlaiaaDoor
