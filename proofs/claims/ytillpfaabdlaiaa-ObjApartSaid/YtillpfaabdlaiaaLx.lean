/-
 Written by a program of mine (gen.py): for functions of this translation a predicate transformer over heaps (.pt), and the proof that it is sound for the call (.link).
-/
import Derived.Test.YtillpfaabdlaiaaFnsC
set_option linter.unusedSimpArgs false
set_option linter.unusedVariables false
set_option maxHeartbeats 1000000
noncomputable section
namespace Go.Proofs.Ytillpfaabdlaiaa
open Go
/-! moraine/morainelaw10.many -/
namespace morainelaw10_many
def kk0 := Func.code Try.f5
def kk1 := Code.fa kk0
def kk2 := Code.fb kk0
def kk3 := Code.fa kk2
def kk4 := Code.fb kk2
def kk5 := Code.fa kk3
def kk6 := Code.fb kk3
def kk7 := Code.fa kk6
def kk8 := Code.fb kk6
def kk9 := Code.fa kk7
def kk10 := Code.fb kk7
def kk11 := Code.fa kk4
def kk12 := Code.fb kk4
def kk13 := Code.fa kk11
def kk14 := Code.fb kk11
def kk15 := Code.fa kk14
def kk16 := Code.fa kk15
def kk17 := Code.fa kk16
def kk18 := Code.fb kk16
def kk19 := Code.fa kk17
def kk20 := Code.fb kk17
def kk21 := Code.fa kk20
def kk22 := Code.fb kk20
def kk23 := Code.fa kk18
def kk24 := Code.fb kk18
def kk25 := Code.fa kk23
def kk26 := Code.fa kk25
def kk27 := Code.fb kk25
def kk28 := Code.fa kk27
def kk29 := Code.fb kk27
def kk30 := Code.fa kk28
def kk31 := Code.fb kk28
def kk32 := Code.fa kk12
def kk33 := Code.fb kk12
end morainelaw10_many
def morainelaw10_many.pt (lB : Option Addr) (lN : Nat) (lC : Nat) (H : Array Obj) (R : Value → Array Obj → Prop) : Prop :=
 if (lN : Int) > 200 then (
 R (.bool true) H)
 else
 ∃ (g : Int → Array Obj → Prop) (m17 : Int → Array Obj → Nat), g 0 H ∧ ∀ (i : Int) (H1 : Array Obj), g i H1 →
 if i < (lN : Int) then (
 ∃ b : Addr, lB = some b ∧
 ((0 : Int) ≤ i ∧ i < (lN : Int)) ∧
 ∃ xB : Option Addr, ∃ xN : Nat, ∃ xC : Nat, hat H1 ((b.add (Int.toNat i * 12)).add 8) = some (.slice xB xN xC) ∧
 if (xN : Int) > 200 then (
 R (.bool true) H1)
 else
 ((0 : Int) ≤ i ∧ i < (lN : Int)) ∧
 ∃ x : ByteArray, hat H1 ((b.add (Int.toNat i * 12)).add 9) = some (.string x) ∧
 if (x.size : Int) > 1000 then (
 R (.bool true) H1)
 else
 ((0 : Int) ≤ i ∧ i < (lN : Int)) ∧
 ∃ e : Option Addr, ∃ d : Nat, ∃ f : Nat, hat H1 (((b.add (Int.toNat i * 12)).add 10).add 1) = some (.slice e d f) ∧
 if (d : Int) > 60 then (
 R (.bool true) H1)
 else
 (g (IntKind.wrap .i64 (i + 1)) H1 ∧ m17 (IntKind.wrap .i64 (i + 1)) H1 < m17 i H1))
 else
 R (.bool false) H1
namespace morainelaw10_many
set_option maxRecDepth 100000 in
theorem link {lB : Option Addr} {lN : Nat} {lC : Nat} {H : Array Obj} {R : Value → Array Obj → Prop} (h : pt lB lN lC H R) : C lB lN lC H R := by
 refine S_enter (fn := Try.f5) (c := kk0) 39 Try.func5 (by kernel_rfl) (by kernel_rfl) (Nat.le_of_ble_eq_true (by kernel_rfl)) ?_
 intro w0 Q hQ
 unfold pt at h
 refine T_su [(0, vs lB lN lC)] ?_
 refine T_sr 0 kk1 kk2 ?_
 refine T_ne 1 [(0, vs lB lN lC)] ?_
 refine T_s kk3 kk4 ?_
 refine T_sr 1 kk5 kk6 ?_
 refine T_ne 3 [(0, vs lB lN lC), (6, .bool (decide ((lN : Int) > 200)))] ?_
 by_cases c1 : (lN : Int) > 200
 ·rw [if_pos c1] at h
  have b2 : (decide ((lN : Int) > 200)) = true := decide_eq_true c1
  refine S_env [(0, vs lB lN lC), (6, .bool true)] (by simp only [b2, Bool.not_true, Bool.not_false]) ?_
  clear b2
  refine T_t 6 kk7 kk8 ?_
  refine T_sr 2 kk9 kk10 ?_
  refine T_ne 1 [(2, .bool true)] ?_
  refine S_ret (by kernel_rfl) ?_
  show At _ _ _ _ _ (Q .ret)
  exact S_done (fn := Try.f5) [.bool true] hQ (show ResOK _ _ _ [.tmp 2] _ from .tmp (by kernel_rfl) (.nil)) h
 ·rw [if_neg c1] at h
  have b2 : (decide ((lN : Int) > 200)) = false := decide_eq_false c1
  refine S_env [(0, vs lB lN lC), (6, .bool false)] (by simp only [b2, Bool.not_true, Bool.not_false]) ?_
  clear b2
  refine T_f 6 kk7 kk8 ?_
  refine T_kt ?_
  refine T_s kk11 kk12 ?_
  refine T_sr 3 kk13 kk14 ?_
  refine T_ne 1 [(0, vs lB lN lC), (3, vi 0)] ?_
  refine T_b 0 kk15 ?_
  obtain ⟨g, m17, i3, i4⟩ := h
  refine S_loop (x := kk16) (σ := Int) (fun s_ => [(0, vs lB lN lC), (3, vi s_)]) (fun s_ H => g s_ H) (fun s_ H => m17 s_ H) (0 : Int) (by kernel_rfl) i3 sk ?_
  rintro i H1 i5
  have h := i4 i H1 i5
  refine T_su [(0, vs lB lN lC), (3, vi i)] ?_
  refine T_s kk17 kk18 ?_
  refine T_sr 4 kk19 kk20 ?_
  refine T_ne 4 [(0, vs lB lN lC), (3, vi i), (10, .bool (decide (i < (lN : Int))))] ?_
  by_cases c6 : i < (lN : Int)
  ·rw [if_pos c6] at h
   have b7 : (decide (i < (lN : Int))) = true := decide_eq_true c6
   refine S_env [(0, vs lB lN lC), (3, vi i), (10, .bool true)] (by simp only [b7, Bool.not_true, Bool.not_false]) ?_
   clear b7
   refine T_t 10 kk21 kk22 ?_
   refine T_kt ?_
   refine T_s kk23 kk24 ?_
   refine T_b 1 kk25 ?_
   refine T_sr 6 kk26 kk27 ?_
   refine T_n 2 [(0, vs lB lN lC), (3, vi i), (13, vs lB lN lC), (14, vi i)] ?_
   obtain ⟨b, rfl, h⟩ := h
   obtain ⟨q8, h⟩ := h
   refine T_ix (some 15) 22 40 12 b lN lC .i64 i Try.underlying22 q8.1 q8.2 [(0, vs (some b) lN lC), (3, vi i), (15, vp (some (b.add (Int.toNat i * 12))))] ?_
   refine T_n 1 [(0, vs (some b) lN lC), (3, vi i), (16, vp (some ((b.add (Int.toNat i * 12)).add 8)))] ?_
   obtain ⟨xB, xN, xC, q9, h⟩ := h
   refine T_l (some 17) 35 q9 [(0, vs (some b) lN lC), (3, vi i), (17, vs xB xN xC)] ?_
   refine T_n 3 [(0, vs (some b) lN lC), (3, vi i), (20, .bool (decide ((xN : Int) > 200)))] ?_
   by_cases c10 : (xN : Int) > 200
   ·rw [if_pos c10] at h
    have b11 : (decide ((xN : Int) > 200)) = true := decide_eq_true c10
    refine N_env [(0, vs (some b) lN lC), (3, vi i), (20, .bool true)] (by simp only [b11, Bool.not_true, Bool.not_false]) ?_
    clear b11
    refine T_ne 18 [(0, vs (some b) lN lC), (3, vi i), (38, .bool true)] ?_
    refine T_t 38 kk28 kk29 ?_
    refine T_sr 7 kk30 kk31 ?_
    refine T_ne 1 [(2, .bool true)] ?_
    refine S_ret (by kernel_rfl) ?_
    show At _ _ _ _ _ (Q .ret)
    exact S_done (fn := Try.f5) [.bool true] hQ (show ResOK _ _ _ [.tmp 2] _ from .tmp (by kernel_rfl) (.nil)) h
   ·rw [if_neg c10] at h
    have b11 : (decide ((xN : Int) > 200)) = false := decide_eq_false c10
    refine N_env [(0, vs (some b) lN lC), (3, vi i), (20, .bool false)] (by simp only [b11, Bool.not_true, Bool.not_false]) ?_
    clear b11
    refine T_n 2 [(0, vs (some b) lN lC), (3, vi i), (20, .bool false), (21, vs (some b) lN lC), (22, vi i)] ?_
    obtain ⟨q12, h⟩ := h
    refine T_ix (some 23) 22 40 12 b lN lC .i64 i Try.underlying22 q12.1 q12.2 [(0, vs (some b) lN lC), (3, vi i), (20, .bool false), (23, vp (some (b.add (Int.toNat i * 12))))] ?_
    refine T_n 1 [(0, vs (some b) lN lC), (3, vi i), (20, .bool false), (24, vp (some ((b.add (Int.toNat i * 12)).add 9)))] ?_
    obtain ⟨x, q13, h⟩ := h
    refine T_l (some 25) 9 q13 [(0, vs (some b) lN lC), (3, vi i), (20, .bool false), (25, .string x)] ?_
    refine T_n 4 [(0, vs (some b) lN lC), (3, vi i), (29, .bool (decide ((x.size : Int) > 1000)))] ?_
    by_cases c14 : (x.size : Int) > 1000
    ·rw [if_pos c14] at h
     have b15 : (decide ((x.size : Int) > 1000)) = true := decide_eq_true c14
     refine N_env [(0, vs (some b) lN lC), (3, vi i), (29, .bool true)] (by simp only [b15, Bool.not_true, Bool.not_false]) ?_
     clear b15
     refine T_ne 9 [(0, vs (some b) lN lC), (3, vi i), (38, .bool true)] ?_
     refine T_t 38 kk28 kk29 ?_
     refine T_sr 7 kk30 kk31 ?_
     refine T_ne 1 [(2, .bool true)] ?_
     refine S_ret (by kernel_rfl) ?_
     show At _ _ _ _ _ (Q .ret)
     exact S_done (fn := Try.f5) [.bool true] hQ (show ResOK _ _ _ [.tmp 2] _ from .tmp (by kernel_rfl) (.nil)) h
    ·rw [if_neg c14] at h
     have b15 : (decide ((x.size : Int) > 1000)) = false := decide_eq_false c14
     refine N_env [(0, vs (some b) lN lC), (3, vi i), (29, .bool false)] (by simp only [b15, Bool.not_true, Bool.not_false]) ?_
     clear b15
     refine T_n 2 [(0, vs (some b) lN lC), (3, vi i), (29, .bool false), (30, vs (some b) lN lC), (31, vi i)] ?_
     obtain ⟨q16, h⟩ := h
     refine T_ix (some 32) 22 40 12 b lN lC .i64 i Try.underlying22 q16.1 q16.2 [(0, vs (some b) lN lC), (3, vi i), (29, .bool false), (32, vp (some (b.add (Int.toNat i * 12))))] ?_
     refine T_n 2 [(0, vs (some b) lN lC), (3, vi i), (29, .bool false), (34, vp (some (((b.add (Int.toNat i * 12)).add 10).add 1)))] ?_
     obtain ⟨e, d, f, q17, h⟩ := h
     refine T_l (some 35) 36 q17 [(0, vs (some b) lN lC), (3, vi i), (29, .bool false), (35, vs e d f)] ?_
     refine T_ne 3 [(0, vs (some b) lN lC), (3, vi i), (38, .bool (decide ((d : Int) > 60)))] ?_
     by_cases c18 : (d : Int) > 60
     ·rw [if_pos c18] at h
      have b19 : (decide ((d : Int) > 60)) = true := decide_eq_true c18
      refine S_env [(0, vs (some b) lN lC), (3, vi i), (38, .bool true)] (by simp only [b19, Bool.not_true, Bool.not_false]) ?_
      clear b19
      refine T_t 38 kk28 kk29 ?_
      refine T_sr 7 kk30 kk31 ?_
      refine T_ne 1 [(2, .bool true)] ?_
      refine S_ret (by kernel_rfl) ?_
      show At _ _ _ _ _ (Q .ret)
      exact S_done (fn := Try.f5) [.bool true] hQ (show ResOK _ _ _ [.tmp 2] _ from .tmp (by kernel_rfl) (.nil)) h
     ·rw [if_neg c18] at h
      have b19 : (decide ((d : Int) > 60)) = false := decide_eq_false c18
      refine S_env [(0, vs (some b) lN lC), (3, vi i), (38, .bool false)] (by simp only [b19, Bool.not_true, Bool.not_false]) ?_
      clear b19
      refine T_f 38 kk28 kk29 ?_
      refine T_k ?_
      refine S_blockEnd ?_
      refine S_then ?_
      refine T_r 5 kk24 ?_
      refine T_ne 3 [(0, vs (some b) lN lC), (3, vi (IntKind.wrap .i64 (i + 1)))] ?_
      exact S_round ((IntKind.wrap .i64 (i + 1)) : Int) sk h
  ·rw [if_neg c6] at h
   have b7 : (decide (i < (lN : Int))) = false := decide_eq_false c6
   refine S_env [(0, vs lB lN lC), (3, vi i), (10, .bool false)] (by simp only [b7, Bool.not_true, Bool.not_false]) ?_
   clear b7
   refine T_f 10 kk21 kk22 ?_
   refine S_exit 0 (by kernel_rfl) ?_
   refine S_exitThen ?_
   refine S_exitThen ?_
   refine S_exitHere ?_
   refine S_then ?_
   refine T_sr 8 kk32 kk33 ?_
   refine T_ne 1 [(2, .bool false)] ?_
   refine S_ret (by kernel_rfl) ?_
   show At _ _ _ _ _ (Q .ret)
   exact S_done (fn := Try.f5) [.bool false] hQ (show ResOK _ _ _ [.tmp 2] _ from .tmp (by kernel_rfl) (.nil)) h
end morainelaw10_many

/-! moraine/morainelaw10.word -/
namespace morainelaw10_word
def kk0 := Func.code Try.f8
def kk1 := Code.fa kk0
def kk2 := Code.fb kk0
def kk3 := Code.fa kk2
def kk4 := Code.fb kk2
def kk5 := Code.fa kk3
def kk6 := Code.fb kk3
def kk7 := Code.fa kk6
def kk8 := Code.fb kk6
def kk9 := Code.fa kk7
def kk10 := Code.fb kk7
def kk11 := Code.fa kk4
def kk12 := Code.fb kk4
end morainelaw10_word
def morainelaw10_word.pt (vW : Int) (vOf : Int) (madeB : Option Addr) (madeN : Nat) (madeC : Nat) (H : Array Obj) (R : Value → Array Obj → Prop) : Prop :=
 ∀ (b : Nat) (H1 : Array Obj), b = H.size → H1 = H.push (.cells #[.int .u64 vW, .int .i64 vOf] 34) →
 ∃ x : Int, hat H1 ((Addr.mk b 0 none).add 1) = some (.int .i64 x) ∧
 if ((decide (x > 0)) && (decide ((madeN : Int) > 0))) = true then (
 ∃ d : Int, hat H1 ((Addr.mk b 0 none).add 1) = some (.int .i64 d) ∧
 ((madeN : Int) ≠ 0) ∧
 ∃ e : Addr, madeB = some e ∧
 ((0 : Int) ≤ (Int.tmod (IntKind.wrap .i64 (d - 1)) (madeN : Int)) ∧ (Int.tmod (IntKind.wrap .i64 (d - 1)) (madeN : Int)) < (madeN : Int)) ∧
 ∃ f : Int, hat H1 (e.add (Int.toNat (Int.tmod (IntKind.wrap .i64 (d - 1)) (madeN : Int)) * 1)) = some (.int .u64 f) ∧
 R (.int .u64 f) H1)
 else
 ∃ g : Int, hat H1 (Addr.mk b 0 none) = some (.int .u64 g) ∧
 R (.int .u64 g) H1
namespace morainelaw10_word
set_option maxRecDepth 100000 in
theorem link {vW : Int} {vOf : Int} {madeB : Option Addr} {madeN : Nat} {madeC : Nat} {H : Array Obj} {R : Value → Array Obj → Prop} (h : pt vW vOf madeB madeN madeC H R) : C vW vOf madeB madeN madeC H R := by
 refine S_enter (fn := Try.f8) (c := kk0) 24 Try.func8 (by kernel_rfl) (by kernel_rfl) (Nat.le_of_ble_eq_true (by kernel_rfl)) ?_
 intro w0 Q hQ
 unfold pt at h
 refine T_su [(0, .agg #[vu vW, vi vOf]), (1, vs madeB madeN madeC)] ?_
 refine T_sr 0 kk1 kk2 ?_
 refine N_new (some 2) (fun b => vp (pa b)) (.cells #[vu vW, vi vOf] 34) (fun _=>by kernel_rfl) ?_
 intro b H1 e1 e2
 replace h := h b H1 e1 e2
 refine ⟨[(1, vs madeB madeN madeC), (2, vp (pa b))], pk, ?_⟩
 refine T_ne 1 [(1, vs madeB madeN madeC), (2, vp (pa b))] ?_
 refine T_s kk3 kk4 ?_
 refine T_sr 1 kk5 kk6 ?_
 refine T_n 1 [(1, vs madeB madeN madeC), (2, vp (pa b)), (5, vp (some ((Addr.mk b 0 none).add 1)))] ?_
 obtain ⟨x, q3, h⟩ := h
 refine T_l (some 6) 3 q3 [(1, vs madeB madeN madeC), (2, vp (pa b)), (6, vi x)] ?_
 refine T_n 2 [(1, vs madeB madeN madeC), (2, vp (pa b)), (8, .bool (decide (x > 0)))] ?_
 refine N_cut [(1, vs madeB madeN madeC), (2, vp (pa b)), (12, .bool ((decide (x > 0)) && (decide ((madeN : Int) > 0))))] ?_ ?_
 ·refine S_then ?_
  by_cases c6 : ((decide (x > 0)) && (decide ((madeN : Int) > 0))) = true
  ·rw [if_pos c6] at h
   have b7 : ((decide (x > 0)) && (decide ((madeN : Int) > 0))) = true := c6
   refine S_env [(1, vs madeB madeN madeC), (2, vp (pa b)), (12, .bool true)] (by simp only [b7, Bool.not_true, Bool.not_false]) ?_
   clear b7
   refine T_t 12 kk7 kk8 ?_
   refine T_sr 2 kk9 kk10 ?_
   refine T_n 2 [(1, vs madeB madeN madeC), (13, vs madeB madeN madeC), (14, vp (some ((Addr.mk b 0 none).add 1)))] ?_
   obtain ⟨d, q8, h⟩ := h
   refine T_l (some 15) 3 q8 [(1, vs madeB madeN madeC), (13, vs madeB madeN madeC), (15, vi d)] ?_
   refine T_n 3 [(13, vs madeB madeN madeC), (16, vi (IntKind.wrap .i64 (d - 1))), (18, vi madeN)] ?_
   obtain ⟨q9, h⟩ := h
   refine T_v (some 19) (binN .rem 3 (vi (IntKind.wrap .i64 (d - 1))) (vi madeN)) (vi (Int.tmod (IntKind.wrap .i64 (d - 1)) (madeN : Int))) (fun w _ => rem_run (P := Try.prog) (t := 3) (k := .i64) (x := (IntKind.wrap .i64 (d - 1))) (y := (madeN : Int)) q9 w) [(13, vs madeB madeN madeC), (19, vi (Int.tmod (IntKind.wrap .i64 (d - 1)) (madeN : Int)))] ?_
   obtain ⟨e, rfl, h⟩ := h
   obtain ⟨q10, h⟩ := h
   refine T_ix (some 20) 29 32 1 e madeN madeC .i64 (Int.tmod (IntKind.wrap .i64 (d - 1)) (madeN : Int)) Try.underlying29 q10.1 q10.2 [(20, vp (some (e.add (Int.toNat (Int.tmod (IntKind.wrap .i64 (d - 1)) (madeN : Int)) * 1))))] ?_
   obtain ⟨f, q11, h⟩ := h
   refine T_l (some 21) 32 q11 [(21, vu f)] ?_
   refine T_ne 1 [(4, vu f)] ?_
   refine S_ret (by kernel_rfl) ?_
   show At _ _ _ _ _ (Q .ret)
   exact S_done (fn := Try.f8) [vu f] hQ (show ResOK _ _ _ [.tmp 4] _ from .tmp (by kernel_rfl) (.nil)) h
  ·rw [if_neg c6] at h
   have b7 : ((decide (x > 0)) && (decide ((madeN : Int) > 0))) = false := eq_false_of_ne_true c6
   refine S_env [(1, vs madeB madeN madeC), (2, vp (pa b)), (12, .bool false)] (by simp only [b7, Bool.not_true, Bool.not_false]) ?_
   clear b7
   refine T_f 12 kk7 kk8 ?_
   refine T_kt ?_
   refine T_sr 3 kk11 kk12 ?_
   refine T_n 1 [(22, vp (pa b))] ?_
   obtain ⟨g, q12, h⟩ := h
   refine T_l (some 23) 32 q12 [(23, vu g)] ?_
   refine T_ne 1 [(4, vu g)] ?_
   refine S_ret (by kernel_rfl) ?_
   show At _ _ _ _ _ (Q .ret)
   exact S_done (fn := Try.f8) [vu g] hQ (show ResOK _ _ _ [.tmp 4] _ from .tmp (by kernel_rfl) (.nil)) h
 ·intro hk
  refine T_nu [(1, vs madeB madeN madeC), (2, vp (pa b)), (8, .bool (decide (x > 0)))] ?_
  by_cases c4 : x > 0
  ·have b5 : (decide (x > 0)) = true := decide_eq_true c4
   refine N_env [(1, vs madeB madeN madeC), (2, vp (pa b)), (8, .bool true)] (by simp only [b5, Bool.not_true, Bool.not_false]) ?_
   refine T_n 4 [(1, vs madeB madeN madeC), (2, vp (pa b)), (12, .bool (decide ((madeN : Int) > 0)))] ?_
   refine N_end (by kernel_rfl) ?_
   refine S_env [(1, vs madeB madeN madeC), (2, vp (pa b)), (12, .bool ((decide (x > 0)) && (decide ((madeN : Int) > 0))))] (by simp only [b5, Bool.true_or, Bool.false_or, Bool.or_true, Bool.or_false, Bool.true_and, Bool.false_and, Bool.and_true, Bool.and_false, Bool.not_true, Bool.not_false, cond_true, cond_false]) ?_
   exact hk
  ·have b5 : (decide (x > 0)) = false := decide_eq_false c4
   refine N_env [(1, vs madeB madeN madeC), (2, vp (pa b)), (8, .bool false)] (by simp only [b5, Bool.not_true, Bool.not_false]) ?_
   refine T_n 4 [(1, vs madeB madeN madeC), (2, vp (pa b)), (12, .bool false)] ?_
   refine N_end (by kernel_rfl) ?_
   refine S_env [(1, vs madeB madeN madeC), (2, vp (pa b)), (12, .bool ((decide (x > 0)) && (decide ((madeN : Int) > 0))))] (by simp only [b5, Bool.true_or, Bool.false_or, Bool.or_true, Bool.or_false, Bool.true_and, Bool.false_and, Bool.and_true, Bool.and_false, Bool.not_true, Bool.not_false, cond_true, cond_false]) ?_
   exact hk
end morainelaw10_word

/-! moraine/morainelaw10.words -/
namespace morainelaw10_words
def kk0 := Func.code Try.f11
def kk1 := Code.fa kk0
def kk2 := Code.fb kk0
def kk3 := Code.fa kk2
def kk4 := Code.fb kk2
def kk5 := Code.fa kk4
def kk6 := Code.fb kk4
def kk7 := Code.fa kk5
def kk8 := Code.fb kk5
def kk9 := Code.fa kk8
def kk10 := Code.fa kk9
def kk11 := Code.fa kk10
def kk12 := Code.fb kk10
def kk13 := Code.fa kk11
def kk14 := Code.fb kk11
def kk15 := Code.fa kk14
def kk16 := Code.fb kk14
def kk17 := Code.fa kk12
def kk18 := Code.fb kk12
def kk19 := Code.fa kk17
def kk20 := Code.fa kk6
def kk21 := Code.fb kk6
end morainelaw10_words
def morainelaw10_words.pt (lB : Option Addr) (lN : Nat) (lC : Nat) (madeB : Option Addr) (madeN : Nat) (madeC : Nat) (H : Array Obj) (R : Value → Array Obj → Prop) : Prop :=
 ∃ (j : (Option Addr) → Nat → Nat → Int → Array Obj → Prop) (m11 : (Option Addr) → Nat → Nat → Int → Array Obj → Nat), j none 0 0 0 H ∧ ∀ (d : Option Addr) (outN : Nat) (outC : Nat) (i : Int) (H1 : Array Obj), j d outN outC i H1 →
 if i < (lN : Int) then (
 ∃ e : Addr, lB = some e ∧
 ((0 : Int) ≤ i ∧ i < (lN : Int)) ∧
 ∃ xW : Int, ∃ g : Int, RowAt H1 (e.add (Int.toNat i * 2)) 0 [.int .u64 xW, .int .i64 g] ∧
 morainelaw10_word.C xW g madeB madeN madeC H1 (fun v H2 => ∃ x : Int, v = .int .u64 x ∧ 
 ∀ (b : Nat) (H3 : Array Obj), b = H2.size → H3 = H2.push (.cells #[.int .u64 x] 32) →
 appendK 1 32 8 [.int .u64 0] d outN outC (some (Addr.mk b 0 none)) 1 H3 (fun ap f H4 =>
 (j ap (outN + 1) f (IntKind.wrap .i64 (i + 1)) H4 ∧ m11 ap (outN + 1) f (IntKind.wrap .i64 (i + 1)) H4 < m11 d outN outC i H1))))
 else
 R (.slice d outN outC) H1
namespace morainelaw10_words
set_option maxRecDepth 100000 in
theorem link {lB : Option Addr} {lN : Nat} {lC : Nat} {madeB : Option Addr} {madeN : Nat} {madeC : Nat} {H : Array Obj} {R : Value → Array Obj → Prop} (h : pt lB lN lC madeB madeN madeC H R) : C lB lN lC madeB madeN madeC H R := by
 refine S_enter (fn := Try.f11) (c := kk0) 23 Try.func11 (by kernel_rfl) (by kernel_rfl) (Nat.le_of_ble_eq_true (by kernel_rfl)) ?_
 intro w0 Q hQ
 unfold pt at h
 refine T_su [(0, vs lB lN lC), (1, vs madeB madeN madeC)] ?_
 refine T_sr 0 kk1 kk2 ?_
 refine T_ne 1 [(0, vs lB lN lC), (1, vs madeB madeN madeC)] ?_
 refine T_sr 1 kk3 kk4 ?_
 refine T_ne 1 [(0, vs lB lN lC), (1, vs madeB madeN madeC), (5, vs none 0 0)] ?_
 refine T_s kk5 kk6 ?_
 refine T_sr 2 kk7 kk8 ?_
 refine T_ne 1 [(0, vs lB lN lC), (1, vs madeB madeN madeC), (5, vs none 0 0), (6, vi 0)] ?_
 refine T_b 0 kk9 ?_
 obtain ⟨j, m11, i1, i2⟩ := h
 refine S_loop (x := kk10) (σ := (Option Addr) × Nat × Nat × Int) (fun s_ => [(0, vs lB lN lC), (1, vs madeB madeN madeC), (5, vs s_.1 s_.2.1 s_.2.2.1), (6, vi s_.2.2.2)]) (fun s_ H => j s_.1 s_.2.1 s_.2.2.1 s_.2.2.2 H) (fun s_ H => m11 s_.1 s_.2.1 s_.2.2.1 s_.2.2.2 H) ((none, 0, 0, 0) : (Option Addr) × Nat × Nat × Int) (by kernel_rfl) i1 sk ?_
 rintro ⟨d, outN, outC, i⟩ H1 i3
 have h := i2 d outN outC i H1 i3
 refine T_su [(0, vs lB lN lC), (1, vs madeB madeN madeC), (5, vs d outN outC), (6, vi i)] ?_
 refine T_s kk11 kk12 ?_
 refine T_sr 3 kk13 kk14 ?_
 refine T_ne 4 [(0, vs lB lN lC), (1, vs madeB madeN madeC), (5, vs d outN outC), (6, vi i), (10, .bool (decide (i < (lN : Int))))] ?_
 by_cases c4 : i < (lN : Int)
 ·rw [if_pos c4] at h
  have b5 : (decide (i < (lN : Int))) = true := decide_eq_true c4
  refine S_env [(0, vs lB lN lC), (1, vs madeB madeN madeC), (5, vs d outN outC), (6, vi i), (10, .bool true)] (by simp only [b5, Bool.not_true, Bool.not_false]) ?_
  clear b5
  refine T_t 10 kk15 kk16 ?_
  refine T_kt ?_
  refine T_s kk17 kk18 ?_
  refine T_b 1 kk19 ?_
  refine T_r 5 kk19 ?_
  refine T_n 3 [(0, vs lB lN lC), (1, vs madeB madeN madeC), (6, vi i), (13, vs d outN outC), (14, vs lB lN lC), (15, vi i)] ?_
  obtain ⟨e, rfl, h⟩ := h
  obtain ⟨q6, h⟩ := h
  refine T_ix (some 16) 35 34 2 e lN lC .i64 i Try.underlying35 q6.1 q6.2 [(0, vs (some e) lN lC), (1, vs madeB madeN madeC), (6, vi i), (13, vs d outN outC), (16, vp (some (e.add (Int.toNat i * 2))))] ?_
  obtain ⟨xW, g, q7, h⟩ := h
  refine T_v (some 17) (loadN 34 (vp (some (e.add (Int.toNat i * 2))))) (.agg #[vu xW, vi g]) (loadN_run (loadOK_row (fun _=>by kernel_rfl) (fun _=>by kernel_rfl) q7)) [(0, vs (some e) lN lC), (1, vs madeB madeN madeC), (6, vi i), (13, vs d outN outC), (17, .agg #[vu xW, vi g])] ?_
  refine T_n 1 [(0, vs (some e) lN lC), (1, vs madeB madeN madeC), (6, vi i), (13, vs d outN outC), (17, .agg #[vu xW, vi g]), (18, vs madeB madeN madeC)] ?_
  refine N_call (some 19) 8 #[.agg #[vu xW, vi g], vs madeB madeN madeC] (fun _=>by kernel_rfl) h ?_; clear h
  rintro v H2 ⟨x, rfl, h⟩
  refine ⟨[(0, vs (some e) lN lC), (1, vs madeB madeN madeC), (6, vi i), (13, vs d outN outC), (19, vu x)], pk, ?_⟩
  refine N_new (some 20) (fun b => vs (pa b) 1 1) (.cells #[vu x] 32) (fun _=>by kernel_rfl) ?_
  intro b H3 e8 e9
  replace h := h b H3 e8 e9
  refine ⟨[(0, vs (some e) lN lC), (1, vs madeB madeN madeC), (6, vi i), (13, vs d outN outC), (20, vs (pa b) 1 1)], pk, ?_⟩
  refine N_op (some 21) (appendN #[29, 29] 29 #[vs d outN outC, vs (pa b) 1 1]) _ (fun _=>by kernel_rfl) (ss_append (T := 32) (sz := 1) (bytes := 8) (zero := (vu 0 : Value)) Try.underlying29 Try.underlying29 rfl (show Try.prog.info? 32 = some Try.t32 from by kernel_rfl) (by kernel_rfl) (by kernel_rfl) (by decide) (by kernel_rfl) (by first | exact h | (simpa only [Value.cells, List.toList_toArray] using h))) ?_; clear h
  rintro _ H4 ⟨ap, f, rfl, h⟩
  refine ⟨[(0, vs (some e) lN lC), (1, vs madeB madeN madeC), (6, vi i), (21, vs ap (outN + 1) f)], pk, ?_⟩
  refine T_n 1 [(0, vs (some e) lN lC), (1, vs madeB madeN madeC), (5, vs ap (outN + 1) f), (6, vi i)] ?_
  refine N_end (by kernel_rfl) ?_
  refine S_blockEnd ?_
  refine S_then ?_
  refine T_r 4 kk18 ?_
  refine T_ne 3 [(0, vs (some e) lN lC), (1, vs madeB madeN madeC), (5, vs ap (outN + 1) f), (6, vi (IntKind.wrap .i64 (i + 1)))] ?_
  exact S_round ((ap, (outN + 1), f, (IntKind.wrap .i64 (i + 1))) : (Option Addr) × Nat × Nat × Int) sk h
 ·rw [if_neg c4] at h
  have b5 : (decide (i < (lN : Int))) = false := decide_eq_false c4
  refine S_env [(0, vs lB lN lC), (1, vs madeB madeN madeC), (5, vs d outN outC), (6, vi i), (10, .bool false)] (by simp only [b5, Bool.not_true, Bool.not_false]) ?_
  clear b5
  refine T_f 10 kk15 kk16 ?_
  refine S_exit 0 (by kernel_rfl) ?_
  refine S_exitThen ?_
  refine S_exitThen ?_
  refine S_exitHere ?_
  refine S_then ?_
  refine T_sr 6 kk20 kk21 ?_
  refine T_ne 2 [(4, vs d outN outC)] ?_
  refine S_ret (by kernel_rfl) ?_
  show At _ _ _ _ _ (Q .ret)
  exact S_done (fn := Try.f11) [vs d outN outC] hQ (show ResOK _ _ _ [.tmp 4] _ from .tmp (by kernel_rfl) (.nil)) h
end morainelaw10_words

/-! moraine/morainelaw10.awake -/
namespace morainelaw10_awake
def kk0 := Func.code Try.f6
def kk1 := Code.fa kk0
def kk2 := Code.fb kk0
def kk3 := Code.fa kk2
def kk4 := Code.fb kk2
def kk5 := Code.fa kk4
def kk6 := Code.fb kk4
def kk7 := Code.fa kk5
def kk8 := Code.fb kk5
def kk9 := Code.fa kk8
def kk10 := Code.fb kk8
def kk11 := Code.fa kk9
def kk12 := Code.fb kk9
def kk13 := Code.fa kk6
def kk14 := Code.fb kk6
def kk15 := Code.fa kk14
def kk16 := Code.fb kk14
def kk17 := Code.fa kk16
def kk18 := Code.fb kk16
def kk19 := Code.fa kk18
def kk20 := Code.fb kk18
def kk21 := Code.fa kk20
def kk22 := Code.fb kk20
def kk23 := Code.fa kk22
def kk24 := Code.fb kk22
def kk25 := Code.fa kk24
def kk26 := Code.fb kk24
def kk27 := Code.fa kk26
def kk28 := Code.fb kk26
def kk29 := Code.fa kk28
def kk30 := Code.fb kk28
end morainelaw10_awake
def morainelaw10_awake.pt  (H : Array Obj) (R : Value → Array Obj → Prop) : Prop :=
 obj_New.C 8 H (fun v H1 => ∃ ra : Option Addr, ∃ rb : Int, v = .tuple #[.pointer ra, .int .i64 rb] ∧ 
 if rb = 0 then (
 onPtr ra (
 R (.bool false) H1) (fun a =>
 obj_Heap_Cons.C (some a) 8 20 H1 (fun aa H2 => ∃ n : Int, ∃ q : Int, aa = .tuple #[.int .u64 n, .int .i64 q] ∧ 
 obj_Heap_Car.C (some a) n H2 (fun ae H3 => ∃ p : Int, ∃ o : Int, ae = .tuple #[.int .u64 p, .int .i64 o] ∧ 
 obj_Heap_Cdr.C (some a) n H3 (fun z H4 => ∃ m : Int, ∃ l : Int, z = .tuple #[.int .u64 m, .int .i64 l] ∧ 
 obj_Heap_Vector.C (some a) 3 12 H4 (fun u H5 => ∃ r : Int, ∃ k : Int, u = .tuple #[.int .u64 r, .int .i64 k] ∧ 
 obj_Heap_Get.C (some a) r 1 2 H5 (fun ac H6 => ∃ j : Int, ∃ g : Int, ac = .tuple #[.int .u64 j, .int .i64 g] ∧ 
 obj_Heap_Get.C (some a) r 1 3 H6 (fun af H7 => ∃ s : Int, ∃ f : Int, af = .tuple #[.int .u64 s, .int .i64 f] ∧ 
 obj_Heap_String.C (some a) (ByteArray.mk #[97, 195, 177]) H7 (fun y H8 => ∃ b : Int, ∃ i : Int, y = .tuple #[.int .u64 b, .int .i64 i] ∧ 
 obj_Heap_Text.C (some a) b H8 (fun ad H9 => ∃ e : ByteArray, ∃ d : Int, ad = .tuple #[.string e, .int .i64 d] ∧ 
 if n = 1 then (
 if q = 0 then (
 if p = 8 then (
 if o = 0 then (
 if m = 20 then (
 if l = 0 then (
 if k = 0 then (
 if j = 12 then (
 if g = 0 then (
 if f = 4 then (
 if i = 0 then (
 if e.toList = (ByteArray.mk #[97, 195, 177]).toList then (
 if d = 0 then (
 obj_Heap_Len.C (some a) b H9 (fun t ab => ∃ x : Int, t = .int .i64 x ∧ 
 R (.bool (x == 2)) ab))
 else
 R (.bool false) H9)
 else
 R (.bool false) H9)
 else
 R (.bool false) H9)
 else
 R (.bool false) H9)
 else
 R (.bool false) H9)
 else
 R (.bool false) H9)
 else
 R (.bool false) H9)
 else
 R (.bool false) H9)
 else
 R (.bool false) H9)
 else
 R (.bool false) H9)
 else
 R (.bool false) H9)
 else
 R (.bool false) H9)
 else
 R (.bool false) H9))))))))))
 else
 R (.bool false) H1)
namespace morainelaw10_awake
set_option maxRecDepth 100000 in
theorem link  {H : Array Obj} {R : Value → Array Obj → Prop} (h : pt  H R) : C  H R := by
 refine S_enter (fn := Try.f6) (c := kk0) 130 Try.func6 (by kernel_rfl) (by kernel_rfl) (Nat.le_of_ble_eq_true (by kernel_rfl)) ?_
 intro w0 Q hQ
 unfold pt at h
 refine T_su [] ?_
 refine T_sr 0 kk1 kk2 ?_
 refine T_ne 1 [] ?_
 refine T_sr 1 kk3 kk4 ?_
 refine N_call (some 20) 4 #[vi 8] (fun _=>by kernel_rfl) h ?_; clear h
 rintro v H1 ⟨ra, rb, rfl, h⟩
 refine ⟨[(20, .tuple #[vp ra, vi rb])], pk, ?_⟩
 refine T_ne 5 [(1, vp ra), (2, vi rb)] ?_
 refine T_s kk5 kk6 ?_
 refine T_sr 2 kk7 kk8 ?_
 refine T_n 3 [(1, vp ra), (25, .bool (rb != 0))] ?_
 by_cases c1 : rb = 0
 ·rw [if_pos c1] at h
  have b2 : (rb != 0) = false := bne_eq_false_iff_eq.mpr c1
  refine N_env [(1, vp ra), (25, .bool false)] (by simp only [b2, Bool.not_true, Bool.not_false]) ?_
  clear b2
  refine T_n 1 [(1, vp ra), (25, .bool false), (26, vp ra)] ?_
  rcases ra with _ | a
  ·rw [onPtr_none] at h
   refine T_ne 2 [(1, vp none), (28, .bool true)] ?_
   refine T_t 28 kk9 kk10 ?_
   refine T_sr 3 kk11 kk12 ?_
   refine T_ne 1 [(0, .bool false)] ?_
   refine S_ret (by kernel_rfl) ?_
   show At _ _ _ _ _ (Q .ret)
   exact S_done (fn := Try.f6) [.bool false] hQ (show ResOK _ _ _ [.tmp 0] _ from .tmp (by kernel_rfl) (.nil)) h
  ·rw [onPtr_some] at h
   refine T_ne 2 [(1, vp (some a)), (28, .bool false)] ?_
   refine T_f 28 kk9 kk10 ?_
   refine T_kt ?_
   refine T_sr 4 kk13 kk14 ?_
   refine T_n 1 [(1, vp (some a)), (30, vp (some a))] ?_
   refine N_call (some 31) 7 #[vp (some a), vu 8, vu 20] (fun _=>by kernel_rfl) h ?_; clear h
   rintro aa H2 ⟨n, q, rfl, h⟩
   refine ⟨[(1, vp (some a)), (31, .tuple #[vu n, vi q])], pk, ?_⟩
   refine T_ne 5 [(1, vp (some a)), (3, vu n), (4, vi q)] ?_
   refine T_sr 5 kk15 kk16 ?_
   refine T_n 2 [(1, vp (some a)), (3, vu n), (4, vi q), (35, vp (some a)), (36, vu n)] ?_
   refine N_call (some 37) 19 #[vp (some a), vu n] (fun _=>by kernel_rfl) h ?_; clear h
   rintro ae H3 ⟨p, o, rfl, h⟩
   refine ⟨[(1, vp (some a)), (3, vu n), (4, vi q), (37, .tuple #[vu p, vi o])], pk, ?_⟩
   refine T_ne 5 [(1, vp (some a)), (3, vu n), (4, vi q), (5, vu p), (6, vi o)] ?_
   refine T_sr 6 kk17 kk18 ?_
   refine T_n 2 [(1, vp (some a)), (3, vu n), (4, vi q), (5, vu p), (6, vi o), (41, vp (some a)), (42, vu n)] ?_
   refine N_call (some 43) 20 #[vp (some a), vu n] (fun _=>by kernel_rfl) h ?_; clear h
   rintro z H4 ⟨m, l, rfl, h⟩
   refine ⟨[(1, vp (some a)), (3, vu n), (4, vi q), (5, vu p), (6, vi o), (43, .tuple #[vu m, vi l])], pk, ?_⟩
   refine T_ne 5 [(1, vp (some a)), (3, vu n), (4, vi q), (5, vu p), (6, vi o), (7, vu m), (8, vi l)] ?_
   refine T_sr 7 kk19 kk20 ?_
   refine T_n 1 [(1, vp (some a)), (3, vu n), (4, vi q), (5, vu p), (6, vi o), (7, vu m), (8, vi l), (47, vp (some a))] ?_
   refine N_call (some 48) 12 #[vp (some a), vi 3, vu 12] (fun _=>by kernel_rfl) h ?_; clear h
   rintro u H5 ⟨r, k, rfl, h⟩
   refine ⟨[(1, vp (some a)), (3, vu n), (4, vi q), (5, vu p), (6, vi o), (7, vu m), (8, vi l), (48, .tuple #[vu r, vi k])], pk, ?_⟩
   refine T_ne 5 [(1, vp (some a)), (3, vu n), (4, vi q), (5, vu p), (6, vi o), (7, vu m), (8, vi l), (9, vu r), (10, vi k)] ?_
   refine T_sr 8 kk21 kk22 ?_
   refine T_n 2 [(1, vp (some a)), (3, vu n), (4, vi q), (5, vu p), (6, vi o), (7, vu m), (8, vi l), (9, vu r), (10, vi k), (52, vp (some a)), (53, vu r)] ?_
   refine N_call (some 54) 21 #[vp (some a), vu r, vi 1, vi 2] (fun _=>by kernel_rfl) h ?_; clear h
   rintro ac H6 ⟨j, g, rfl, h⟩
   refine ⟨[(1, vp (some a)), (3, vu n), (4, vi q), (5, vu p), (6, vi o), (7, vu m), (8, vi l), (9, vu r), (10, vi k), (54, .tuple #[vu j, vi g])], pk, ?_⟩
   refine T_ne 5 [(1, vp (some a)), (3, vu n), (4, vi q), (5, vu p), (6, vi o), (7, vu m), (8, vi l), (9, vu r), (10, vi k), (11, vu j), (12, vi g)] ?_
   refine T_sr 9 kk23 kk24 ?_
   refine T_n 2 [(1, vp (some a)), (3, vu n), (4, vi q), (5, vu p), (6, vi o), (7, vu m), (8, vi l), (10, vi k), (11, vu j), (12, vi g), (58, vp (some a)), (59, vu r)] ?_
   refine N_call (some 60) 21 #[vp (some a), vu r, vi 1, vi 3] (fun _=>by kernel_rfl) h ?_; clear h
   rintro af H7 ⟨s, f, rfl, h⟩
   refine ⟨[(1, vp (some a)), (3, vu n), (4, vi q), (5, vu p), (6, vi o), (7, vu m), (8, vi l), (10, vi k), (11, vu j), (12, vi g), (60, .tuple #[vu s, vi f])], pk, ?_⟩
   refine T_ne 5 [(1, vp (some a)), (3, vu n), (4, vi q), (5, vu p), (6, vi o), (7, vu m), (8, vi l), (10, vi k), (11, vu j), (12, vi g), (14, vi f)] ?_
   refine T_sr 10 kk25 kk26 ?_
   refine T_n 1 [(1, vp (some a)), (3, vu n), (4, vi q), (5, vu p), (6, vi o), (7, vu m), (8, vi l), (10, vi k), (11, vu j), (12, vi g), (14, vi f), (64, vp (some a))] ?_
   refine N_call (some 65) 13 #[vp (some a), .string (ByteArray.mk #[97, 195, 177])] (fun _=>by kernel_rfl) h ?_; clear h
   rintro y H8 ⟨b, i, rfl, h⟩
   refine ⟨[(1, vp (some a)), (3, vu n), (4, vi q), (5, vu p), (6, vi o), (7, vu m), (8, vi l), (10, vi k), (11, vu j), (12, vi g), (14, vi f), (65, .tuple #[vu b, vi i])], pk, ?_⟩
   refine T_ne 5 [(1, vp (some a)), (3, vu n), (4, vi q), (5, vu p), (6, vi o), (7, vu m), (8, vi l), (10, vi k), (11, vu j), (12, vi g), (14, vi f), (15, vu b), (16, vi i)] ?_
   refine T_sr 11 kk27 kk28 ?_
   refine T_n 2 [(1, vp (some a)), (3, vu n), (4, vi q), (5, vu p), (6, vi o), (7, vu m), (8, vi l), (10, vi k), (11, vu j), (12, vi g), (14, vi f), (15, vu b), (16, vi i), (69, vp (some a)), (70, vu b)] ?_
   refine N_call (some 71) 22 #[vp (some a), vu b] (fun _=>by kernel_rfl) h ?_; clear h
   rintro ad H9 ⟨e, d, rfl, h⟩
   refine ⟨[(1, vp (some a)), (3, vu n), (4, vi q), (5, vu p), (6, vi o), (7, vu m), (8, vi l), (10, vi k), (11, vu j), (12, vi g), (14, vi f), (15, vu b), (16, vi i), (71, .tuple #[.string e, vi d])], pk, ?_⟩
   refine T_ne 5 [(1, vp (some a)), (3, vu n), (4, vi q), (5, vu p), (6, vi o), (7, vu m), (8, vi l), (10, vi k), (11, vu j), (12, vi g), (14, vi f), (15, vu b), (16, vi i), (17, .string e), (18, vi d)] ?_
   refine T_sr 12 kk29 kk30 ?_
   refine T_n 3 [(1, vp (some a)), (4, vi q), (5, vu p), (6, vi o), (7, vu m), (8, vi l), (10, vi k), (11, vu j), (12, vi g), (14, vi f), (15, vu b), (16, vi i), (17, .string e), (18, vi d), (76, .bool (n == 1))] ?_
   by_cases c3 : n = 1
   ·rw [if_pos c3] at h
    have b4 : (n == 1) = true := beq_iff_eq.mpr c3
    refine N_env [(1, vp (some a)), (4, vi q), (5, vu p), (6, vi o), (7, vu m), (8, vi l), (10, vi k), (11, vu j), (12, vi g), (14, vi f), (15, vu b), (16, vi i), (17, .string e), (18, vi d), (76, .bool true)] (by simp only [b4, Bool.not_true, Bool.not_false]) ?_
    clear b4
    refine T_n 4 [(1, vp (some a)), (5, vu p), (6, vi o), (7, vu m), (8, vi l), (10, vi k), (11, vu j), (12, vi g), (14, vi f), (15, vu b), (16, vi i), (17, .string e), (18, vi d), (80, .bool (q == 0))] ?_
    by_cases c5 : q = 0
    ·rw [if_pos c5] at h
     have b6 : (q == 0) = true := beq_iff_eq.mpr c5
     refine N_env [(1, vp (some a)), (5, vu p), (6, vi o), (7, vu m), (8, vi l), (10, vi k), (11, vu j), (12, vi g), (14, vi f), (15, vu b), (16, vi i), (17, .string e), (18, vi d), (80, .bool true)] (by simp only [b6, Bool.not_true, Bool.not_false]) ?_
     clear b6
     refine T_n 4 [(1, vp (some a)), (6, vi o), (7, vu m), (8, vi l), (10, vi k), (11, vu j), (12, vi g), (14, vi f), (15, vu b), (16, vi i), (17, .string e), (18, vi d), (84, .bool (p == 8))] ?_
     by_cases c7 : p = 8
     ·rw [if_pos c7] at h
      have b8 : (p == 8) = true := beq_iff_eq.mpr c7
      refine N_env [(1, vp (some a)), (6, vi o), (7, vu m), (8, vi l), (10, vi k), (11, vu j), (12, vi g), (14, vi f), (15, vu b), (16, vi i), (17, .string e), (18, vi d), (84, .bool true)] (by simp only [b8, Bool.not_true, Bool.not_false]) ?_
      clear b8
      refine T_n 4 [(1, vp (some a)), (7, vu m), (8, vi l), (10, vi k), (11, vu j), (12, vi g), (14, vi f), (15, vu b), (16, vi i), (17, .string e), (18, vi d), (88, .bool (o == 0))] ?_
      by_cases c9 : o = 0
      ·rw [if_pos c9] at h
       have b10 : (o == 0) = true := beq_iff_eq.mpr c9
       refine N_env [(1, vp (some a)), (7, vu m), (8, vi l), (10, vi k), (11, vu j), (12, vi g), (14, vi f), (15, vu b), (16, vi i), (17, .string e), (18, vi d), (88, .bool true)] (by simp only [b10, Bool.not_true, Bool.not_false]) ?_
       clear b10
       refine T_n 4 [(1, vp (some a)), (8, vi l), (10, vi k), (11, vu j), (12, vi g), (14, vi f), (15, vu b), (16, vi i), (17, .string e), (18, vi d), (92, .bool (m == 20))] ?_
       by_cases c11 : m = 20
       ·rw [if_pos c11] at h
        have b12 : (m == 20) = true := beq_iff_eq.mpr c11
        refine N_env [(1, vp (some a)), (8, vi l), (10, vi k), (11, vu j), (12, vi g), (14, vi f), (15, vu b), (16, vi i), (17, .string e), (18, vi d), (92, .bool true)] (by simp only [b12, Bool.not_true, Bool.not_false]) ?_
        clear b12
        refine T_n 4 [(1, vp (some a)), (10, vi k), (11, vu j), (12, vi g), (14, vi f), (15, vu b), (16, vi i), (17, .string e), (18, vi d), (96, .bool (l == 0))] ?_
        by_cases c13 : l = 0
        ·rw [if_pos c13] at h
         have b14 : (l == 0) = true := beq_iff_eq.mpr c13
         refine N_env [(1, vp (some a)), (10, vi k), (11, vu j), (12, vi g), (14, vi f), (15, vu b), (16, vi i), (17, .string e), (18, vi d), (96, .bool true)] (by simp only [b14, Bool.not_true, Bool.not_false]) ?_
         clear b14
         refine T_n 4 [(1, vp (some a)), (11, vu j), (12, vi g), (14, vi f), (15, vu b), (16, vi i), (17, .string e), (18, vi d), (100, .bool (k == 0))] ?_
         by_cases c15 : k = 0
         ·rw [if_pos c15] at h
          have b16 : (k == 0) = true := beq_iff_eq.mpr c15
          refine N_env [(1, vp (some a)), (11, vu j), (12, vi g), (14, vi f), (15, vu b), (16, vi i), (17, .string e), (18, vi d), (100, .bool true)] (by simp only [b16, Bool.not_true, Bool.not_false]) ?_
          clear b16
          refine T_n 4 [(1, vp (some a)), (12, vi g), (14, vi f), (15, vu b), (16, vi i), (17, .string e), (18, vi d), (104, .bool (j == 12))] ?_
          by_cases c17 : j = 12
          ·rw [if_pos c17] at h
           have b18 : (j == 12) = true := beq_iff_eq.mpr c17
           refine N_env [(1, vp (some a)), (12, vi g), (14, vi f), (15, vu b), (16, vi i), (17, .string e), (18, vi d), (104, .bool true)] (by simp only [b18, Bool.not_true, Bool.not_false]) ?_
           clear b18
           refine T_n 4 [(1, vp (some a)), (14, vi f), (15, vu b), (16, vi i), (17, .string e), (18, vi d), (108, .bool (g == 0))] ?_
           by_cases c19 : g = 0
           ·rw [if_pos c19] at h
            have b20 : (g == 0) = true := beq_iff_eq.mpr c19
            refine N_env [(1, vp (some a)), (14, vi f), (15, vu b), (16, vi i), (17, .string e), (18, vi d), (108, .bool true)] (by simp only [b20, Bool.not_true, Bool.not_false]) ?_
            clear b20
            refine T_n 4 [(1, vp (some a)), (15, vu b), (16, vi i), (17, .string e), (18, vi d), (112, .bool (f == 4))] ?_
            by_cases c21 : f = 4
            ·rw [if_pos c21] at h
             have b22 : (f == 4) = true := beq_iff_eq.mpr c21
             refine N_env [(1, vp (some a)), (15, vu b), (16, vi i), (17, .string e), (18, vi d), (112, .bool true)] (by simp only [b22, Bool.not_true, Bool.not_false]) ?_
             clear b22
             refine T_n 4 [(1, vp (some a)), (15, vu b), (17, .string e), (18, vi d), (116, .bool (i == 0))] ?_
             by_cases c23 : i = 0
             ·rw [if_pos c23] at h
              have b24 : (i == 0) = true := beq_iff_eq.mpr c23
              refine N_env [(1, vp (some a)), (15, vu b), (17, .string e), (18, vi d), (116, .bool true)] (by simp only [b24, Bool.not_true, Bool.not_false]) ?_
              clear b24
              refine T_n 4 [(1, vp (some a)), (15, vu b), (18, vi d), (120, .bool (e.toList == (ByteArray.mk #[97, 195, 177]).toList))] ?_
              by_cases c25 : e.toList = (ByteArray.mk #[97, 195, 177]).toList
              ·rw [if_pos c25] at h
               have b26 : (e.toList == (ByteArray.mk #[97, 195, 177]).toList) = true := beq_iff_eq.mpr c25
               refine N_env [(1, vp (some a)), (15, vu b), (18, vi d), (120, .bool true)] (by simp only [b26, Bool.not_true, Bool.not_false]) ?_
               clear b26
               refine T_n 4 [(1, vp (some a)), (15, vu b), (124, .bool (d == 0))] ?_
               by_cases c27 : d = 0
               ·rw [if_pos c27] at h
                have b28 : (d == 0) = true := beq_iff_eq.mpr c27
                refine N_env [(1, vp (some a)), (15, vu b), (124, .bool true)] (by simp only [b28, Bool.not_true, Bool.not_false]) ?_
                clear b28
                refine T_n 2 [(124, .bool true), (125, vp (some a)), (126, vu b)] ?_
                refine N_call (some 127) 23 #[vp (some a), vu b] (fun _=>by kernel_rfl) h ?_; clear h
                rintro t ab ⟨x, rfl, h⟩
                refine ⟨[(124, .bool true), (127, vi x)], pk, ?_⟩
                refine T_ne 3 [(0, .bool (x == 2))] ?_
                refine S_ret (by kernel_rfl) ?_
                show At _ _ _ _ _ (Q .ret)
                exact S_done (fn := Try.f6) [.bool (x == 2)] hQ (show ResOK _ _ _ [.tmp 0] _ from .tmp (by kernel_rfl) (.nil)) h
               ·rw [if_neg c27] at h
                have b28 : (d == 0) = false := beq_eq_false_iff_ne.mpr c27
                refine N_env [(1, vp (some a)), (15, vu b), (124, .bool false)] (by simp only [b28, Bool.not_true, Bool.not_false]) ?_
                clear b28
                refine T_ne 6 [(0, .bool false)] ?_
                refine S_ret (by kernel_rfl) ?_
                show At _ _ _ _ _ (Q .ret)
                exact S_done (fn := Try.f6) [.bool false] hQ (show ResOK _ _ _ [.tmp 0] _ from .tmp (by kernel_rfl) (.nil)) h
              ·rw [if_neg c25] at h
               have b26 : (e.toList == (ByteArray.mk #[97, 195, 177]).toList) = false := beq_eq_false_iff_ne.mpr c25
               refine N_env [(1, vp (some a)), (15, vu b), (18, vi d), (120, .bool false)] (by simp only [b26, Bool.not_true, Bool.not_false]) ?_
               clear b26
               refine T_ne 10 [(0, .bool false)] ?_
               refine S_ret (by kernel_rfl) ?_
               show At _ _ _ _ _ (Q .ret)
               exact S_done (fn := Try.f6) [.bool false] hQ (show ResOK _ _ _ [.tmp 0] _ from .tmp (by kernel_rfl) (.nil)) h
             ·rw [if_neg c23] at h
              have b24 : (i == 0) = false := beq_eq_false_iff_ne.mpr c23
              refine N_env [(1, vp (some a)), (15, vu b), (17, .string e), (18, vi d), (116, .bool false)] (by simp only [b24, Bool.not_true, Bool.not_false]) ?_
              clear b24
              refine T_ne 14 [(0, .bool false)] ?_
              refine S_ret (by kernel_rfl) ?_
              show At _ _ _ _ _ (Q .ret)
              exact S_done (fn := Try.f6) [.bool false] hQ (show ResOK _ _ _ [.tmp 0] _ from .tmp (by kernel_rfl) (.nil)) h
            ·rw [if_neg c21] at h
             have b22 : (f == 4) = false := beq_eq_false_iff_ne.mpr c21
             refine N_env [(1, vp (some a)), (15, vu b), (16, vi i), (17, .string e), (18, vi d), (112, .bool false)] (by simp only [b22, Bool.not_true, Bool.not_false]) ?_
             clear b22
             refine T_ne 18 [(0, .bool false)] ?_
             refine S_ret (by kernel_rfl) ?_
             show At _ _ _ _ _ (Q .ret)
             exact S_done (fn := Try.f6) [.bool false] hQ (show ResOK _ _ _ [.tmp 0] _ from .tmp (by kernel_rfl) (.nil)) h
           ·rw [if_neg c19] at h
            have b20 : (g == 0) = false := beq_eq_false_iff_ne.mpr c19
            refine N_env [(1, vp (some a)), (14, vi f), (15, vu b), (16, vi i), (17, .string e), (18, vi d), (108, .bool false)] (by simp only [b20, Bool.not_true, Bool.not_false]) ?_
            clear b20
            refine T_ne 22 [(0, .bool false)] ?_
            refine S_ret (by kernel_rfl) ?_
            show At _ _ _ _ _ (Q .ret)
            exact S_done (fn := Try.f6) [.bool false] hQ (show ResOK _ _ _ [.tmp 0] _ from .tmp (by kernel_rfl) (.nil)) h
          ·rw [if_neg c17] at h
           have b18 : (j == 12) = false := beq_eq_false_iff_ne.mpr c17
           refine N_env [(1, vp (some a)), (12, vi g), (14, vi f), (15, vu b), (16, vi i), (17, .string e), (18, vi d), (104, .bool false)] (by simp only [b18, Bool.not_true, Bool.not_false]) ?_
           clear b18
           refine T_ne 26 [(0, .bool false)] ?_
           refine S_ret (by kernel_rfl) ?_
           show At _ _ _ _ _ (Q .ret)
           exact S_done (fn := Try.f6) [.bool false] hQ (show ResOK _ _ _ [.tmp 0] _ from .tmp (by kernel_rfl) (.nil)) h
         ·rw [if_neg c15] at h
          have b16 : (k == 0) = false := beq_eq_false_iff_ne.mpr c15
          refine N_env [(1, vp (some a)), (11, vu j), (12, vi g), (14, vi f), (15, vu b), (16, vi i), (17, .string e), (18, vi d), (100, .bool false)] (by simp only [b16, Bool.not_true, Bool.not_false]) ?_
          clear b16
          refine T_ne 30 [(0, .bool false)] ?_
          refine S_ret (by kernel_rfl) ?_
          show At _ _ _ _ _ (Q .ret)
          exact S_done (fn := Try.f6) [.bool false] hQ (show ResOK _ _ _ [.tmp 0] _ from .tmp (by kernel_rfl) (.nil)) h
        ·rw [if_neg c13] at h
         have b14 : (l == 0) = false := beq_eq_false_iff_ne.mpr c13
         refine N_env [(1, vp (some a)), (10, vi k), (11, vu j), (12, vi g), (14, vi f), (15, vu b), (16, vi i), (17, .string e), (18, vi d), (96, .bool false)] (by simp only [b14, Bool.not_true, Bool.not_false]) ?_
         clear b14
         refine T_ne 34 [(0, .bool false)] ?_
         refine S_ret (by kernel_rfl) ?_
         show At _ _ _ _ _ (Q .ret)
         exact S_done (fn := Try.f6) [.bool false] hQ (show ResOK _ _ _ [.tmp 0] _ from .tmp (by kernel_rfl) (.nil)) h
       ·rw [if_neg c11] at h
        have b12 : (m == 20) = false := beq_eq_false_iff_ne.mpr c11
        refine N_env [(1, vp (some a)), (8, vi l), (10, vi k), (11, vu j), (12, vi g), (14, vi f), (15, vu b), (16, vi i), (17, .string e), (18, vi d), (92, .bool false)] (by simp only [b12, Bool.not_true, Bool.not_false]) ?_
        clear b12
        refine T_ne 38 [(0, .bool false)] ?_
        refine S_ret (by kernel_rfl) ?_
        show At _ _ _ _ _ (Q .ret)
        exact S_done (fn := Try.f6) [.bool false] hQ (show ResOK _ _ _ [.tmp 0] _ from .tmp (by kernel_rfl) (.nil)) h
      ·rw [if_neg c9] at h
       have b10 : (o == 0) = false := beq_eq_false_iff_ne.mpr c9
       refine N_env [(1, vp (some a)), (7, vu m), (8, vi l), (10, vi k), (11, vu j), (12, vi g), (14, vi f), (15, vu b), (16, vi i), (17, .string e), (18, vi d), (88, .bool false)] (by simp only [b10, Bool.not_true, Bool.not_false]) ?_
       clear b10
       refine T_ne 42 [(0, .bool false)] ?_
       refine S_ret (by kernel_rfl) ?_
       show At _ _ _ _ _ (Q .ret)
       exact S_done (fn := Try.f6) [.bool false] hQ (show ResOK _ _ _ [.tmp 0] _ from .tmp (by kernel_rfl) (.nil)) h
     ·rw [if_neg c7] at h
      have b8 : (p == 8) = false := beq_eq_false_iff_ne.mpr c7
      refine N_env [(1, vp (some a)), (6, vi o), (7, vu m), (8, vi l), (10, vi k), (11, vu j), (12, vi g), (14, vi f), (15, vu b), (16, vi i), (17, .string e), (18, vi d), (84, .bool false)] (by simp only [b8, Bool.not_true, Bool.not_false]) ?_
      clear b8
      refine T_ne 46 [(0, .bool false)] ?_
      refine S_ret (by kernel_rfl) ?_
      show At _ _ _ _ _ (Q .ret)
      exact S_done (fn := Try.f6) [.bool false] hQ (show ResOK _ _ _ [.tmp 0] _ from .tmp (by kernel_rfl) (.nil)) h
    ·rw [if_neg c5] at h
     have b6 : (q == 0) = false := beq_eq_false_iff_ne.mpr c5
     refine N_env [(1, vp (some a)), (5, vu p), (6, vi o), (7, vu m), (8, vi l), (10, vi k), (11, vu j), (12, vi g), (14, vi f), (15, vu b), (16, vi i), (17, .string e), (18, vi d), (80, .bool false)] (by simp only [b6, Bool.not_true, Bool.not_false]) ?_
     clear b6
     refine T_ne 50 [(0, .bool false)] ?_
     refine S_ret (by kernel_rfl) ?_
     show At _ _ _ _ _ (Q .ret)
     exact S_done (fn := Try.f6) [.bool false] hQ (show ResOK _ _ _ [.tmp 0] _ from .tmp (by kernel_rfl) (.nil)) h
   ·rw [if_neg c3] at h
    have b4 : (n == 1) = false := beq_eq_false_iff_ne.mpr c3
    refine N_env [(1, vp (some a)), (4, vi q), (5, vu p), (6, vi o), (7, vu m), (8, vi l), (10, vi k), (11, vu j), (12, vi g), (14, vi f), (15, vu b), (16, vi i), (17, .string e), (18, vi d), (76, .bool false)] (by simp only [b4, Bool.not_true, Bool.not_false]) ?_
    clear b4
    refine T_ne 54 [(0, .bool false)] ?_
    refine S_ret (by kernel_rfl) ?_
    show At _ _ _ _ _ (Q .ret)
    exact S_done (fn := Try.f6) [.bool false] hQ (show ResOK _ _ _ [.tmp 0] _ from .tmp (by kernel_rfl) (.nil)) h
 ·rw [if_neg c1] at h
  have b2 : (rb != 0) = true := bne_iff_ne.mpr c1
  refine N_env [(1, vp ra), (25, .bool true)] (by simp only [b2, Bool.not_true, Bool.not_false]) ?_
  clear b2
  refine T_ne 3 [(1, vp ra), (28, .bool true)] ?_
  refine T_t 28 kk9 kk10 ?_
  refine T_sr 3 kk11 kk12 ?_
  refine T_ne 1 [(0, .bool false)] ?_
  refine S_ret (by kernel_rfl) ?_
  show At _ _ _ _ _ (Q .ret)
  exact S_done (fn := Try.f6) [.bool false] hQ (show ResOK _ _ _ [.tmp 0] _ from .tmp (by kernel_rfl) (.nil)) h
end morainelaw10_awake

/-! moraine/morainelaw10.ObjApart -/
namespace morainelaw10_ObjApart
def kk0 := Func.code Try.f3
def kk1 := Code.fa kk0
def kk2 := Code.fb kk0
def kk3 := Code.fa kk2
def kk4 := Code.fb kk2
def kk5 := Code.fa kk4
def kk6 := Code.fb kk4
def kk7 := Code.fa kk5
def kk8 := Code.fb kk5
def kk9 := Code.fa kk8
def kk10 := Code.fb kk8
def kk11 := Code.fa kk9
def kk12 := Code.fb kk9
def kk13 := Code.fa kk6
def kk14 := Code.fb kk6
def kk15 := Code.fa kk13
def kk16 := Code.fb kk13
def kk17 := Code.fa kk16
def kk18 := Code.fb kk16
def kk19 := Code.fa kk17
def kk20 := Code.fb kk17
def kk21 := Code.fa kk14
def kk22 := Code.fb kk14
def kk23 := Code.fa kk22
def kk24 := Code.fb kk22
def kk25 := Code.fa kk24
def kk26 := Code.fb kk24
def kk27 := Code.fa kk26
def kk28 := Code.fb kk26
def kk29 := Code.fa kk27
def kk30 := Code.fb kk27
def kk31 := Code.fa kk30
def kk32 := Code.fa kk31
def kk33 := Code.fa kk32
def kk34 := Code.fb kk32
def kk35 := Code.fa kk33
def kk36 := Code.fb kk33
def kk37 := Code.fa kk36
def kk38 := Code.fb kk36
def kk39 := Code.fa kk34
def kk40 := Code.fb kk34
def kk41 := Code.fa kk39
def kk42 := Code.fa kk41
def kk43 := Code.fb kk41
def kk44 := Code.fa kk43
def kk45 := Code.fb kk43
def kk46 := Code.fa kk45
def kk47 := Code.fb kk45
def kk48 := Code.fa kk47
def kk49 := Code.fb kk47
def kk50 := Code.fa kk48
def kk51 := Code.fb kk48
def kk52 := Code.fa kk51
def kk53 := Code.fa kk52
def kk54 := Code.fb kk52
def kk55 := Code.fa kk54
def kk56 := Code.fb kk54
def kk57 := Code.fa kk49
def kk58 := Code.fb kk49
def kk59 := Code.fa kk57
def kk60 := Code.fb kk57
def kk61 := Code.fa kk60
def kk62 := Code.fb kk60
def kk63 := Code.fa kk58
def kk64 := Code.fb kk58
def kk65 := Code.fa kk64
def kk66 := Code.fb kk64
def kk67 := Code.fa kk66
def kk68 := Code.fb kk66
def kk69 := Code.fa kk68
def kk70 := Code.fb kk68
def kk71 := Code.fa kk69
def kk72 := Code.fb kk69
def kk73 := Code.fa kk72
def kk74 := Code.fb kk72
def kk75 := Code.fa kk73
def kk76 := Code.fb kk73
def kk77 := Code.fa kk70
def kk78 := Code.fb kk70
def kk79 := Code.fa kk77
def kk80 := Code.fb kk77
def kk81 := Code.fa kk80
def kk82 := Code.fa kk81
def kk83 := Code.fa kk82
def kk84 := Code.fb kk82
def kk85 := Code.fa kk83
def kk86 := Code.fb kk83
def kk87 := Code.fa kk86
def kk88 := Code.fb kk86
def kk89 := Code.fa kk84
def kk90 := Code.fb kk84
def kk91 := Code.fa kk89
def kk92 := Code.fa kk91
def kk93 := Code.fb kk91
def kk94 := Code.fa kk92
def kk95 := Code.fb kk92
def kk96 := Code.fa kk95
def kk97 := Code.fb kk95
def kk98 := Code.fa kk96
def kk99 := Code.fb kk96
def kk100 := Code.fa kk56
def kk101 := Code.fb kk56
def kk102 := Code.fa kk101
def kk103 := Code.fb kk101
def kk104 := Code.fa kk103
def kk105 := Code.fb kk103
def kk106 := Code.fa kk105
def kk107 := Code.fb kk105
def kk108 := Code.fa kk107
def kk109 := Code.fb kk107
def kk110 := Code.fa kk109
def kk111 := Code.fb kk109
def kk112 := Code.fa kk111
def kk113 := Code.fb kk111
def kk114 := Code.fa kk113
def kk115 := Code.fb kk113
def kk116 := Code.fa kk115
def kk117 := Code.fb kk115
def kk118 := Code.fa kk117
def kk119 := Code.fb kk117
def kk120 := Code.fa kk28
def kk121 := Code.fb kk28
end morainelaw10_ObjApart
set_option maxRecDepth 100000 in def morainelaw10_ObjApart.pt (limit : Int) (lB : Option Addr) (lN : Nat) (lC : Nat) (H : Array Obj) (R : Value → Array Obj → Prop) : Prop :=
 obj_New.C limit H (fun v H1 => ∃ ra : Option Addr, ∃ rb : Int, v = .tuple #[.pointer ra, .int .i64 rb] ∧ 
 ∃ J : Bool → Array Obj → Prop, (
 if rb = 0 then (
 onPtr ra (
 J true H1) (fun ch =>
 J false H1))
 else
 J false H1) ∧ ∀ (bq : Bool) (H2 : Array Obj), J bq H2 →
 if bq = true then (
 R (.bool false) H2)
 else
 morainelaw10_many.C lB lN lC H2 (fun dc H3 => ∃ x : Bool, dc = .bool x ∧ 
 if (x || (rb != 0)) = true then (
 ∃ b3 : Bool → Array Obj → Prop, (
 if rb = 0 then (
 morainelaw10_awake.C  H3 (fun de H5 => ∃ b6 : Bool, de = .bool b6 ∧ 
 b3 b6 H5))
 else
 if rb = 1 then (
 morainelaw10_awake.C  H3 (fun c3 H6 => ∃ b8 : Bool, c3 = .bool b8 ∧ 
 b3 b8 H6))
 else
 b3 false H3) ∧ ∀ (s4 : Bool) (H4 : Array Obj), b3 s4 H4 →
 R (.bool s4) H4)
 else
 ∀ (b : Nat) (H7 : Array Obj), b = H3.size → H7 = H3.push (.map #[] 0) →
 ∃ (ca : (Option Addr) → Nat → Nat → Int → Int → Array Obj → Prop) (m33 : (Option Addr) → Nat → Nat → Int → Int → Array Obj → Nat), ca none 0 0 0 0 H7 ∧ ∀ (d : Option Addr) (madeN : Nat) (madeC : Nat) (sum : Int) (i : Int) (H8 : Array Obj), ca d madeN madeC sum i H8 →
 if i < (lN : Int) then (
 ∃ e : Addr, lB = some e ∧
 ((0 : Int) ≤ i ∧ i < (lN : Int)) ∧
 ∃ be : Int, ∃ bd : Int, ∃ az : Int, ∃ bc : Int, ∃ ay : Int, ∃ aq : Int, ∃ xN : Int, ∃ ar : Int, ∃ bg : Option Addr, ∃ bf : Nat, ∃ bb : Nat, ∃ xS : ByteArray, ∃ ah : Bool, ∃ r : Option Addr, ∃ s : Nat, ∃ u : Nat, RowAt H8 (e.add (Int.toNat i * 12)) 0 [.int .i64 be, .int .u64 bd, .int .i64 az, .int .u64 bc, .int .i64 ay, .int .i64 aq, .int .i64 xN, .int .u64 ar, .slice bg bf bb, .string xS, .bool ah, .slice r s u] ∧
 ∀ (g : Nat) (H9 : Array Obj), g = H8.size → H9 = H8.push (.cells #[.int .i64 0, .int .u64 0, .int .i64 0, .int .u64 0, .int .i64 0, .int .i64 0, .int .i64 0, .int .u64 0, .slice none 0 0, .string (ByteArray.mk #[]), .bool false, .slice none 0 0] 40) →
 (CanPuts H9 (Addr.mk g 0 none) 0 12) ∧ ∀ ai : Array Obj, ai = hputs H9 (Addr.mk g 0 none) [.int .i64 be, .int .u64 bd, .int .i64 az, .int .u64 bc, .int .i64 ay, .int .i64 aq, .int .i64 xN, .int .u64 ar, .slice bg bf bb, .string xS, .bool ah, .slice r s u] 0 →
 ∃ m : Int, hat ai (Addr.mk g 0 none) = some (.int .i64 m) ∧
 ∃ a8 : Int → Int → Array Obj → Prop, (
 if m = 0 then (
 ∃ xW : Int, ∃ a2 : Int, RowAt ai ((Addr.mk g 0 none).add 1) 0 [.int .u64 xW, .int .i64 a2] ∧
 ∃ ax : Int, ∃ al : Int, RowAt ai ((Addr.mk g 0 none).add 3) 0 [.int .u64 ax, .int .i64 al] ∧
 morainelaw10_word.C xW a2 d madeN madeC ai (fun c5 cp => ∃ b2 : Int, c5 = .int .u64 b2 ∧ RowAt cp ((Addr.mk g 0 none).add 3) 0 [.int .u64 ax, .int .i64 al] ∧ 
 morainelaw10_word.C ax al d madeN madeC cp (fun di dd => ∃ ce : Int, di = .int .u64 ce ∧ 
 obj_Heap_Cons.C ra b2 ce dd (fun dg dh => ∃ ab : Int, ∃ ae : Int, dg = .tuple #[.int .u64 ab, .int .i64 ae] ∧ 
 a8 ab ae dh))))
 else
 if m = 1 then (
 ∃ au : Int, ∃ aj : Int, RowAt ai ((Addr.mk g 0 none).add 1) 0 [.int .u64 au, .int .i64 aj] ∧
 ∃ aw : Int, ∃ am : Int, RowAt ai ((Addr.mk g 0 none).add 3) 0 [.int .u64 aw, .int .i64 am] ∧
 morainelaw10_word.C au aj d madeN madeC ai (fun co cs => ∃ bk : Int, co = .int .u64 bk ∧ RowAt cs ((Addr.mk g 0 none).add 3) 0 [.int .u64 aw, .int .i64 am] ∧ 
 morainelaw10_word.C aw am d madeN madeC cs (fun cy dm => ∃ bw : Int, cy = .int .u64 bw ∧ 
 obj_Heap_Weak.C ra bk bw dm (fun cm da => ∃ y : Int, ∃ ad : Int, cm = .tuple #[.int .u64 y, .int .i64 ad] ∧ 
 a8 y ad da))))
 else
 if m = 2 then (
 ∃ ak : Int, hat ai ((Addr.mk g 0 none).add 5) = some (.int .i64 ak) ∧
 ∃ ao : Int, hat ai ((Addr.mk g 0 none).add 7) = some (.int .u64 ao) ∧
 ∃ xB : Option Addr, ∃ a3 : Nat, ∃ xC : Nat, hat ai ((Addr.mk g 0 none).add 8) = some (.slice xB a3 xC) ∧
 morainelaw10_words.C xB a3 xC d madeN madeC ai (fun c0 ci => ∃ bv : Option Addr, ∃ bu : Nat, ∃ br : Nat, c0 = .slice bv bu br ∧ RowAt ci ((Addr.mk g 0 none).add 5) 0 [.int .i64 ak] ∧ RowAt ci ((Addr.mk g 0 none).add 7) 0 [.int .u64 ao] ∧ 
 obj_Heap_Make.C ra ak ao bv bu br ci (fun c1 dl => ∃ ac : Int, ∃ ag : Int, c1 = .tuple #[.int .u64 ac, .int .i64 ag] ∧ 
 a8 ac ag dl)))
 else
 if m = 3 then (
 ∃ an : Int, hat ai ((Addr.mk g 0 none).add 6) = some (.int .i64 an) ∧
 ∃ a4 : Int, ∃ av : Int, RowAt ai ((Addr.mk g 0 none).add 1) 0 [.int .u64 a4, .int .i64 av] ∧
 morainelaw10_word.C a4 av d madeN madeC ai (fun cu cn => ∃ bx : Int, cu = .int .u64 bx ∧ RowAt cn ((Addr.mk g 0 none).add 6) 0 [.int .i64 an] ∧ 
 obj_Heap_Vector.C ra an bx cn (fun cw dj => ∃ aa : Int, ∃ af : Int, cw = .tuple #[.int .u64 aa, .int .i64 af] ∧ 
 a8 aa af dj)))
 else
 if m = 4 then (
 ∃ bl : ByteArray, hat ai ((Addr.mk g 0 none).add 9) = some (.string bl) ∧
 obj_Heap_String.C ra bl ai (fun cz c7 => ∃ bj : Int, ∃ bi : Int, cz = .tuple #[.int .u64 bj, .int .i64 bi] ∧ 
 a8 bj bi c7))
 else
 if m = 5 then (
 ∃ bo : Bool, ∃ a5 : Option Addr, ∃ a7 : Nat, ∃ a6 : Nat, RowAt ai ((Addr.mk g 0 none).add 10) 0 [.bool bo, .slice a5 a7 a6] ∧
 obj_Heap_Int.C ra bo a5 a7 a6 ai (fun cx c9 => ∃ bm : Int, ∃ bn : Int, cx = .tuple #[.int .u64 bm, .int .i64 bn] ∧ 
 a8 bm bn c9))
 else
 a8 0 1 ai) ∧ ∀ (wv : Int) (f : Int) (H11 : Array Obj), a8 wv f H11 →
 if ((f != 0) || ((iand .u64 wv 7) == 0)) = true then (
 (ca d madeN madeC sum (IntKind.wrap .i64 (i + 1)) H11 ∧ m33 d madeN madeC sum (IntKind.wrap .i64 (i + 1)) H11 < m33 d madeN madeC sum i H8))
 else
 ∀ (cb : Nat) (H12 : Array Obj), cb = H11.size → H12 = H11.push (.cells #[.int .u64 wv] 32) →
 appendK 1 32 8 [.int .u64 0] d madeN madeC (some (Addr.mk cb 0 none)) 1 H12 (fun ap l db =>
 obj_Heap_Size.C ra wv db (fun c2 cv => ∃ j : Int, c2 = .int .i64 j ∧ 
 ∃ n : Addr, ra = some n ∧
 ∃ bz : Option Addr, hat cv n = some (.pointer bz) ∧
 card_Cards_Gen.C bz wv cv (fun dk ck => ∃ o : Int, ∃ p : Bool, dk = .tuple #[.int .i64 o, .bool p] ∧ 
 if ((((decide (j < 1)) || (!p)) || (o != 0)) || ((IntKind.wrap .i64 (Int.tdiv (IntKind.wrap .i64 (ishr .u64 wv 3)) 64)) != (IntKind.wrap .i64 (Int.tdiv (IntKind.wrap .i64 ((IntKind.wrap .i64 ((IntKind.wrap .i64 (ishr .u64 wv 3)) + j)) - 1)) 64)))) = true then (
 R (.bool false) ck)
 else
 ∃ (cf : Int → Array Obj → Prop) (m83 : Int → Array Obj → Nat), cf 0 ck ∧ ∀ (k : Int) (H16 : Array Obj), cf k H16 →
 if k < j then (
 ∃ (es : Array MapEntry) (cl : Nat) (ks : List (Int × Value)), H16[b]? = some (.map es cl) ∧ Ents (intKey .i64) es.toList ks ∧
 ∃ ba : Int, (mget ks (IntKind.wrap .i64 ((IntKind.wrap .i64 (ishr .u64 wv 3)) + k))).getD (.int .i64 0) = .int .i64 ba ∧ 
 if ba = 0 then (
 ∃ (cg : Array MapEntry) (cl_2 : Nat) (ks_2 : List (Int × Value)), H16[b]? = some (.map cg cl_2) ∧ Ents (intKey .i64) cg.toList ks_2 ∧
 ∀ (cd : Array MapEntry) (cl_3 : Nat) (H17 : Array Obj), H17 = setBlk H16 b (.map cd cl_3) → Ents (intKey .i64) cd.toList (mput ks_2 (IntKind.wrap .i64 ((IntKind.wrap .i64 (ishr .u64 wv 3)) + k)) (.int .i64 ((madeN + 1) : Int))) →
 (cf (IntKind.wrap .i64 (k + 1)) H17 ∧ m83 (IntKind.wrap .i64 (k + 1)) H17 < m83 k H16))
 else
 R (.bool false) H16)
 else
 (ca ap (madeN + 1) l (IntKind.wrap .i64 (sum + j)) (IntKind.wrap .i64 (i + 1)) H16 ∧ m33 ap (madeN + 1) l (IntKind.wrap .i64 (sum + j)) (IntKind.wrap .i64 (i + 1)) H16 < m33 d madeN madeC sum i H8)))))
 else
 ∃ q : Addr, ra = some q ∧
 ∃ b1 : Option Addr, hat H8 q = some (.pointer b1) ∧
 ∃ bt : Addr, b1 = some bt ∧
 ∃ bp : Option Addr, hat H8 bt = some (.pointer bp) ∧
 space_Space_Words.C bp none 0 0 H8 (fun cq cc => ∃ a1 : Int, cq = .int .i64 a1 ∧ 
 if a1 = sum then (
 ∃ bs : Option Addr, hat cc q = some (.pointer bs) ∧
 ∃ b0 : Addr, bs = some b0 ∧
 ∃ a9 : Option Addr, hat cc b0 = some (.pointer a9) ∧
 ∀ (b4 : Nat) (H31 : Array Obj), b4 = cc.size → H31 = cc.push (.cells #[.int .i64 0] 3) →
 space_Space_Words.C a9 (some (Addr.mk b4 0 none)) 1 1 H31 (fun cr ct => ∃ a0 : Int, cr = .int .i64 a0 ∧ 
 if a0 = sum then (
 morainelaw10_awake.C  ct (fun cj df => ∃ bh : Bool, cj = .bool bh ∧ 
 R (.bool bh) df))
 else
 R (.bool false) ct))
 else
 R (.bool false) cc)))
namespace morainelaw10_ObjApart
set_option maxRecDepth 100000 in
theorem link {limit : Int} {lB : Option Addr} {lN : Nat} {lC : Nat} {H : Array Obj} {R : Value → Array Obj → Prop} (h : pt limit lB lN lC H R) : C limit lB lN lC H R := by
 refine S_enter (fn := Try.f3) (c := kk0) 226 Try.func3 (by kernel_rfl) (by kernel_rfl) (Nat.le_of_ble_eq_true (by kernel_rfl)) ?_
 intro w0 Q hQ
 unfold pt at h
 refine T_su [(0, vi limit), (1, vs lB lN lC)] ?_
 refine T_sr 0 kk1 kk2 ?_
 refine T_ne 1 [(0, vi limit), (1, vs lB lN lC)] ?_
 refine T_sr 1 kk3 kk4 ?_
 refine T_n 1 [(1, vs lB lN lC), (20, vi limit)] ?_
 refine N_call (some 21) 4 #[vi limit] (fun _=>by kernel_rfl) h ?_; clear h
 rintro v H1 ⟨ra, rb, rfl, h⟩
 refine ⟨[(1, vs lB lN lC), (21, .tuple #[vp ra, vi rb])], pk, ?_⟩
 refine T_ne 5 [(1, vs lB lN lC), (5, vp ra), (6, vi rb)] ?_
 refine T_s kk5 kk6 ?_
 refine T_s kk7 kk8 ?_
 obtain ⟨J, h, j2⟩ := h
 refine S_join (σ := Bool) (fun s_ => [(1, vs lB lN lC), (5, vp ra), (6, vi rb), (29, .bool s_)]) (fun s_ H => J s_ H) ?_ ?_
 ·rintro bq H2 j3
  replace h := j2 bq H2 j3
  refine T_su [(1, vs lB lN lC), (5, vp ra), (6, vi rb), (29, .bool bq)] ?_
  refine S_then ?_
  by_cases c4 : bq = true
  ·rw [if_pos c4] at h
   have b5 : bq = true := c4
   refine S_env [(1, vs lB lN lC), (5, vp ra), (6, vi rb), (29, .bool true)] (by simp only [b5, Bool.not_true, Bool.not_false]) ?_
   clear b5
   refine T_t 29 kk9 kk10 ?_
   refine T_sr 3 kk11 kk12 ?_
   refine T_ne 1 [(4, .bool false)] ?_
   refine S_ret (by kernel_rfl) ?_
   show At _ _ _ _ _ (Q .ret)
   exact S_done (fn := Try.f3) [.bool false] hQ (show ResOK _ _ _ [.tmp 4] _ from .tmp (by kernel_rfl) (.nil)) h
  ·rw [if_neg c4] at h
   have b5 : bq = false := eq_false_of_ne_true c4
   refine S_env [(1, vs lB lN lC), (5, vp ra), (6, vi rb), (29, .bool false)] (by simp only [b5, Bool.not_true, Bool.not_false]) ?_
   clear b5
   refine T_f 29 kk9 kk10 ?_
   refine T_kt ?_
   refine T_s kk13 kk14 ?_
   refine T_sr 4 kk15 kk16 ?_
   refine T_n 1 [(1, vs lB lN lC), (5, vp ra), (6, vi rb), (30, vs lB lN lC)] ?_
   refine N_call (some 31) 5 #[vs lB lN lC] (fun _=>by kernel_rfl) h ?_; clear h
   rintro dc H3 ⟨x, rfl, h⟩
   refine ⟨[(1, vs lB lN lC), (5, vp ra), (6, vi rb), (31, .bool x)], pk, ?_⟩
   refine T_n 1 [(1, vs lB lN lC), (5, vp ra), (6, vi rb), (32, .bool x)] ?_
   refine N_cut [(1, vs lB lN lC), (5, vp ra), (6, vi rb), (35, .bool (x || (rb != 0)))] ?_ ?_
   ·refine S_then ?_
    by_cases c8 : (x || (rb != 0)) = true
    ·rw [if_pos c8] at h
     have b9 : (x || (rb != 0)) = true := c8
     refine S_env [(1, vs lB lN lC), (5, vp ra), (6, vi rb), (35, .bool true)] (by simp only [b9, Bool.not_true, Bool.not_false]) ?_
     clear b9
     refine T_t 35 kk17 kk18 ?_
     refine T_s kk19 kk20 ?_
     obtain ⟨b3, h, j11⟩ := h
     refine S_join (σ := Bool) (fun s_ => [(4, .bool s_)]) (fun s_ H => b3 s_ H) ?_ ?_
     ·rintro s4 H4 j12
      replace h := j11 s4 H4 j12
      refine T_su [(4, .bool s4)] ?_
      refine S_then ?_
      refine S_ret (by kernel_rfl) ?_
      show At _ _ _ _ _ (Q .ret)
      exact S_done (fn := Try.f3) [.bool s4] hQ (show ResOK _ _ _ [.tmp 4] _ from .tmp (by kernel_rfl) (.nil)) h
     ·refine T_r 5 kk19 ?_
      refine T_n 3 [(6, vi rb), (38, .bool (rb == 0))] ?_
      by_cases c13 : rb = 0
      ·rw [if_pos c13] at h
       have b14 : (rb == 0) = true := beq_iff_eq.mpr c13
       refine N_env [(6, vi rb), (38, .bool true)] (by simp only [b14, Bool.not_true, Bool.not_false]) ?_
       clear b14
       refine T_n 4 [(42, .bool true)] ?_
       refine N_call (some 43) 6 #[] (fun _=>by kernel_rfl) h ?_; clear h
       rintro de H5 ⟨b6, rfl, h⟩
       refine ⟨[(42, .bool true), (43, .bool b6)], pk, ?_⟩
       refine T_ne 2 [(4, .bool b6)] ?_
       exact S_meet (b6 : Bool) sk h
      ·rw [if_neg c13] at h
       have b14 : (rb == 0) = false := beq_eq_false_iff_ne.mpr c13
       refine N_env [(6, vi rb), (38, .bool false)] (by simp only [b14, Bool.not_true, Bool.not_false]) ?_
       clear b14
       refine T_n 4 [(42, .bool (rb == 1))] ?_
       by_cases c15 : rb = 1
       ·rw [if_pos c15] at h
        have b16 : (rb == 1) = true := beq_iff_eq.mpr c15
        refine N_env [(42, .bool true)] (by simp only [b16, Bool.not_true, Bool.not_false]) ?_
        clear b16
        refine N_call (some 43) 6 #[] (fun _=>by kernel_rfl) h ?_; clear h
        rintro c3 H6 ⟨b8, rfl, h⟩
        refine ⟨[(42, .bool true), (43, .bool b8)], pk, ?_⟩
        refine T_ne 2 [(4, .bool b8)] ?_
        exact S_meet (b8 : Bool) sk h
       ·rw [if_neg c15] at h
        have b16 : (rb == 1) = false := beq_eq_false_iff_ne.mpr c15
        refine N_env [(42, .bool false)] (by simp only [b16, Bool.not_true, Bool.not_false]) ?_
        clear b16
        refine T_ne 3 [(4, .bool false)] ?_
        exact S_meet (false : Bool) sk h
    ·rw [if_neg c8] at h
     have b9 : (x || (rb != 0)) = false := eq_false_of_ne_true c8
     refine S_env [(1, vs lB lN lC), (5, vp ra), (6, vi rb), (35, .bool false)] (by simp only [b9, Bool.not_true, Bool.not_false]) ?_
     clear b9
     refine T_f 35 kk17 kk18 ?_
     refine T_kt ?_
     refine T_sr 6 kk21 kk22 ?_
     refine T_ne 1 [(1, vs lB lN lC), (5, vp ra), (7, vs none 0 0)] ?_
     refine T_sr 7 kk23 kk24 ?_
     refine N_new (some 45) (fun b => .map (some b)) (.map #[] 0) (fun _=>by kernel_rfl) ?_
     intro b H7 e17 e18
     replace h := h b H7 e17 e18
     refine ⟨[(1, vs lB lN lC), (5, vp ra), (7, vs none 0 0), (45, .map (some b))], pk, ?_⟩
     refine T_ne 1 [(1, vs lB lN lC), (5, vp ra), (7, vs none 0 0), (8, .map (some b))] ?_
     refine T_sr 8 kk25 kk26 ?_
     refine T_ne 1 [(1, vs lB lN lC), (5, vp ra), (7, vs none 0 0), (8, .map (some b)), (9, vi 0)] ?_
     refine T_s kk27 kk28 ?_
     refine T_sr 9 kk29 kk30 ?_
     refine T_ne 1 [(1, vs lB lN lC), (5, vp ra), (7, vs none 0 0), (8, .map (some b)), (9, vi 0), (10, vi 0)] ?_
     refine T_b 0 kk31 ?_
     obtain ⟨ca, m33, i19, i20⟩ := h
     refine S_loop (x := kk32) (σ := (Option Addr) × Nat × Nat × Int × Int) (fun s_ => [(1, vs lB lN lC), (5, vp ra), (7, vs s_.1 s_.2.1 s_.2.2.1), (8, .map (some b)), (9, vi s_.2.2.2.1), (10, vi s_.2.2.2.2)]) (fun s_ H => ca s_.1 s_.2.1 s_.2.2.1 s_.2.2.2.1 s_.2.2.2.2 H) (fun s_ H => m33 s_.1 s_.2.1 s_.2.2.1 s_.2.2.2.1 s_.2.2.2.2 H) ((none, 0, 0, 0, 0) : (Option Addr) × Nat × Nat × Int × Int) (by kernel_rfl) i19 sk ?_
     rintro ⟨d, madeN, madeC, sum, i⟩ H8 i21
     have h := i20 d madeN madeC sum i H8 i21
     refine T_su [(1, vs lB lN lC), (5, vp ra), (7, vs d madeN madeC), (8, .map (some b)), (9, vi sum), (10, vi i)] ?_
     refine T_s kk33 kk34 ?_
     refine T_sr 10 kk35 kk36 ?_
     refine T_ne 4 [(1, vs lB lN lC), (5, vp ra), (7, vs d madeN madeC), (8, .map (some b)), (9, vi sum), (10, vi i), (49, .bool (decide (i < (lN : Int))))] ?_
     by_cases c22 : i < (lN : Int)
     ·rw [if_pos c22] at h
      have b23 : (decide (i < (lN : Int))) = true := decide_eq_true c22
      refine S_env [(1, vs lB lN lC), (5, vp ra), (7, vs d madeN madeC), (8, .map (some b)), (9, vi sum), (10, vi i), (49, .bool true)] (by simp only [b23, Bool.not_true, Bool.not_false]) ?_
      clear b23
      refine T_t 49 kk37 kk38 ?_
      refine T_kt ?_
      refine T_s kk39 kk40 ?_
      refine T_b 1 kk41 ?_
      refine T_sr 12 kk42 kk43 ?_
      refine T_n 2 [(1, vs lB lN lC), (5, vp ra), (7, vs d madeN madeC), (8, .map (some b)), (9, vi sum), (10, vi i), (52, vs lB lN lC), (53, vi i)] ?_
      obtain ⟨e, rfl, h⟩ := h
      obtain ⟨q24, h⟩ := h
      refine T_ix (some 54) 22 40 12 e lN lC .i64 i Try.underlying22 q24.1 q24.2 [(1, vs (some e) lN lC), (5, vp ra), (7, vs d madeN madeC), (8, .map (some b)), (9, vi sum), (10, vi i), (54, vp (some (e.add (Int.toNat i * 12))))] ?_
      obtain ⟨be, bd, az, bc, ay, aq, xN, ar, bg, bf, bb, xS, ah, r, s, u, q25, h⟩ := h
      refine T_v (some 55) (loadN 40 (vp (some (e.add (Int.toNat i * 12))))) (.agg #[vi be, vu bd, vi az, vu bc, vi ay, vi aq, vi xN, vu ar, vs bg bf bb, .string xS, .bool ah, vs r s u]) (loadN_run (loadOK_row (fun _=>by kernel_rfl) (fun _=>by kernel_rfl) q25)) [(1, vs (some e) lN lC), (5, vp ra), (7, vs d madeN madeC), (8, .map (some b)), (9, vi sum), (10, vi i), (55, .agg #[vi be, vu bd, vi az, vu bc, vi ay, vi aq, vi xN, vu ar, vs bg bf bb, .string xS, .bool ah, vs r s u])] ?_
      refine N_new (some 11) (fun b => vp (pa b)) (.cells #[vi 0, vu 0, vi 0, vu 0, vi 0, vi 0, vi 0, vu 0, vs none 0 0, .string (ByteArray.mk #[]), .bool false, vs none 0 0] 40) (fun _=>by kernel_rfl) ?_
      intro g H9 e26 e27
      replace h := h g H9 e26 e27
      refine ⟨[(1, vs (some e) lN lC), (5, vp ra), (7, vs d madeN madeC), (8, .map (some b)), (9, vi sum), (10, vi i), (11, vp (pa g)), (55, .agg #[vi be, vu bd, vi az, vu bc, vi ay, vi aq, vi xN, vu ar, vs bg bf bb, .string xS, .bool ah, vs r s u])], pk, ?_⟩
      obtain ⟨q29, h⟩ := h
      refine N_skipop none (storeN 40 (vp (pa g)) (.agg #[vi be, vu bd, vi az, vu bc, vi ay, vi aq, vi xN, vu ar, vs bg bf bb, .string xS, .bool ah, vs r s u])) (fun Hz => Hz = hputs H9 (Addr.mk g 0 none) [vi be, vu bd, vi az, vu bc, vi ay, vi aq, vi xN, vu ar, vs bg bf bb, .string xS, .bool ah, vs r s u] 0) (fun _=>by kernel_rfl) (ss_store [vi be, vu bd, vi az, vu bc, vi ay, vi aq, vi xN, vu ar, vs bg bf bb, .string xS, .bool ah, vs r s u] 12 (by kernel_rfl) (by kernel_rfl) (fun _=>by kernel_rfl) (by kernel_rfl) q29) ?_
      intro ai e28
      replace h := h ai e28
      refine ⟨[(1, vs (some e) lN lC), (5, vp ra), (7, vs d madeN madeC), (8, .map (some b)), (9, vi sum), (10, vi i), (11, vp (pa g))], pk, ?_⟩
      refine T_e ?_
      refine T_sr 13 kk44 kk45 ?_
      refine T_ne 1 [(1, vs (some e) lN lC), (5, vp ra), (7, vs d madeN madeC), (8, .map (some b)), (9, vi sum), (10, vi i), (11, vp (pa g)), (12, vu 0)] ?_
      refine T_sr 14 kk46 kk47 ?_
      refine T_ne 1 [(1, vs (some e) lN lC), (5, vp ra), (7, vs d madeN madeC), (8, .map (some b)), (9, vi sum), (10, vi i), (11, vp (pa g)), (12, vu 0), (13, vi 1)] ?_
      refine T_s kk48 kk49 ?_
      refine T_sr 15 kk50 kk51 ?_
      refine T_n 1 [(1, vs (some e) lN lC), (5, vp ra), (7, vs d madeN madeC), (8, .map (some b)), (9, vi sum), (10, vi i), (11, vp (pa g)), (12, vu 0), (13, vi 1), (56, vp (pa g))] ?_
      obtain ⟨m, q30, h⟩ := h
      refine T_l (some 57) 3 q30 [(1, vs (some e) lN lC), (5, vp ra), (7, vs d madeN madeC), (8, .map (some b)), (9, vi sum), (10, vi i), (11, vp (pa g)), (12, vu 0), (13, vi 1), (57, vi m)] ?_
      refine T_e ?_
      refine T_b 2 kk52 ?_
      refine T_sr 16 kk53 kk54 ?_
      refine T_ne 2 [(1, vs (some e) lN lC), (5, vp ra), (7, vs d madeN madeC), (8, .map (some b)), (9, vi sum), (10, vi i), (11, vp (pa g)), (12, vu 0), (13, vi 1), (57, vi m), (58, .bool (m == 0))] ?_
      obtain ⟨a8, h, j32⟩ := h
      refine S_join (σ := Int × Int) (fun s_ => [(1, vs (some e) lN lC), (5, vp ra), (7, vs d madeN madeC), (8, .map (some b)), (9, vi sum), (10, vi i), (12, vu s_.1), (13, vi s_.2)]) (fun s_ H => a8 s_.1 s_.2 H) ?_ ?_
      ·rintro ⟨wv, f⟩ H11 j33
       replace h := j32 wv f H11 j33
       refine T_su [(1, vs (some e) lN lC), (5, vp ra), (7, vs d madeN madeC), (8, .map (some b)), (9, vi sum), (10, vi i), (12, vu wv), (13, vi f)] ?_
       refine S_blockEnd ?_
       refine S_then ?_
       refine T_s kk57 kk58 ?_
       refine T_sr 28 kk59 kk60 ?_
       refine N_cut [(1, vs (some e) lN lC), (5, vp ra), (7, vs d madeN madeC), (8, .map (some b)), (9, vi sum), (10, vi i), (12, vu wv), (140, .bool ((f != 0) || ((iand .u64 wv 7) == 0)))] ?_ ?_
       ·refine S_then ?_
        by_cases c36 : ((f != 0) || ((iand .u64 wv 7) == 0)) = true
        ·rw [if_pos c36] at h
         have b37 : ((f != 0) || ((iand .u64 wv 7) == 0)) = true := c36
         refine S_env [(1, vs (some e) lN lC), (5, vp ra), (7, vs d madeN madeC), (8, .map (some b)), (9, vi sum), (10, vi i), (12, vu wv), (140, .bool true)] (by simp only [b37, Bool.not_true, Bool.not_false]) ?_
         clear b37
         refine T_t 140 kk61 kk62 ?_
         refine S_exit 1 (by kernel_rfl) ?_
         refine S_exitThen ?_
         refine S_exitHere ?_
         refine S_then ?_
         refine T_r 11 kk40 ?_
         refine T_ne 3 [(1, vs (some e) lN lC), (5, vp ra), (7, vs d madeN madeC), (8, .map (some b)), (9, vi sum), (10, vi (IntKind.wrap .i64 (i + 1)))] ?_
         exact S_round ((d, madeN, madeC, sum, (IntKind.wrap .i64 (i + 1))) : (Option Addr) × Nat × Nat × Int × Int) sk h
        ·rw [if_neg c36] at h
         have b37 : ((f != 0) || ((iand .u64 wv 7) == 0)) = false := eq_false_of_ne_true c36
         refine S_env [(1, vs (some e) lN lC), (5, vp ra), (7, vs d madeN madeC), (8, .map (some b)), (9, vi sum), (10, vi i), (12, vu wv), (140, .bool false)] (by simp only [b37, Bool.not_true, Bool.not_false]) ?_
         clear b37
         refine T_f 140 kk61 kk62 ?_
         refine T_kt ?_
         refine T_sr 29 kk63 kk64 ?_
         refine T_n 2 [(1, vs (some e) lN lC), (5, vp ra), (8, .map (some b)), (9, vi sum), (10, vi i), (12, vu wv), (141, vs d madeN madeC), (142, vu wv)] ?_
         refine N_new (some 143) (fun b => vs (pa b) 1 1) (.cells #[vu wv] 32) (fun _=>by kernel_rfl) ?_
         intro cb H12 e38 e39
         replace h := h cb H12 e38 e39
         refine ⟨[(1, vs (some e) lN lC), (5, vp ra), (8, .map (some b)), (9, vi sum), (10, vi i), (12, vu wv), (141, vs d madeN madeC), (143, vs (pa cb) 1 1)], pk, ?_⟩
         refine N_op (some 144) (appendN #[29, 29] 29 #[vs d madeN madeC, vs (pa cb) 1 1]) _ (fun _=>by kernel_rfl) (ss_append (T := 32) (sz := 1) (bytes := 8) (zero := (vu 0 : Value)) Try.underlying29 Try.underlying29 rfl (show Try.prog.info? 32 = some Try.t32 from by kernel_rfl) (by kernel_rfl) (by kernel_rfl) (by decide) (by kernel_rfl) (by first | exact h | (simpa only [Value.cells, List.toList_toArray] using h))) ?_; clear h
         rintro _ db ⟨ap, l, rfl, h⟩
         refine ⟨[(1, vs (some e) lN lC), (5, vp ra), (8, .map (some b)), (9, vi sum), (10, vi i), (12, vu wv), (144, vs ap (madeN + 1) l)], pk, ?_⟩
         refine T_ne 1 [(1, vs (some e) lN lC), (5, vp ra), (7, vs ap (madeN + 1) l), (8, .map (some b)), (9, vi sum), (10, vi i), (12, vu wv)] ?_
         refine T_sr 30 kk65 kk66 ?_
         refine T_n 2 [(1, vs (some e) lN lC), (5, vp ra), (7, vs ap (madeN + 1) l), (8, .map (some b)), (9, vi sum), (10, vi i), (12, vu wv), (145, vp ra), (146, vu wv)] ?_
         refine N_call (some 147) 15 #[vp ra, vu wv] (fun _=>by kernel_rfl) h ?_; clear h
         rintro c2 cv ⟨j, rfl, h⟩
         refine ⟨[(1, vs (some e) lN lC), (5, vp ra), (7, vs ap (madeN + 1) l), (8, .map (some b)), (9, vi sum), (10, vi i), (12, vu wv), (147, vi j)], pk, ?_⟩
         refine T_ne 5 [(1, vs (some e) lN lC), (5, vp ra), (7, vs ap (madeN + 1) l), (8, .map (some b)), (9, vi sum), (10, vi i), (12, vu wv), (14, vi j), (15, vi (IntKind.wrap .i64 (ishr .u64 wv 3)))] ?_
         refine T_sr 31 kk67 kk68 ?_
         refine T_n 1 [(1, vs (some e) lN lC), (5, vp ra), (7, vs ap (madeN + 1) l), (8, .map (some b)), (9, vi sum), (10, vi i), (12, vu wv), (14, vi j), (15, vi (IntKind.wrap .i64 (ishr .u64 wv 3))), (152, vp ra)] ?_
         obtain ⟨n, rfl, h⟩ := h
         refine T_n 2 [(1, vs (some e) lN lC), (5, vp (some n)), (7, vs ap (madeN + 1) l), (8, .map (some b)), (9, vi sum), (10, vi i), (12, vu wv), (14, vi j), (15, vi (IntKind.wrap .i64 (ishr .u64 wv 3))), (154, vp (some n))] ?_
         obtain ⟨bz, q40, h⟩ := h
         refine T_l (some 155) 53 q40 [(1, vs (some e) lN lC), (5, vp (some n)), (7, vs ap (madeN + 1) l), (8, .map (some b)), (9, vi sum), (10, vi i), (12, vu wv), (14, vi j), (15, vi (IntKind.wrap .i64 (ishr .u64 wv 3))), (155, vp bz)] ?_
         refine T_n 1 [(1, vs (some e) lN lC), (5, vp (some n)), (7, vs ap (madeN + 1) l), (8, .map (some b)), (9, vi sum), (10, vi i), (14, vi j), (15, vi (IntKind.wrap .i64 (ishr .u64 wv 3))), (155, vp bz), (156, vu wv)] ?_
         refine N_call (some 157) 16 #[vp bz, vu wv] (fun _=>by kernel_rfl) h ?_; clear h
         rintro dk ck ⟨o, p, rfl, h⟩
         refine ⟨[(1, vs (some e) lN lC), (5, vp (some n)), (7, vs ap (madeN + 1) l), (8, .map (some b)), (9, vi sum), (10, vi i), (14, vi j), (15, vi (IntKind.wrap .i64 (ishr .u64 wv 3))), (157, .tuple #[vi o, .bool p])], pk, ?_⟩
         refine T_ne 5 [(1, vs (some e) lN lC), (5, vp (some n)), (7, vs ap (madeN + 1) l), (8, .map (some b)), (9, vi sum), (10, vi i), (14, vi j), (15, vi (IntKind.wrap .i64 (ishr .u64 wv 3))), (16, vi o), (17, .bool p)] ?_
         refine T_s kk69 kk70 ?_
         refine T_sr 32 kk71 kk72 ?_
         refine N_cut [(1, vs (some e) lN lC), (5, vp (some n)), (7, vs ap (madeN + 1) l), (8, .map (some b)), (9, vi sum), (10, vi i), (14, vi j), (15, vi (IntKind.wrap .i64 (ishr .u64 wv 3))), (179, .bool ((((decide (j < 1)) || (!p)) || (o != 0)) || ((IntKind.wrap .i64 (Int.tdiv (IntKind.wrap .i64 (ishr .u64 wv 3)) 64)) != (IntKind.wrap .i64 (Int.tdiv (IntKind.wrap .i64 ((IntKind.wrap .i64 ((IntKind.wrap .i64 (ishr .u64 wv 3)) + j)) - 1)) 64)))))] ?_ ?_
         ·refine S_then ?_
          by_cases c47 : ((((decide (j < 1)) || (!p)) || (o != 0)) || ((IntKind.wrap .i64 (Int.tdiv (IntKind.wrap .i64 (ishr .u64 wv 3)) 64)) != (IntKind.wrap .i64 (Int.tdiv (IntKind.wrap .i64 ((IntKind.wrap .i64 ((IntKind.wrap .i64 (ishr .u64 wv 3)) + j)) - 1)) 64)))) = true
          ·rw [if_pos c47] at h
           have b48 : ((((decide (j < 1)) || (!p)) || (o != 0)) || ((IntKind.wrap .i64 (Int.tdiv (IntKind.wrap .i64 (ishr .u64 wv 3)) 64)) != (IntKind.wrap .i64 (Int.tdiv (IntKind.wrap .i64 ((IntKind.wrap .i64 ((IntKind.wrap .i64 (ishr .u64 wv 3)) + j)) - 1)) 64)))) = true := c47
           refine S_env [(1, vs (some e) lN lC), (5, vp (some n)), (7, vs ap (madeN + 1) l), (8, .map (some b)), (9, vi sum), (10, vi i), (14, vi j), (15, vi (IntKind.wrap .i64 (ishr .u64 wv 3))), (179, .bool true)] (by simp only [b48, Bool.not_true, Bool.not_false]) ?_
           clear b48
           refine T_t 179 kk73 kk74 ?_
           refine T_sr 33 kk75 kk76 ?_
           refine T_ne 1 [(4, .bool false)] ?_
           refine S_ret (by kernel_rfl) ?_
           show At _ _ _ _ _ (Q .ret)
           exact S_done (fn := Try.f3) [.bool false] hQ (show ResOK _ _ _ [.tmp 4] _ from .tmp (by kernel_rfl) (.nil)) h
          ·rw [if_neg c47] at h
           have b48 : ((((decide (j < 1)) || (!p)) || (o != 0)) || ((IntKind.wrap .i64 (Int.tdiv (IntKind.wrap .i64 (ishr .u64 wv 3)) 64)) != (IntKind.wrap .i64 (Int.tdiv (IntKind.wrap .i64 ((IntKind.wrap .i64 ((IntKind.wrap .i64 (ishr .u64 wv 3)) + j)) - 1)) 64)))) = false := eq_false_of_ne_true c47
           refine S_env [(1, vs (some e) lN lC), (5, vp (some n)), (7, vs ap (madeN + 1) l), (8, .map (some b)), (9, vi sum), (10, vi i), (14, vi j), (15, vi (IntKind.wrap .i64 (ishr .u64 wv 3))), (179, .bool false)] (by simp only [b48, Bool.not_true, Bool.not_false]) ?_
           clear b48
           refine T_f 179 kk73 kk74 ?_
           refine T_kt ?_
           refine T_s kk77 kk78 ?_
           refine T_sr 34 kk79 kk80 ?_
           refine T_ne 1 [(1, vs (some e) lN lC), (5, vp (some n)), (7, vs ap (madeN + 1) l), (8, .map (some b)), (9, vi sum), (10, vi i), (14, vi j), (15, vi (IntKind.wrap .i64 (ishr .u64 wv 3))), (18, vi 0)] ?_
           refine T_b 3 kk81 ?_
           obtain ⟨cf, m83, i49, i50⟩ := h
           refine S_loop (x := kk82) (σ := Int) (fun s_ => [(1, vs (some e) lN lC), (5, vp (some n)), (7, vs ap (madeN + 1) l), (8, .map (some b)), (9, vi sum), (10, vi i), (14, vi j), (15, vi (IntKind.wrap .i64 (ishr .u64 wv 3))), (18, vi s_)]) (fun s_ H => cf s_ H) (fun s_ H => m83 s_ H) (0 : Int) (by kernel_rfl) i49 sk ?_
           rintro k H16 i51
           have h := i50 k H16 i51
           refine T_su [(1, vs (some e) lN lC), (5, vp (some n)), (7, vs ap (madeN + 1) l), (8, .map (some b)), (9, vi sum), (10, vi i), (14, vi j), (15, vi (IntKind.wrap .i64 (ishr .u64 wv 3))), (18, vi k)] ?_
           refine T_s kk83 kk84 ?_
           refine T_sr 35 kk85 kk86 ?_
           refine T_ne 3 [(1, vs (some e) lN lC), (5, vp (some n)), (7, vs ap (madeN + 1) l), (8, .map (some b)), (9, vi sum), (10, vi i), (14, vi j), (15, vi (IntKind.wrap .i64 (ishr .u64 wv 3))), (18, vi k), (182, .bool (decide (k < j)))] ?_
           by_cases c52 : k < j
           ·rw [if_pos c52] at h
            have b53 : (decide (k < j)) = true := decide_eq_true c52
            refine S_env [(1, vs (some e) lN lC), (5, vp (some n)), (7, vs ap (madeN + 1) l), (8, .map (some b)), (9, vi sum), (10, vi i), (14, vi j), (15, vi (IntKind.wrap .i64 (ishr .u64 wv 3))), (18, vi k), (182, .bool true)] (by simp only [b53, Bool.not_true, Bool.not_false]) ?_
            clear b53
            refine T_t 182 kk87 kk88 ?_
            refine T_kt ?_
            refine T_s kk89 kk90 ?_
            refine T_b 4 kk91 ?_
            refine T_s kk92 kk93 ?_
            refine T_sr 37 kk94 kk95 ?_
            refine T_n 4 [(1, vs (some e) lN lC), (5, vp (some n)), (7, vs ap (madeN + 1) l), (8, .map (some b)), (9, vi sum), (10, vi i), (14, vi j), (15, vi (IntKind.wrap .i64 (ishr .u64 wv 3))), (18, vi k), (185, .map (some b)), (188, vi (IntKind.wrap .i64 ((IntKind.wrap .i64 (ishr .u64 wv 3)) + k)))] ?_
            obtain ⟨es, cl, ks, q54, q55, ba, e62, h⟩ := h
            refine T_v (some 189) (lookupN 30 (.map (some b)) (vi (IntKind.wrap .i64 ((IntKind.wrap .i64 (ishr .u64 wv 3)) + k))) false) (vi ba) (fun w hw => (lookup_run (kk := (intKey .i64)) (z := vi 0) Try.underlying30 Try.underlying3 (fun _=>by kernel_rfl) (by rw [hw]; exact q54) q55 false).trans (by simp only [if_true, Bool.false_eq_true, if_false, e62])) [(1, vs (some e) lN lC), (5, vp (some n)), (7, vs ap (madeN + 1) l), (8, .map (some b)), (9, vi sum), (10, vi i), (14, vi j), (15, vi (IntKind.wrap .i64 (ishr .u64 wv 3))), (18, vi k), (189, vi ba)] ?_
            refine T_ne 1 [(1, vs (some e) lN lC), (5, vp (some n)), (7, vs ap (madeN + 1) l), (8, .map (some b)), (9, vi sum), (10, vi i), (14, vi j), (15, vi (IntKind.wrap .i64 (ishr .u64 wv 3))), (18, vi k), (190, .bool (ba != 0))] ?_
            by_cases c56 : ba = 0
            ·rw [if_pos c56] at h
             have b57 : (ba != 0) = false := bne_eq_false_iff_eq.mpr c56
             refine S_env [(1, vs (some e) lN lC), (5, vp (some n)), (7, vs ap (madeN + 1) l), (8, .map (some b)), (9, vi sum), (10, vi i), (14, vi j), (15, vi (IntKind.wrap .i64 (ishr .u64 wv 3))), (18, vi k), (190, .bool false)] (by simp only [b57, Bool.not_true, Bool.not_false]) ?_
             clear b57
             refine T_f 190 kk96 kk97 ?_
             refine T_kt ?_
             refine T_r 39 kk93 ?_
             refine T_n 6 [(1, vs (some e) lN lC), (5, vp (some n)), (7, vs ap (madeN + 1) l), (8, .map (some b)), (9, vi sum), (10, vi i), (14, vi j), (15, vi (IntKind.wrap .i64 (ishr .u64 wv 3))), (18, vi k), (191, .map (some b)), (194, vi (IntKind.wrap .i64 ((IntKind.wrap .i64 (ishr .u64 wv 3)) + k))), (196, vi ((madeN + 1) : Int))] ?_
             obtain ⟨cg, cl_2, ks_2, q58, q59, h⟩ := h
             refine N_skipop none (mapPutN 30 (.map (some b)) (vi (IntKind.wrap .i64 ((IntKind.wrap .i64 (ishr .u64 wv 3)) + k))) (vi ((madeN + 1) : Int))) (fun Hz => ∃ es2 cl2, Hz = setBlk H16 b (.map es2 cl2) ∧ Ents (intKey .i64) es2.toList (mput ks_2 (IntKind.wrap .i64 ((IntKind.wrap .i64 (ishr .u64 wv 3)) + k)) (vi ((madeN + 1) : Int)))) (fun _=>by kernel_rfl) (fun w hw => by obtain ⟨es2, cl2, q1, q2⟩ := mapPut_run (kk := (intKey .i64)) (P := Try.prog) (w := w) (k := (IntKind.wrap .i64 ((IntKind.wrap .i64 (ishr .u64 wv 3)) + k))) (v := vi ((madeN + 1) : Int)) Try.underlying30 Try.underlying3 (by rw [hw]; exact q58) q59; exact ⟨_, q1, ⟨rfl, rfl, rfl, Nat.le_refl _⟩, es2, cl2, by rw [← hw], q2⟩) ?_
             rintro H17 ⟨cd, cl_3, e60, e61⟩
             replace h := h cd cl_3 H17 e60 e61
             refine ⟨[(1, vs (some e) lN lC), (5, vp (some n)), (7, vs ap (madeN + 1) l), (8, .map (some b)), (9, vi sum), (10, vi i), (14, vi j), (15, vi (IntKind.wrap .i64 (ishr .u64 wv 3))), (18, vi k)], pk, ?_⟩
             refine N_end (by kernel_rfl) ?_
             refine S_blockEnd ?_
             refine S_then ?_
             refine T_r 36 kk90 ?_
             refine T_ne 3 [(1, vs (some e) lN lC), (5, vp (some n)), (7, vs ap (madeN + 1) l), (8, .map (some b)), (9, vi sum), (10, vi i), (14, vi j), (15, vi (IntKind.wrap .i64 (ishr .u64 wv 3))), (18, vi (IntKind.wrap .i64 (k + 1)))] ?_
             exact S_round ((IntKind.wrap .i64 (k + 1)) : Int) sk h
            ·rw [if_neg c56] at h
             have b57 : (ba != 0) = true := bne_iff_ne.mpr c56
             refine S_env [(1, vs (some e) lN lC), (5, vp (some n)), (7, vs ap (madeN + 1) l), (8, .map (some b)), (9, vi sum), (10, vi i), (14, vi j), (15, vi (IntKind.wrap .i64 (ishr .u64 wv 3))), (18, vi k), (190, .bool true)] (by simp only [b57, Bool.not_true, Bool.not_false]) ?_
             clear b57
             refine T_t 190 kk96 kk97 ?_
             refine T_sr 38 kk98 kk99 ?_
             refine T_ne 1 [(4, .bool false)] ?_
             refine S_ret (by kernel_rfl) ?_
             show At _ _ _ _ _ (Q .ret)
             exact S_done (fn := Try.f3) [.bool false] hQ (show ResOK _ _ _ [.tmp 4] _ from .tmp (by kernel_rfl) (.nil)) h
           ·rw [if_neg c52] at h
            have b53 : (decide (k < j)) = false := decide_eq_false c52
            refine S_env [(1, vs (some e) lN lC), (5, vp (some n)), (7, vs ap (madeN + 1) l), (8, .map (some b)), (9, vi sum), (10, vi i), (14, vi j), (15, vi (IntKind.wrap .i64 (ishr .u64 wv 3))), (18, vi k), (182, .bool false)] (by simp only [b53, Bool.not_true, Bool.not_false]) ?_
            clear b53
            refine T_f 182 kk87 kk88 ?_
            refine S_exit 3 (by kernel_rfl) ?_
            refine S_exitThen ?_
            refine S_exitThen ?_
            refine S_exitHere ?_
            refine S_then ?_
            refine T_r 40 kk78 ?_
            refine T_n 4 [(1, vs (some e) lN lC), (5, vp (some n)), (7, vs ap (madeN + 1) l), (8, .map (some b)), (9, vi (IntKind.wrap .i64 (sum + j))), (10, vi i)] ?_
            refine N_end (by kernel_rfl) ?_
            refine S_blockEnd ?_
            refine S_then ?_
            refine T_r 11 kk40 ?_
            refine T_ne 3 [(1, vs (some e) lN lC), (5, vp (some n)), (7, vs ap (madeN + 1) l), (8, .map (some b)), (9, vi (IntKind.wrap .i64 (sum + j))), (10, vi (IntKind.wrap .i64 (i + 1)))] ?_
            exact S_round ((ap, (madeN + 1), l, (IntKind.wrap .i64 (sum + j)), (IntKind.wrap .i64 (i + 1))) : (Option Addr) × Nat × Nat × Int × Int) sk h
         ·intro hk
          refine T_n 3 [(1, vs (some e) lN lC), (5, vp (some n)), (7, vs ap (madeN + 1) l), (8, .map (some b)), (9, vi sum), (10, vi i), (14, vi j), (15, vi (IntKind.wrap .i64 (ishr .u64 wv 3))), (16, vi o), (17, .bool p), (162, .bool (decide (j < 1)))] ?_
          by_cases c41 : j < 1
          ·have b42 : (decide (j < 1)) = true := decide_eq_true c41
           refine N_env [(1, vs (some e) lN lC), (5, vp (some n)), (7, vs ap (madeN + 1) l), (8, .map (some b)), (9, vi sum), (10, vi i), (14, vi j), (15, vi (IntKind.wrap .i64 (ishr .u64 wv 3))), (16, vi o), (17, .bool p), (162, .bool true)] (by simp only [b42, Bool.not_true, Bool.not_false]) ?_
           refine T_n 17 [(1, vs (some e) lN lC), (5, vp (some n)), (7, vs ap (madeN + 1) l), (8, .map (some b)), (9, vi sum), (10, vi i), (14, vi j), (15, vi (IntKind.wrap .i64 (ishr .u64 wv 3))), (179, .bool true)] ?_
           refine N_end (by kernel_rfl) ?_
           refine S_env [(1, vs (some e) lN lC), (5, vp (some n)), (7, vs ap (madeN + 1) l), (8, .map (some b)), (9, vi sum), (10, vi i), (14, vi j), (15, vi (IntKind.wrap .i64 (ishr .u64 wv 3))), (179, .bool ((((decide (j < 1)) || (!p)) || (o != 0)) || ((IntKind.wrap .i64 (Int.tdiv (IntKind.wrap .i64 (ishr .u64 wv 3)) 64)) != (IntKind.wrap .i64 (Int.tdiv (IntKind.wrap .i64 ((IntKind.wrap .i64 ((IntKind.wrap .i64 (ishr .u64 wv 3)) + j)) - 1)) 64)))))] (by simp only [b42, Bool.true_or, Bool.false_or, Bool.or_true, Bool.or_false, Bool.true_and, Bool.false_and, Bool.and_true, Bool.and_false, Bool.not_true, Bool.not_false, cond_true, cond_false]) ?_
           exact hk
          ·have b42 : (decide (j < 1)) = false := decide_eq_false c41
           refine N_env [(1, vs (some e) lN lC), (5, vp (some n)), (7, vs ap (madeN + 1) l), (8, .map (some b)), (9, vi sum), (10, vi i), (14, vi j), (15, vi (IntKind.wrap .i64 (ishr .u64 wv 3))), (16, vi o), (17, .bool p), (162, .bool false)] (by simp only [b42, Bool.not_true, Bool.not_false]) ?_
           refine T_n 4 [(1, vs (some e) lN lC), (5, vp (some n)), (7, vs ap (madeN + 1) l), (8, .map (some b)), (9, vi sum), (10, vi i), (14, vi j), (15, vi (IntKind.wrap .i64 (ishr .u64 wv 3))), (16, vi o), (166, .bool (!p))] ?_
           by_cases c43 : p = true
           ·have b44 : (!p) = false := congrArg Bool.not (c43)
            have b442 : p = true := c43
            refine N_env [(1, vs (some e) lN lC), (5, vp (some n)), (7, vs ap (madeN + 1) l), (8, .map (some b)), (9, vi sum), (10, vi i), (14, vi j), (15, vi (IntKind.wrap .i64 (ishr .u64 wv 3))), (16, vi o), (166, .bool false)] (by simp only [b44, b442, Bool.not_true, Bool.not_false]) ?_
            refine T_n 4 [(1, vs (some e) lN lC), (5, vp (some n)), (7, vs ap (madeN + 1) l), (8, .map (some b)), (9, vi sum), (10, vi i), (14, vi j), (15, vi (IntKind.wrap .i64 (ishr .u64 wv 3))), (170, .bool (o != 0))] ?_
            by_cases c45 : o = 0
            ·have b46 : (o != 0) = false := bne_eq_false_iff_eq.mpr c45
             refine N_env [(1, vs (some e) lN lC), (5, vp (some n)), (7, vs ap (madeN + 1) l), (8, .map (some b)), (9, vi sum), (10, vi i), (14, vi j), (15, vi (IntKind.wrap .i64 (ishr .u64 wv 3))), (170, .bool false)] (by simp only [b46, Bool.not_true, Bool.not_false]) ?_
             refine T_n 9 [(1, vs (some e) lN lC), (5, vp (some n)), (7, vs ap (madeN + 1) l), (8, .map (some b)), (9, vi sum), (10, vi i), (14, vi j), (15, vi (IntKind.wrap .i64 (ishr .u64 wv 3))), (179, .bool ((IntKind.wrap .i64 (Int.tdiv (IntKind.wrap .i64 (ishr .u64 wv 3)) 64)) != (IntKind.wrap .i64 (Int.tdiv (IntKind.wrap .i64 ((IntKind.wrap .i64 ((IntKind.wrap .i64 (ishr .u64 wv 3)) + j)) - 1)) 64))))] ?_
             refine N_end (by kernel_rfl) ?_
             refine S_env [(1, vs (some e) lN lC), (5, vp (some n)), (7, vs ap (madeN + 1) l), (8, .map (some b)), (9, vi sum), (10, vi i), (14, vi j), (15, vi (IntKind.wrap .i64 (ishr .u64 wv 3))), (179, .bool ((((decide (j < 1)) || (!p)) || (o != 0)) || ((IntKind.wrap .i64 (Int.tdiv (IntKind.wrap .i64 (ishr .u64 wv 3)) 64)) != (IntKind.wrap .i64 (Int.tdiv (IntKind.wrap .i64 ((IntKind.wrap .i64 ((IntKind.wrap .i64 (ishr .u64 wv 3)) + j)) - 1)) 64)))))] (by simp only [b42, b44, b46, Bool.true_or, Bool.false_or, Bool.or_true, Bool.or_false, Bool.true_and, Bool.false_and, Bool.and_true, Bool.and_false, Bool.not_true, Bool.not_false, cond_true, cond_false]) ?_
             exact hk
            ·have b46 : (o != 0) = true := bne_iff_ne.mpr c45
             refine N_env [(1, vs (some e) lN lC), (5, vp (some n)), (7, vs ap (madeN + 1) l), (8, .map (some b)), (9, vi sum), (10, vi i), (14, vi j), (15, vi (IntKind.wrap .i64 (ishr .u64 wv 3))), (170, .bool true)] (by simp only [b46, Bool.not_true, Bool.not_false]) ?_
             refine T_n 9 [(1, vs (some e) lN lC), (5, vp (some n)), (7, vs ap (madeN + 1) l), (8, .map (some b)), (9, vi sum), (10, vi i), (14, vi j), (15, vi (IntKind.wrap .i64 (ishr .u64 wv 3))), (179, .bool true)] ?_
             refine N_end (by kernel_rfl) ?_
             refine S_env [(1, vs (some e) lN lC), (5, vp (some n)), (7, vs ap (madeN + 1) l), (8, .map (some b)), (9, vi sum), (10, vi i), (14, vi j), (15, vi (IntKind.wrap .i64 (ishr .u64 wv 3))), (179, .bool ((((decide (j < 1)) || (!p)) || (o != 0)) || ((IntKind.wrap .i64 (Int.tdiv (IntKind.wrap .i64 (ishr .u64 wv 3)) 64)) != (IntKind.wrap .i64 (Int.tdiv (IntKind.wrap .i64 ((IntKind.wrap .i64 ((IntKind.wrap .i64 (ishr .u64 wv 3)) + j)) - 1)) 64)))))] (by simp only [b42, b44, b46, Bool.true_or, Bool.false_or, Bool.or_true, Bool.or_false, Bool.true_and, Bool.false_and, Bool.and_true, Bool.and_false, Bool.not_true, Bool.not_false, cond_true, cond_false]) ?_
             exact hk
           ·have b44 : (!p) = true := congrArg Bool.not (eq_false_of_ne_true c43)
            have b442 : p = false := eq_false_of_ne_true c43
            refine N_env [(1, vs (some e) lN lC), (5, vp (some n)), (7, vs ap (madeN + 1) l), (8, .map (some b)), (9, vi sum), (10, vi i), (14, vi j), (15, vi (IntKind.wrap .i64 (ishr .u64 wv 3))), (16, vi o), (166, .bool true)] (by simp only [b44, b442, Bool.not_true, Bool.not_false]) ?_
            refine T_n 13 [(1, vs (some e) lN lC), (5, vp (some n)), (7, vs ap (madeN + 1) l), (8, .map (some b)), (9, vi sum), (10, vi i), (14, vi j), (15, vi (IntKind.wrap .i64 (ishr .u64 wv 3))), (179, .bool true)] ?_
            refine N_end (by kernel_rfl) ?_
            refine S_env [(1, vs (some e) lN lC), (5, vp (some n)), (7, vs ap (madeN + 1) l), (8, .map (some b)), (9, vi sum), (10, vi i), (14, vi j), (15, vi (IntKind.wrap .i64 (ishr .u64 wv 3))), (179, .bool ((((decide (j < 1)) || (!p)) || (o != 0)) || ((IntKind.wrap .i64 (Int.tdiv (IntKind.wrap .i64 (ishr .u64 wv 3)) 64)) != (IntKind.wrap .i64 (Int.tdiv (IntKind.wrap .i64 ((IntKind.wrap .i64 ((IntKind.wrap .i64 (ishr .u64 wv 3)) + j)) - 1)) 64)))))] (by simp only [b42, b44, Bool.true_or, Bool.false_or, Bool.or_true, Bool.or_false, Bool.true_and, Bool.false_and, Bool.and_true, Bool.and_false, Bool.not_true, Bool.not_false, cond_true, cond_false]) ?_
            exact hk
       ·intro hk
        refine T_n 3 [(1, vs (some e) lN lC), (5, vp ra), (7, vs d madeN madeC), (8, .map (some b)), (9, vi sum), (10, vi i), (12, vu wv), (136, .bool (f != 0))] ?_
        by_cases c34 : f = 0
        ·have b35 : (f != 0) = false := bne_eq_false_iff_eq.mpr c34
         refine N_env [(1, vs (some e) lN lC), (5, vp ra), (7, vs d madeN madeC), (8, .map (some b)), (9, vi sum), (10, vi i), (12, vu wv), (136, .bool false)] (by simp only [b35, Bool.not_true, Bool.not_false]) ?_
         refine T_n 4 [(1, vs (some e) lN lC), (5, vp ra), (7, vs d madeN madeC), (8, .map (some b)), (9, vi sum), (10, vi i), (12, vu wv), (140, .bool ((iand .u64 wv 7) == 0))] ?_
         refine N_end (by kernel_rfl) ?_
         refine S_env [(1, vs (some e) lN lC), (5, vp ra), (7, vs d madeN madeC), (8, .map (some b)), (9, vi sum), (10, vi i), (12, vu wv), (140, .bool ((f != 0) || ((iand .u64 wv 7) == 0)))] (by simp only [b35, Bool.true_or, Bool.false_or, Bool.or_true, Bool.or_false, Bool.true_and, Bool.false_and, Bool.and_true, Bool.and_false, Bool.not_true, Bool.not_false, cond_true, cond_false]) ?_
         exact hk
        ·have b35 : (f != 0) = true := bne_iff_ne.mpr c34
         refine N_env [(1, vs (some e) lN lC), (5, vp ra), (7, vs d madeN madeC), (8, .map (some b)), (9, vi sum), (10, vi i), (12, vu wv), (136, .bool true)] (by simp only [b35, Bool.not_true, Bool.not_false]) ?_
         refine T_n 4 [(1, vs (some e) lN lC), (5, vp ra), (7, vs d madeN madeC), (8, .map (some b)), (9, vi sum), (10, vi i), (12, vu wv), (140, .bool true)] ?_
         refine N_end (by kernel_rfl) ?_
         refine S_env [(1, vs (some e) lN lC), (5, vp ra), (7, vs d madeN madeC), (8, .map (some b)), (9, vi sum), (10, vi i), (12, vu wv), (140, .bool ((f != 0) || ((iand .u64 wv 7) == 0)))] (by simp only [b35, Bool.true_or, Bool.false_or, Bool.or_true, Bool.or_false, Bool.true_and, Bool.false_and, Bool.and_true, Bool.and_false, Bool.not_true, Bool.not_false, cond_true, cond_false]) ?_
         exact hk
      ·by_cases c64 : m = 0
       ·rw [if_pos c64] at h
        have b65 : (m == 0) = true := beq_iff_eq.mpr c64
        refine S_env [(1, vs (some e) lN lC), (5, vp ra), (7, vs d madeN madeC), (8, .map (some b)), (9, vi sum), (10, vi i), (11, vp (pa g)), (12, vu 0), (13, vi 1), (57, vi m), (58, .bool true)] (by simp only [b65, Bool.not_true, Bool.not_false]) ?_
        clear b65
        refine T_t 58 kk55 kk56 ?_
        obtain ⟨xW, a2, q66, h⟩ := h
        obtain ⟨ax, al, q67, h⟩ := h
        refine S_regionG 17 (Code.ops kk55) [(4, ((Addr.mk g 0 none).add 1), [vu xW, vi a2]), (8, ((Addr.mk g 0 none).add 3), [vu ax, vi al])] 15 #[false, false, false, false, false, false, false, false, false, false, false, false, false, false, false] (by kernel_rfl) (by kernel_rfl) (by kernel_rfl) (by kernel_rfl) (by kernel_rfl) (show FactsAt _ _ _ from ⟨q66, q67, trivial⟩) ?_
        refine T_gp 0 (some 61) (vp ra) #[true, false, false, false, false, false, false, false, false, false, false, false, false, false, false] [(1, vs (some e) lN lC), (5, vp ra), (7, vs d madeN madeC), (8, .map (some b)), (9, vi sum), (10, vi i), (11, vp (pa g)), (12, vu 0), (13, vi 1), (61, vp ra)] ?_
        refine T_gp 1 (some 62) (vp (some ((Addr.mk g 0 none).add 1))) #[true, true, false, false, false, false, false, false, false, false, false, false, false, false, false] [(1, vs (some e) lN lC), (5, vp ra), (7, vs d madeN madeC), (8, .map (some b)), (9, vi sum), (10, vi i), (11, vp (pa g)), (12, vu 0), (13, vi 1), (61, vp ra), (62, vp (some ((Addr.mk g 0 none).add 1)))] ?_
        refine T_g 2 (some 63) (.agg #[vu xW, vi a2]) #[true, true, true, false, false, false, false, false, false, false, false, false, false, false, false] [(1, vs (some e) lN lC), (5, vp ra), (7, vs d madeN madeC), (8, .map (some b)), (9, vi sum), (10, vi i), (11, vp (pa g)), (12, vu 0), (13, vi 1), (61, vp ra), (63, .agg #[vu xW, vi a2])] (loadN 34 (vp (some ((Addr.mk g 0 none).add 1)))) (held_row 4 (fun _=>by kernel_rfl) (fun _=>by kernel_rfl) (List.Mem.head _) (.inl (by kernel_rfl))) ?_
        refine T_gp 3 (some 64) (vs d madeN madeC) #[true, true, true, true, false, false, false, false, false, false, false, false, false, false, false] [(1, vs (some e) lN lC), (5, vp ra), (7, vs d madeN madeC), (8, .map (some b)), (9, vi sum), (10, vi i), (11, vp (pa g)), (12, vu 0), (13, vi 1), (61, vp ra), (63, .agg #[vu xW, vi a2]), (64, vs d madeN madeC)] ?_
        refine T_gp 5 (some 66) (vp (some ((Addr.mk g 0 none).add 3))) #[true, true, true, true, false, true, false, false, false, false, false, false, false, false, false] [(1, vs (some e) lN lC), (5, vp ra), (7, vs d madeN madeC), (8, .map (some b)), (9, vi sum), (10, vi i), (12, vu 0), (13, vi 1), (61, vp ra), (63, .agg #[vu xW, vi a2]), (64, vs d madeN madeC), (66, vp (some ((Addr.mk g 0 none).add 3)))] ?_
        refine T_g 6 (some 67) (.agg #[vu ax, vi al]) #[true, true, true, true, false, true, true, false, false, false, false, false, false, false, false] [(1, vs (some e) lN lC), (5, vp ra), (7, vs d madeN madeC), (8, .map (some b)), (9, vi sum), (10, vi i), (12, vu 0), (13, vi 1), (61, vp ra), (63, .agg #[vu xW, vi a2]), (64, vs d madeN madeC), (67, .agg #[vu ax, vi al])] (loadN 34 (vp (some ((Addr.mk g 0 none).add 3)))) (held_row 8 (fun _=>by kernel_rfl) (fun _=>by kernel_rfl) (List.Mem.tail _ (List.Mem.head _)) (.inl (by kernel_rfl))) ?_
        refine T_gp 7 (some 68) (vs d madeN madeC) #[true, true, true, true, false, true, true, true, false, false, false, false, false, false, false] [(1, vs (some e) lN lC), (5, vp ra), (7, vs d madeN madeC), (8, .map (some b)), (9, vi sum), (10, vi i), (12, vu 0), (13, vi 1), (61, vp ra), (63, .agg #[vu xW, vi a2]), (64, vs d madeN madeC), (67, .agg #[vu ax, vi al]), (68, vs d madeN madeC)] ?_
        refine G_call 4 (some 65) #[true, true, true, true, true, true, true, true, false, false, false, false, false, false, false] 8 #[.agg #[vu xW, vi a2], vs d madeN madeC] (by kernel_rfl) (fun _=>by kernel_rfl) h (by kernel_rfl) ?_; clear h
        rintro c5 cp ⟨b2, rfl, h⟩
        obtain ⟨f68, h⟩ := h
        refine ⟨[(1, vs (some e) lN lC), (5, vp ra), (7, vs d madeN madeC), (8, .map (some b)), (9, vi sum), (10, vi i), (12, vu 0), (13, vi 1), (61, vp ra), (65, vu b2), (67, .agg #[vu ax, vi al]), (68, vs d madeN madeC)], pk, (show FactsAt _ _ _ from ⟨trivial, f68, trivial⟩), ?_⟩
        refine G_call 8 (some 69) #[true, true, true, true, true, true, true, true, true, false, false, false, false, false, false] 8 #[.agg #[vu ax, vi al], vs d madeN madeC] (by kernel_rfl) (fun _=>by kernel_rfl) h (by kernel_rfl) ?_; clear h
        rintro di dd ⟨ce, rfl, h⟩
        refine ⟨[(1, vs (some e) lN lC), (5, vp ra), (7, vs d madeN madeC), (8, .map (some b)), (9, vi sum), (10, vi i), (12, vu 0), (13, vi 1), (61, vp ra), (65, vu b2), (69, vu ce)], pk, (show FactsAt _ _ _ from ⟨trivial, trivial, trivial⟩), ?_⟩
        refine G_call 9 (some 70) #[true, true, true, true, true, true, true, true, true, true, false, false, false, false, false] 7 #[vp ra, vu b2, vu ce] (by kernel_rfl) (fun _=>by kernel_rfl) h (by kernel_rfl) ?_; clear h
        rintro dg dh ⟨ab, ae, rfl, h⟩
        refine ⟨[(1, vs (some e) lN lC), (5, vp ra), (7, vs d madeN madeC), (8, .map (some b)), (9, vi sum), (10, vi i), (12, vu 0), (13, vi 1), (70, .tuple #[vu ab, vi ae])], pk, (show FactsAt _ _ _ from ⟨trivial, trivial, trivial⟩), ?_⟩
        refine T_g 10 (some 60) (.tuple #[vu ab, vi ae]) #[true, true, true, true, true, true, true, true, true, true, true, false, false, false, false] [(1, vs (some e) lN lC), (5, vp ra), (7, vs d madeN madeC), (8, .map (some b)), (9, vi sum), (10, vi i), (12, vu 0), (13, vi 1), (60, .tuple #[vu ab, vi ae])] (pure (.value (.tuple #[vu ab, vi ae])) : Sem Next) (fun _ _ _ _ _ => rfl) ?_
        refine T_g 11 (some 71) (vu ab) #[true, true, true, true, true, true, true, true, true, true, true, true, false, false, false] [(1, vs (some e) lN lC), (5, vp ra), (7, vs d madeN madeC), (8, .map (some b)), (9, vi sum), (10, vi i), (12, vu 0), (13, vi 1), (60, .tuple #[vu ab, vi ae]), (71, vu ab)] (pure (.value (vu ab)) : Sem Next) (fun _ _ _ _ _ => rfl) ?_
        refine T_g 12 (some 72) (vi ae) #[true, true, true, true, true, true, true, true, true, true, true, true, true, false, false] [(1, vs (some e) lN lC), (5, vp ra), (7, vs d madeN madeC), (8, .map (some b)), (9, vi sum), (10, vi i), (12, vu 0), (13, vi 1), (71, vu ab), (72, vi ae)] (pure (.value (vi ae)) : Sem Next) (fun _ _ _ _ _ => rfl) ?_
        refine T_g 13 (some 12) (vu ab) #[true, true, true, true, true, true, true, true, true, true, true, true, true, true, false] [(1, vs (some e) lN lC), (5, vp ra), (7, vs d madeN madeC), (8, .map (some b)), (9, vi sum), (10, vi i), (12, vu ab), (13, vi 1), (72, vi ae)] (pure (.value (vu ab)) : Sem Next) (fun _ _ _ _ _ => rfl) ?_
        refine T_g 14 (some 13) (vi ae) #[true, true, true, true, true, true, true, true, true, true, true, true, true, true, true] [(1, vs (some e) lN lC), (5, vp ra), (7, vs d madeN madeC), (8, .map (some b)), (9, vi sum), (10, vi i), (12, vu ab), (13, vi ae)] (pure (.value (vi ae)) : Sem Next) (fun _ _ _ _ _ => rfl) ?_
        refine G_sub [(1, vs (some e) lN lC), (5, vp ra), (7, vs d madeN madeC), (8, .map (some b)), (9, vi sum), (10, vi i), (12, vu ab), (13, vi ae)] sk ?_
        refine G_end (by kernel_rfl) ?_
        refine S_then ?_
        exact S_meet ((ab, ae) : Int × Int) sk h
       ·rw [if_neg c64] at h
        have b65 : (m == 0) = false := beq_eq_false_iff_ne.mpr c64
        refine S_env [(1, vs (some e) lN lC), (5, vp ra), (7, vs d madeN madeC), (8, .map (some b)), (9, vi sum), (10, vi i), (11, vp (pa g)), (12, vu 0), (13, vi 1), (57, vi m), (58, .bool false)] (by simp only [b65, Bool.not_true, Bool.not_false]) ?_
        clear b65
        refine T_f 58 kk55 kk56 ?_
        refine T_sr 18 kk100 kk101 ?_
        refine T_ne 2 [(1, vs (some e) lN lC), (5, vp ra), (7, vs d madeN madeC), (8, .map (some b)), (9, vi sum), (10, vi i), (11, vp (pa g)), (12, vu 0), (13, vi 1), (57, vi m), (73, .bool (m == 1))] ?_
        by_cases c69 : m = 1
        ·rw [if_pos c69] at h
         have b70 : (m == 1) = true := beq_iff_eq.mpr c69
         refine S_env [(1, vs (some e) lN lC), (5, vp ra), (7, vs d madeN madeC), (8, .map (some b)), (9, vi sum), (10, vi i), (11, vp (pa g)), (12, vu 0), (13, vi 1), (57, vi m), (73, .bool true)] (by simp only [b70, Bool.not_true, Bool.not_false]) ?_
         clear b70
         refine T_t 73 kk102 kk103 ?_
         obtain ⟨au, aj, q71, h⟩ := h
         obtain ⟨aw, am, q72, h⟩ := h
         refine S_regionG 19 (Code.ops kk102) [(4, ((Addr.mk g 0 none).add 1), [vu au, vi aj]), (8, ((Addr.mk g 0 none).add 3), [vu aw, vi am])] 15 #[false, false, false, false, false, false, false, false, false, false, false, false, false, false, false] (by kernel_rfl) (by kernel_rfl) (by kernel_rfl) (by kernel_rfl) (by kernel_rfl) (show FactsAt _ _ _ from ⟨q71, q72, trivial⟩) ?_
         refine T_gp 0 (some 76) (vp ra) #[true, false, false, false, false, false, false, false, false, false, false, false, false, false, false] [(1, vs (some e) lN lC), (5, vp ra), (7, vs d madeN madeC), (8, .map (some b)), (9, vi sum), (10, vi i), (11, vp (pa g)), (12, vu 0), (13, vi 1), (76, vp ra)] ?_
         refine T_gp 1 (some 77) (vp (some ((Addr.mk g 0 none).add 1))) #[true, true, false, false, false, false, false, false, false, false, false, false, false, false, false] [(1, vs (some e) lN lC), (5, vp ra), (7, vs d madeN madeC), (8, .map (some b)), (9, vi sum), (10, vi i), (11, vp (pa g)), (12, vu 0), (13, vi 1), (76, vp ra), (77, vp (some ((Addr.mk g 0 none).add 1)))] ?_
         refine T_g 2 (some 78) (.agg #[vu au, vi aj]) #[true, true, true, false, false, false, false, false, false, false, false, false, false, false, false] [(1, vs (some e) lN lC), (5, vp ra), (7, vs d madeN madeC), (8, .map (some b)), (9, vi sum), (10, vi i), (11, vp (pa g)), (12, vu 0), (13, vi 1), (76, vp ra), (78, .agg #[vu au, vi aj])] (loadN 34 (vp (some ((Addr.mk g 0 none).add 1)))) (held_row 4 (fun _=>by kernel_rfl) (fun _=>by kernel_rfl) (List.Mem.head _) (.inl (by kernel_rfl))) ?_
         refine T_gp 3 (some 79) (vs d madeN madeC) #[true, true, true, true, false, false, false, false, false, false, false, false, false, false, false] [(1, vs (some e) lN lC), (5, vp ra), (7, vs d madeN madeC), (8, .map (some b)), (9, vi sum), (10, vi i), (11, vp (pa g)), (12, vu 0), (13, vi 1), (76, vp ra), (78, .agg #[vu au, vi aj]), (79, vs d madeN madeC)] ?_
         refine T_gp 5 (some 81) (vp (some ((Addr.mk g 0 none).add 3))) #[true, true, true, true, false, true, false, false, false, false, false, false, false, false, false] [(1, vs (some e) lN lC), (5, vp ra), (7, vs d madeN madeC), (8, .map (some b)), (9, vi sum), (10, vi i), (12, vu 0), (13, vi 1), (76, vp ra), (78, .agg #[vu au, vi aj]), (79, vs d madeN madeC), (81, vp (some ((Addr.mk g 0 none).add 3)))] ?_
         refine T_g 6 (some 82) (.agg #[vu aw, vi am]) #[true, true, true, true, false, true, true, false, false, false, false, false, false, false, false] [(1, vs (some e) lN lC), (5, vp ra), (7, vs d madeN madeC), (8, .map (some b)), (9, vi sum), (10, vi i), (12, vu 0), (13, vi 1), (76, vp ra), (78, .agg #[vu au, vi aj]), (79, vs d madeN madeC), (82, .agg #[vu aw, vi am])] (loadN 34 (vp (some ((Addr.mk g 0 none).add 3)))) (held_row 8 (fun _=>by kernel_rfl) (fun _=>by kernel_rfl) (List.Mem.tail _ (List.Mem.head _)) (.inl (by kernel_rfl))) ?_
         refine T_gp 7 (some 83) (vs d madeN madeC) #[true, true, true, true, false, true, true, true, false, false, false, false, false, false, false] [(1, vs (some e) lN lC), (5, vp ra), (7, vs d madeN madeC), (8, .map (some b)), (9, vi sum), (10, vi i), (12, vu 0), (13, vi 1), (76, vp ra), (78, .agg #[vu au, vi aj]), (79, vs d madeN madeC), (82, .agg #[vu aw, vi am]), (83, vs d madeN madeC)] ?_
         refine G_call 4 (some 80) #[true, true, true, true, true, true, true, true, false, false, false, false, false, false, false] 8 #[.agg #[vu au, vi aj], vs d madeN madeC] (by kernel_rfl) (fun _=>by kernel_rfl) h (by kernel_rfl) ?_; clear h
         rintro co cs ⟨bk, rfl, h⟩
         obtain ⟨f73, h⟩ := h
         refine ⟨[(1, vs (some e) lN lC), (5, vp ra), (7, vs d madeN madeC), (8, .map (some b)), (9, vi sum), (10, vi i), (12, vu 0), (13, vi 1), (76, vp ra), (80, vu bk), (82, .agg #[vu aw, vi am]), (83, vs d madeN madeC)], pk, (show FactsAt _ _ _ from ⟨trivial, f73, trivial⟩), ?_⟩
         refine G_call 8 (some 84) #[true, true, true, true, true, true, true, true, true, false, false, false, false, false, false] 8 #[.agg #[vu aw, vi am], vs d madeN madeC] (by kernel_rfl) (fun _=>by kernel_rfl) h (by kernel_rfl) ?_; clear h
         rintro cy dm ⟨bw, rfl, h⟩
         refine ⟨[(1, vs (some e) lN lC), (5, vp ra), (7, vs d madeN madeC), (8, .map (some b)), (9, vi sum), (10, vi i), (12, vu 0), (13, vi 1), (76, vp ra), (80, vu bk), (84, vu bw)], pk, (show FactsAt _ _ _ from ⟨trivial, trivial, trivial⟩), ?_⟩
         refine G_call 9 (some 85) #[true, true, true, true, true, true, true, true, true, true, false, false, false, false, false] 9 #[vp ra, vu bk, vu bw] (by kernel_rfl) (fun _=>by kernel_rfl) h (by kernel_rfl) ?_; clear h
         rintro cm da ⟨y, ad, rfl, h⟩
         refine ⟨[(1, vs (some e) lN lC), (5, vp ra), (7, vs d madeN madeC), (8, .map (some b)), (9, vi sum), (10, vi i), (12, vu 0), (13, vi 1), (85, .tuple #[vu y, vi ad])], pk, (show FactsAt _ _ _ from ⟨trivial, trivial, trivial⟩), ?_⟩
         refine T_g 10 (some 75) (.tuple #[vu y, vi ad]) #[true, true, true, true, true, true, true, true, true, true, true, false, false, false, false] [(1, vs (some e) lN lC), (5, vp ra), (7, vs d madeN madeC), (8, .map (some b)), (9, vi sum), (10, vi i), (12, vu 0), (13, vi 1), (75, .tuple #[vu y, vi ad])] (pure (.value (.tuple #[vu y, vi ad])) : Sem Next) (fun _ _ _ _ _ => rfl) ?_
         refine T_g 11 (some 86) (vu y) #[true, true, true, true, true, true, true, true, true, true, true, true, false, false, false] [(1, vs (some e) lN lC), (5, vp ra), (7, vs d madeN madeC), (8, .map (some b)), (9, vi sum), (10, vi i), (12, vu 0), (13, vi 1), (75, .tuple #[vu y, vi ad]), (86, vu y)] (pure (.value (vu y)) : Sem Next) (fun _ _ _ _ _ => rfl) ?_
         refine T_g 12 (some 87) (vi ad) #[true, true, true, true, true, true, true, true, true, true, true, true, true, false, false] [(1, vs (some e) lN lC), (5, vp ra), (7, vs d madeN madeC), (8, .map (some b)), (9, vi sum), (10, vi i), (12, vu 0), (13, vi 1), (86, vu y), (87, vi ad)] (pure (.value (vi ad)) : Sem Next) (fun _ _ _ _ _ => rfl) ?_
         refine T_g 13 (some 12) (vu y) #[true, true, true, true, true, true, true, true, true, true, true, true, true, true, false] [(1, vs (some e) lN lC), (5, vp ra), (7, vs d madeN madeC), (8, .map (some b)), (9, vi sum), (10, vi i), (12, vu y), (13, vi 1), (87, vi ad)] (pure (.value (vu y)) : Sem Next) (fun _ _ _ _ _ => rfl) ?_
         refine T_g 14 (some 13) (vi ad) #[true, true, true, true, true, true, true, true, true, true, true, true, true, true, true] [(1, vs (some e) lN lC), (5, vp ra), (7, vs d madeN madeC), (8, .map (some b)), (9, vi sum), (10, vi i), (12, vu y), (13, vi ad)] (pure (.value (vi ad)) : Sem Next) (fun _ _ _ _ _ => rfl) ?_
         refine G_sub [(1, vs (some e) lN lC), (5, vp ra), (7, vs d madeN madeC), (8, .map (some b)), (9, vi sum), (10, vi i), (12, vu y), (13, vi ad)] sk ?_
         refine G_end (by kernel_rfl) ?_
         refine S_then ?_
         exact S_meet ((y, ad) : Int × Int) sk h
        ·rw [if_neg c69] at h
         have b70 : (m == 1) = false := beq_eq_false_iff_ne.mpr c69
         refine S_env [(1, vs (some e) lN lC), (5, vp ra), (7, vs d madeN madeC), (8, .map (some b)), (9, vi sum), (10, vi i), (11, vp (pa g)), (12, vu 0), (13, vi 1), (57, vi m), (73, .bool false)] (by simp only [b70, Bool.not_true, Bool.not_false]) ?_
         clear b70
         refine T_f 73 kk102 kk103 ?_
         refine T_sr 20 kk104 kk105 ?_
         refine T_ne 2 [(1, vs (some e) lN lC), (5, vp ra), (7, vs d madeN madeC), (8, .map (some b)), (9, vi sum), (10, vi i), (11, vp (pa g)), (12, vu 0), (13, vi 1), (57, vi m), (88, .bool (m == 2))] ?_
         by_cases c74 : m = 2
         ·rw [if_pos c74] at h
          have b75 : (m == 2) = true := beq_iff_eq.mpr c74
          refine S_env [(1, vs (some e) lN lC), (5, vp ra), (7, vs d madeN madeC), (8, .map (some b)), (9, vi sum), (10, vi i), (11, vp (pa g)), (12, vu 0), (13, vi 1), (57, vi m), (88, .bool true)] (by simp only [b75, Bool.not_true, Bool.not_false]) ?_
          clear b75
          refine T_t 88 kk106 kk107 ?_
          obtain ⟨ak, q76, h⟩ := h
          obtain ⟨ao, q77, h⟩ := h
          obtain ⟨xB, a3, xC, q78, h⟩ := h
          refine S_regionG 21 (Code.ops kk106) [(9, ((Addr.mk g 0 none).add 5), [vi ak]), (9, ((Addr.mk g 0 none).add 7), [vu ao]), (8, ((Addr.mk g 0 none).add 8), [vs xB a3 xC])] 15 #[false, false, false, false, false, false, false, false, false, false, false, false, false, false, false] (by kernel_rfl) (by kernel_rfl) (by kernel_rfl) (by kernel_rfl) (by kernel_rfl) (show FactsAt _ _ _ from ⟨⟨q76, trivial⟩, ⟨q77, trivial⟩, ⟨q78, trivial⟩, trivial⟩) ?_
          refine T_gp 0 (some 91) (vp ra) #[true, false, false, false, false, false, false, false, false, false, false, false, false, false, false] [(1, vs (some e) lN lC), (5, vp ra), (7, vs d madeN madeC), (8, .map (some b)), (9, vi sum), (10, vi i), (11, vp (pa g)), (12, vu 0), (13, vi 1), (91, vp ra)] ?_
          refine T_gp 1 (some 92) (vp (some ((Addr.mk g 0 none).add 5))) #[true, true, false, false, false, false, false, false, false, false, false, false, false, false, false] [(1, vs (some e) lN lC), (5, vp ra), (7, vs d madeN madeC), (8, .map (some b)), (9, vi sum), (10, vi i), (11, vp (pa g)), (12, vu 0), (13, vi 1), (91, vp ra), (92, vp (some ((Addr.mk g 0 none).add 5)))] ?_
          refine T_g 2 (some 93) (vi ak) #[true, true, true, false, false, false, false, false, false, false, false, false, false, false, false] [(1, vs (some e) lN lC), (5, vp ra), (7, vs d madeN madeC), (8, .map (some b)), (9, vi sum), (10, vi i), (11, vp (pa g)), (12, vu 0), (13, vi 1), (91, vp ra), (93, vi ak)] (loadN 3 (vp (some ((Addr.mk g 0 none).add 5)))) (held_one 9 (fun _=>by kernel_rfl) (List.Mem.head _) (.inl (by kernel_rfl))) ?_
          refine T_gp 3 (some 94) (vp (some ((Addr.mk g 0 none).add 7))) #[true, true, true, true, false, false, false, false, false, false, false, false, false, false, false] [(1, vs (some e) lN lC), (5, vp ra), (7, vs d madeN madeC), (8, .map (some b)), (9, vi sum), (10, vi i), (11, vp (pa g)), (12, vu 0), (13, vi 1), (91, vp ra), (93, vi ak), (94, vp (some ((Addr.mk g 0 none).add 7)))] ?_
          refine T_g 4 (some 95) (vu ao) #[true, true, true, true, true, false, false, false, false, false, false, false, false, false, false] [(1, vs (some e) lN lC), (5, vp ra), (7, vs d madeN madeC), (8, .map (some b)), (9, vi sum), (10, vi i), (11, vp (pa g)), (12, vu 0), (13, vi 1), (91, vp ra), (93, vi ak), (95, vu ao)] (loadN 31 (vp (some ((Addr.mk g 0 none).add 7)))) (held_one 9 (fun _=>by kernel_rfl) (List.Mem.tail _ (List.Mem.head _)) (.inl (by kernel_rfl))) ?_
          refine T_gp 5 (some 96) (vp (some ((Addr.mk g 0 none).add 8))) #[true, true, true, true, true, true, false, false, false, false, false, false, false, false, false] [(1, vs (some e) lN lC), (5, vp ra), (7, vs d madeN madeC), (8, .map (some b)), (9, vi sum), (10, vi i), (12, vu 0), (13, vi 1), (91, vp ra), (93, vi ak), (95, vu ao), (96, vp (some ((Addr.mk g 0 none).add 8)))] ?_
          refine T_g 6 (some 97) (vs xB a3 xC) #[true, true, true, true, true, true, true, false, false, false, false, false, false, false, false] [(1, vs (some e) lN lC), (5, vp ra), (7, vs d madeN madeC), (8, .map (some b)), (9, vi sum), (10, vi i), (12, vu 0), (13, vi 1), (91, vp ra), (93, vi ak), (95, vu ao), (97, vs xB a3 xC)] (loadN 35 (vp (some ((Addr.mk g 0 none).add 8)))) (held_one 8 (fun _=>by kernel_rfl) (List.Mem.tail _ (List.Mem.tail _ (List.Mem.head _))) (.inl (by kernel_rfl))) ?_
          refine T_gp 7 (some 98) (vs d madeN madeC) #[true, true, true, true, true, true, true, true, false, false, false, false, false, false, false] [(1, vs (some e) lN lC), (5, vp ra), (7, vs d madeN madeC), (8, .map (some b)), (9, vi sum), (10, vi i), (12, vu 0), (13, vi 1), (91, vp ra), (93, vi ak), (95, vu ao), (97, vs xB a3 xC), (98, vs d madeN madeC)] ?_
          refine G_call 8 (some 99) #[true, true, true, true, true, true, true, true, true, false, false, false, false, false, false] 11 #[vs xB a3 xC, vs d madeN madeC] (by kernel_rfl) (fun _=>by kernel_rfl) h (by kernel_rfl) ?_; clear h
          rintro c0 ci ⟨bv, bu, br, rfl, h⟩
          obtain ⟨f79, f80, h⟩ := h
          refine ⟨[(1, vs (some e) lN lC), (5, vp ra), (7, vs d madeN madeC), (8, .map (some b)), (9, vi sum), (10, vi i), (12, vu 0), (13, vi 1), (91, vp ra), (93, vi ak), (95, vu ao), (99, vs bv bu br)], pk, (show FactsAt _ _ _ from ⟨f79, f80, trivial, trivial⟩), ?_⟩
          refine G_call 9 (some 100) #[true, true, true, true, true, true, true, true, true, true, false, false, false, false, false] 10 #[vp ra, vi ak, vu ao, vs bv bu br] (by kernel_rfl) (fun _=>by kernel_rfl) h (by kernel_rfl) ?_; clear h
          rintro c1 dl ⟨ac, ag, rfl, h⟩
          refine ⟨[(1, vs (some e) lN lC), (5, vp ra), (7, vs d madeN madeC), (8, .map (some b)), (9, vi sum), (10, vi i), (12, vu 0), (13, vi 1), (100, .tuple #[vu ac, vi ag])], pk, (show FactsAt _ _ _ from ⟨trivial, trivial, trivial, trivial⟩), ?_⟩
          refine T_g 10 (some 90) (.tuple #[vu ac, vi ag]) #[true, true, true, true, true, true, true, true, true, true, true, false, false, false, false] [(1, vs (some e) lN lC), (5, vp ra), (7, vs d madeN madeC), (8, .map (some b)), (9, vi sum), (10, vi i), (12, vu 0), (13, vi 1), (90, .tuple #[vu ac, vi ag])] (pure (.value (.tuple #[vu ac, vi ag])) : Sem Next) (fun _ _ _ _ _ => rfl) ?_
          refine T_g 11 (some 101) (vu ac) #[true, true, true, true, true, true, true, true, true, true, true, true, false, false, false] [(1, vs (some e) lN lC), (5, vp ra), (7, vs d madeN madeC), (8, .map (some b)), (9, vi sum), (10, vi i), (12, vu 0), (13, vi 1), (90, .tuple #[vu ac, vi ag]), (101, vu ac)] (pure (.value (vu ac)) : Sem Next) (fun _ _ _ _ _ => rfl) ?_
          refine T_g 12 (some 102) (vi ag) #[true, true, true, true, true, true, true, true, true, true, true, true, true, false, false] [(1, vs (some e) lN lC), (5, vp ra), (7, vs d madeN madeC), (8, .map (some b)), (9, vi sum), (10, vi i), (12, vu 0), (13, vi 1), (101, vu ac), (102, vi ag)] (pure (.value (vi ag)) : Sem Next) (fun _ _ _ _ _ => rfl) ?_
          refine T_g 13 (some 12) (vu ac) #[true, true, true, true, true, true, true, true, true, true, true, true, true, true, false] [(1, vs (some e) lN lC), (5, vp ra), (7, vs d madeN madeC), (8, .map (some b)), (9, vi sum), (10, vi i), (12, vu ac), (13, vi 1), (102, vi ag)] (pure (.value (vu ac)) : Sem Next) (fun _ _ _ _ _ => rfl) ?_
          refine T_g 14 (some 13) (vi ag) #[true, true, true, true, true, true, true, true, true, true, true, true, true, true, true] [(1, vs (some e) lN lC), (5, vp ra), (7, vs d madeN madeC), (8, .map (some b)), (9, vi sum), (10, vi i), (12, vu ac), (13, vi ag)] (pure (.value (vi ag)) : Sem Next) (fun _ _ _ _ _ => rfl) ?_
          refine G_sub [(1, vs (some e) lN lC), (5, vp ra), (7, vs d madeN madeC), (8, .map (some b)), (9, vi sum), (10, vi i), (12, vu ac), (13, vi ag)] sk ?_
          refine G_end (by kernel_rfl) ?_
          refine S_then ?_
          exact S_meet ((ac, ag) : Int × Int) sk h
         ·rw [if_neg c74] at h
          have b75 : (m == 2) = false := beq_eq_false_iff_ne.mpr c74
          refine S_env [(1, vs (some e) lN lC), (5, vp ra), (7, vs d madeN madeC), (8, .map (some b)), (9, vi sum), (10, vi i), (11, vp (pa g)), (12, vu 0), (13, vi 1), (57, vi m), (88, .bool false)] (by simp only [b75, Bool.not_true, Bool.not_false]) ?_
          clear b75
          refine T_f 88 kk106 kk107 ?_
          refine T_sr 22 kk108 kk109 ?_
          refine T_ne 2 [(1, vs (some e) lN lC), (5, vp ra), (7, vs d madeN madeC), (8, .map (some b)), (9, vi sum), (10, vi i), (11, vp (pa g)), (12, vu 0), (13, vi 1), (57, vi m), (103, .bool (m == 3))] ?_
          by_cases c81 : m = 3
          ·rw [if_pos c81] at h
           have b82 : (m == 3) = true := beq_iff_eq.mpr c81
           refine S_env [(1, vs (some e) lN lC), (5, vp ra), (7, vs d madeN madeC), (8, .map (some b)), (9, vi sum), (10, vi i), (11, vp (pa g)), (12, vu 0), (13, vi 1), (57, vi m), (103, .bool true)] (by simp only [b82, Bool.not_true, Bool.not_false]) ?_
           clear b82
           refine T_t 103 kk110 kk111 ?_
           obtain ⟨an, q83, h⟩ := h
           obtain ⟨a4, av, q84, h⟩ := h
           refine S_regionG 23 (Code.ops kk110) [(7, ((Addr.mk g 0 none).add 6), [vi an]), (6, ((Addr.mk g 0 none).add 1), [vu a4, vi av])] 13 #[false, false, false, false, false, false, false, false, false, false, false, false, false] (by kernel_rfl) (by kernel_rfl) (by kernel_rfl) (by kernel_rfl) (by kernel_rfl) (show FactsAt _ _ _ from ⟨⟨q83, trivial⟩, q84, trivial⟩) ?_
           refine T_gp 0 (some 106) (vp ra) #[true, false, false, false, false, false, false, false, false, false, false, false, false] [(1, vs (some e) lN lC), (5, vp ra), (7, vs d madeN madeC), (8, .map (some b)), (9, vi sum), (10, vi i), (11, vp (pa g)), (12, vu 0), (13, vi 1), (106, vp ra)] ?_
           refine T_gp 1 (some 107) (vp (some ((Addr.mk g 0 none).add 6))) #[true, true, false, false, false, false, false, false, false, false, false, false, false] [(1, vs (some e) lN lC), (5, vp ra), (7, vs d madeN madeC), (8, .map (some b)), (9, vi sum), (10, vi i), (11, vp (pa g)), (12, vu 0), (13, vi 1), (106, vp ra), (107, vp (some ((Addr.mk g 0 none).add 6)))] ?_
           refine T_g 2 (some 108) (vi an) #[true, true, true, false, false, false, false, false, false, false, false, false, false] [(1, vs (some e) lN lC), (5, vp ra), (7, vs d madeN madeC), (8, .map (some b)), (9, vi sum), (10, vi i), (11, vp (pa g)), (12, vu 0), (13, vi 1), (106, vp ra), (108, vi an)] (loadN 3 (vp (some ((Addr.mk g 0 none).add 6)))) (held_one 7 (fun _=>by kernel_rfl) (List.Mem.head _) (.inl (by kernel_rfl))) ?_
           refine T_gp 3 (some 109) (vp (some ((Addr.mk g 0 none).add 1))) #[true, true, true, true, false, false, false, false, false, false, false, false, false] [(1, vs (some e) lN lC), (5, vp ra), (7, vs d madeN madeC), (8, .map (some b)), (9, vi sum), (10, vi i), (12, vu 0), (13, vi 1), (106, vp ra), (108, vi an), (109, vp (some ((Addr.mk g 0 none).add 1)))] ?_
           refine T_g 4 (some 110) (.agg #[vu a4, vi av]) #[true, true, true, true, true, false, false, false, false, false, false, false, false] [(1, vs (some e) lN lC), (5, vp ra), (7, vs d madeN madeC), (8, .map (some b)), (9, vi sum), (10, vi i), (12, vu 0), (13, vi 1), (106, vp ra), (108, vi an), (110, .agg #[vu a4, vi av])] (loadN 34 (vp (some ((Addr.mk g 0 none).add 1)))) (held_row 6 (fun _=>by kernel_rfl) (fun _=>by kernel_rfl) (List.Mem.tail _ (List.Mem.head _)) (.inl (by kernel_rfl))) ?_
           refine T_gp 5 (some 111) (vs d madeN madeC) #[true, true, true, true, true, true, false, false, false, false, false, false, false] [(1, vs (some e) lN lC), (5, vp ra), (7, vs d madeN madeC), (8, .map (some b)), (9, vi sum), (10, vi i), (12, vu 0), (13, vi 1), (106, vp ra), (108, vi an), (110, .agg #[vu a4, vi av]), (111, vs d madeN madeC)] ?_
           refine G_call 6 (some 112) #[true, true, true, true, true, true, true, false, false, false, false, false, false] 8 #[.agg #[vu a4, vi av], vs d madeN madeC] (by kernel_rfl) (fun _=>by kernel_rfl) h (by kernel_rfl) ?_; clear h
           rintro cu cn ⟨bx, rfl, h⟩
           obtain ⟨f85, h⟩ := h
           refine ⟨[(1, vs (some e) lN lC), (5, vp ra), (7, vs d madeN madeC), (8, .map (some b)), (9, vi sum), (10, vi i), (12, vu 0), (13, vi 1), (106, vp ra), (108, vi an), (112, vu bx)], pk, (show FactsAt _ _ _ from ⟨f85, trivial, trivial⟩), ?_⟩
           refine G_call 7 (some 113) #[true, true, true, true, true, true, true, true, false, false, false, false, false] 12 #[vp ra, vi an, vu bx] (by kernel_rfl) (fun _=>by kernel_rfl) h (by kernel_rfl) ?_; clear h
           rintro cw dj ⟨aa, af, rfl, h⟩
           refine ⟨[(1, vs (some e) lN lC), (5, vp ra), (7, vs d madeN madeC), (8, .map (some b)), (9, vi sum), (10, vi i), (12, vu 0), (13, vi 1), (113, .tuple #[vu aa, vi af])], pk, (show FactsAt _ _ _ from ⟨trivial, trivial, trivial⟩), ?_⟩
           refine T_g 8 (some 105) (.tuple #[vu aa, vi af]) #[true, true, true, true, true, true, true, true, true, false, false, false, false] [(1, vs (some e) lN lC), (5, vp ra), (7, vs d madeN madeC), (8, .map (some b)), (9, vi sum), (10, vi i), (12, vu 0), (13, vi 1), (105, .tuple #[vu aa, vi af])] (pure (.value (.tuple #[vu aa, vi af])) : Sem Next) (fun _ _ _ _ _ => rfl) ?_
           refine T_g 9 (some 114) (vu aa) #[true, true, true, true, true, true, true, true, true, true, false, false, false] [(1, vs (some e) lN lC), (5, vp ra), (7, vs d madeN madeC), (8, .map (some b)), (9, vi sum), (10, vi i), (12, vu 0), (13, vi 1), (105, .tuple #[vu aa, vi af]), (114, vu aa)] (pure (.value (vu aa)) : Sem Next) (fun _ _ _ _ _ => rfl) ?_
           refine T_g 10 (some 115) (vi af) #[true, true, true, true, true, true, true, true, true, true, true, false, false] [(1, vs (some e) lN lC), (5, vp ra), (7, vs d madeN madeC), (8, .map (some b)), (9, vi sum), (10, vi i), (12, vu 0), (13, vi 1), (114, vu aa), (115, vi af)] (pure (.value (vi af)) : Sem Next) (fun _ _ _ _ _ => rfl) ?_
           refine T_g 11 (some 12) (vu aa) #[true, true, true, true, true, true, true, true, true, true, true, true, false] [(1, vs (some e) lN lC), (5, vp ra), (7, vs d madeN madeC), (8, .map (some b)), (9, vi sum), (10, vi i), (12, vu aa), (13, vi 1), (115, vi af)] (pure (.value (vu aa)) : Sem Next) (fun _ _ _ _ _ => rfl) ?_
           refine T_g 12 (some 13) (vi af) #[true, true, true, true, true, true, true, true, true, true, true, true, true] [(1, vs (some e) lN lC), (5, vp ra), (7, vs d madeN madeC), (8, .map (some b)), (9, vi sum), (10, vi i), (12, vu aa), (13, vi af)] (pure (.value (vi af)) : Sem Next) (fun _ _ _ _ _ => rfl) ?_
           refine G_sub [(1, vs (some e) lN lC), (5, vp ra), (7, vs d madeN madeC), (8, .map (some b)), (9, vi sum), (10, vi i), (12, vu aa), (13, vi af)] sk ?_
           refine G_end (by kernel_rfl) ?_
           refine S_then ?_
           exact S_meet ((aa, af) : Int × Int) sk h
          ·rw [if_neg c81] at h
           have b82 : (m == 3) = false := beq_eq_false_iff_ne.mpr c81
           refine S_env [(1, vs (some e) lN lC), (5, vp ra), (7, vs d madeN madeC), (8, .map (some b)), (9, vi sum), (10, vi i), (11, vp (pa g)), (12, vu 0), (13, vi 1), (57, vi m), (103, .bool false)] (by simp only [b82, Bool.not_true, Bool.not_false]) ?_
           clear b82
           refine T_f 103 kk110 kk111 ?_
           refine T_sr 24 kk112 kk113 ?_
           refine T_ne 2 [(1, vs (some e) lN lC), (5, vp ra), (7, vs d madeN madeC), (8, .map (some b)), (9, vi sum), (10, vi i), (11, vp (pa g)), (12, vu 0), (13, vi 1), (57, vi m), (116, .bool (m == 4))] ?_
           by_cases c86 : m = 4
           ·rw [if_pos c86] at h
            have b87 : (m == 4) = true := beq_iff_eq.mpr c86
            refine S_env [(1, vs (some e) lN lC), (5, vp ra), (7, vs d madeN madeC), (8, .map (some b)), (9, vi sum), (10, vi i), (11, vp (pa g)), (12, vu 0), (13, vi 1), (57, vi m), (116, .bool true)] (by simp only [b87, Bool.not_true, Bool.not_false]) ?_
            clear b87
            refine T_t 116 kk114 kk115 ?_
            refine T_r 25 kk114 ?_
            refine T_n 2 [(1, vs (some e) lN lC), (5, vp ra), (7, vs d madeN madeC), (8, .map (some b)), (9, vi sum), (10, vi i), (119, vp ra), (120, vp (some ((Addr.mk g 0 none).add 9)))] ?_
            obtain ⟨bl, q88, h⟩ := h
            refine T_l (some 121) 9 q88 [(1, vs (some e) lN lC), (5, vp ra), (7, vs d madeN madeC), (8, .map (some b)), (9, vi sum), (10, vi i), (119, vp ra), (121, .string bl)] ?_
            refine N_call (some 122) 13 #[vp ra, .string bl] (fun _=>by kernel_rfl) h ?_; clear h
            rintro cz c7 ⟨bj, bi, rfl, h⟩
            refine ⟨[(1, vs (some e) lN lC), (5, vp ra), (7, vs d madeN madeC), (8, .map (some b)), (9, vi sum), (10, vi i), (122, .tuple #[vu bj, vi bi])], pk, ?_⟩
            refine T_ne 5 [(1, vs (some e) lN lC), (5, vp ra), (7, vs d madeN madeC), (8, .map (some b)), (9, vi sum), (10, vi i), (12, vu bj), (13, vi bi)] ?_
            exact S_meet ((bj, bi) : Int × Int) sk h
           ·rw [if_neg c86] at h
            have b87 : (m == 4) = false := beq_eq_false_iff_ne.mpr c86
            refine S_env [(1, vs (some e) lN lC), (5, vp ra), (7, vs d madeN madeC), (8, .map (some b)), (9, vi sum), (10, vi i), (11, vp (pa g)), (12, vu 0), (13, vi 1), (57, vi m), (116, .bool false)] (by simp only [b87, Bool.not_true, Bool.not_false]) ?_
            clear b87
            refine T_f 116 kk114 kk115 ?_
            refine T_sr 26 kk116 kk117 ?_
            refine T_ne 2 [(1, vs (some e) lN lC), (5, vp ra), (7, vs d madeN madeC), (8, .map (some b)), (9, vi sum), (10, vi i), (11, vp (pa g)), (12, vu 0), (13, vi 1), (125, .bool (m == 5))] ?_
            by_cases c89 : m = 5
            ·rw [if_pos c89] at h
             have b90 : (m == 5) = true := beq_iff_eq.mpr c89
             refine S_env [(1, vs (some e) lN lC), (5, vp ra), (7, vs d madeN madeC), (8, .map (some b)), (9, vi sum), (10, vi i), (11, vp (pa g)), (12, vu 0), (13, vi 1), (125, .bool true)] (by simp only [b90, Bool.not_true, Bool.not_false]) ?_
             clear b90
             refine T_t 125 kk118 kk119 ?_
             refine T_r 27 kk118 ?_
             refine T_n 2 [(1, vs (some e) lN lC), (5, vp ra), (7, vs d madeN madeC), (8, .map (some b)), (9, vi sum), (10, vi i), (128, vp ra), (129, vp (some ((Addr.mk g 0 none).add 10)))] ?_
             obtain ⟨bo, a5, a7, a6, q91, h⟩ := h
             refine T_v (some 130) (loadN 38 (vp (some ((Addr.mk g 0 none).add 10)))) (.agg #[.bool bo, vs a5 a7 a6]) (loadN_run (loadOK_row (fun _=>by kernel_rfl) (fun _=>by kernel_rfl) q91)) [(1, vs (some e) lN lC), (5, vp ra), (7, vs d madeN madeC), (8, .map (some b)), (9, vi sum), (10, vi i), (128, vp ra), (130, .agg #[.bool bo, vs a5 a7 a6])] ?_
             refine N_call (some 131) 14 #[vp ra, .agg #[.bool bo, vs a5 a7 a6]] (fun _=>by kernel_rfl) h ?_; clear h
             rintro cx c9 ⟨bm, bn, rfl, h⟩
             refine ⟨[(1, vs (some e) lN lC), (5, vp ra), (7, vs d madeN madeC), (8, .map (some b)), (9, vi sum), (10, vi i), (131, .tuple #[vu bm, vi bn])], pk, ?_⟩
             refine T_ne 5 [(1, vs (some e) lN lC), (5, vp ra), (7, vs d madeN madeC), (8, .map (some b)), (9, vi sum), (10, vi i), (12, vu bm), (13, vi bn)] ?_
             exact S_meet ((bm, bn) : Int × Int) sk h
            ·rw [if_neg c89] at h
             have b90 : (m == 5) = false := beq_eq_false_iff_ne.mpr c89
             refine S_env [(1, vs (some e) lN lC), (5, vp ra), (7, vs d madeN madeC), (8, .map (some b)), (9, vi sum), (10, vi i), (11, vp (pa g)), (12, vu 0), (13, vi 1), (125, .bool false)] (by simp only [b90, Bool.not_true, Bool.not_false]) ?_
             clear b90
             refine T_f 125 kk118 kk119 ?_
             refine T_kt ?_
             exact S_meet ((0, 1) : Int × Int) sk h
     ·rw [if_neg c22] at h
      have b23 : (decide (i < (lN : Int))) = false := decide_eq_false c22
      refine S_env [(1, vs lB lN lC), (5, vp ra), (7, vs d madeN madeC), (8, .map (some b)), (9, vi sum), (10, vi i), (49, .bool false)] (by simp only [b23, Bool.not_true, Bool.not_false]) ?_
      clear b23
      refine T_f 49 kk37 kk38 ?_
      refine S_exit 0 (by kernel_rfl) ?_
      refine S_exitThen ?_
      refine S_exitThen ?_
      refine S_exitHere ?_
      refine S_then ?_
      refine T_sr 41 kk120 kk121 ?_
      refine T_n 1 [(5, vp ra), (9, vi sum), (200, vp ra)] ?_
      obtain ⟨q, rfl, h⟩ := h
      refine T_n 2 [(5, vp (some q)), (9, vi sum), (202, vp (some q))] ?_
      obtain ⟨b1, q92, h⟩ := h
      refine T_l (some 203) 53 q92 [(5, vp (some q)), (9, vi sum), (203, vp b1)] ?_
      obtain ⟨bt, rfl, h⟩ := h
      refine T_n 2 [(5, vp (some q)), (9, vi sum), (205, vp (some bt))] ?_
      obtain ⟨bp, q93, h⟩ := h
      refine T_l (some 206) 58 q93 [(5, vp (some q)), (9, vi sum), (206, vp bp)] ?_
      refine N_call (some 207) 17 #[vp bp, vs none 0 0] (fun _=>by kernel_rfl) h ?_; clear h
      rintro cq cc ⟨a1, rfl, h⟩
      refine ⟨[(5, vp (some q)), (9, vi sum), (207, vi a1)], pk, ?_⟩
      refine T_n 3 [(5, vp (some q)), (9, vi sum), (210, .bool (a1 == sum))] ?_
      by_cases c94 : a1 = sum
      ·rw [if_pos c94] at h
       have b95 : (a1 == sum) = true := beq_iff_eq.mpr c94
       refine N_env [(5, vp (some q)), (9, vi sum), (210, .bool true)] (by simp only [b95, Bool.not_true, Bool.not_false]) ?_
       clear b95
       refine T_n 3 [(9, vi sum), (210, .bool true), (213, vp (some q))] ?_
       obtain ⟨bs, q96, h⟩ := h
       refine T_l (some 214) 53 q96 [(9, vi sum), (210, .bool true), (214, vp bs)] ?_
       obtain ⟨b0, rfl, h⟩ := h
       refine T_n 2 [(9, vi sum), (210, .bool true), (216, vp (some b0))] ?_
       obtain ⟨a9, q97, h⟩ := h
       refine T_l (some 217) 58 q97 [(9, vi sum), (210, .bool true), (217, vp a9)] ?_
       refine N_new (some 218) (fun b => vs (pa b) 1 1) (.cells #[vi 0] 3) (fun _=>by kernel_rfl) ?_
       intro b4 H31 e98 e99
       replace h := h b4 H31 e98 e99
       refine ⟨[(9, vi sum), (210, .bool true), (217, vp a9), (218, vs (pa b4) 1 1)], pk, ?_⟩
       refine N_call (some 219) 17 #[vp a9, vs (pa b4) 1 1] (fun _=>by kernel_rfl) h ?_; clear h
       rintro cr ct ⟨a0, rfl, h⟩
       refine ⟨[(9, vi sum), (210, .bool true), (219, vi a0)], pk, ?_⟩
       refine T_n 4 [(223, .bool (a0 == sum))] ?_
       by_cases c100 : a0 = sum
       ·rw [if_pos c100] at h
        have b101 : (a0 == sum) = true := beq_iff_eq.mpr c100
        refine N_env [(223, .bool true)] (by simp only [b101, Bool.not_true, Bool.not_false]) ?_
        clear b101
        refine N_call (some 224) 6 #[] (fun _=>by kernel_rfl) h ?_; clear h
        rintro cj df ⟨bh, rfl, h⟩
        refine ⟨[(223, .bool true), (224, .bool bh)], pk, ?_⟩
        refine T_ne 2 [(4, .bool bh)] ?_
        refine S_ret (by kernel_rfl) ?_
        show At _ _ _ _ _ (Q .ret)
        exact S_done (fn := Try.f3) [.bool bh] hQ (show ResOK _ _ _ [.tmp 4] _ from .tmp (by kernel_rfl) (.nil)) h
       ·rw [if_neg c100] at h
        have b101 : (a0 == sum) = false := beq_eq_false_iff_ne.mpr c100
        refine N_env [(223, .bool false)] (by simp only [b101, Bool.not_true, Bool.not_false]) ?_
        clear b101
        refine T_ne 3 [(4, .bool false)] ?_
        refine S_ret (by kernel_rfl) ?_
        show At _ _ _ _ _ (Q .ret)
        exact S_done (fn := Try.f3) [.bool false] hQ (show ResOK _ _ _ [.tmp 4] _ from .tmp (by kernel_rfl) (.nil)) h
      ·rw [if_neg c94] at h
       have b95 : (a1 == sum) = false := beq_eq_false_iff_ne.mpr c94
       refine N_env [(5, vp (some q)), (9, vi sum), (210, .bool false)] (by simp only [b95, Bool.not_true, Bool.not_false]) ?_
       clear b95
       refine T_ne 16 [(4, .bool false)] ?_
       refine S_ret (by kernel_rfl) ?_
       show At _ _ _ _ _ (Q .ret)
       exact S_done (fn := Try.f3) [.bool false] hQ (show ResOK _ _ _ [.tmp 4] _ from .tmp (by kernel_rfl) (.nil)) h
   ·intro hk
    refine T_nu [(1, vs lB lN lC), (5, vp ra), (6, vi rb), (32, .bool x)] ?_
    by_cases c6 : x = true
    ·have b7 : x = true := c6
     refine N_env [(1, vs lB lN lC), (5, vp ra), (6, vi rb), (32, .bool true)] (by simp only [b7, Bool.not_true, Bool.not_false]) ?_
     refine T_n 3 [(1, vs lB lN lC), (5, vp ra), (6, vi rb), (35, .bool true)] ?_
     refine N_end (by kernel_rfl) ?_
     refine S_env [(1, vs lB lN lC), (5, vp ra), (6, vi rb), (35, .bool (x || (rb != 0)))] (by simp only [b7, Bool.true_or, Bool.false_or, Bool.or_true, Bool.or_false, Bool.true_and, Bool.false_and, Bool.and_true, Bool.and_false, Bool.not_true, Bool.not_false, cond_true, cond_false]) ?_
     exact hk
    ·have b7 : x = false := eq_false_of_ne_true c6
     refine N_env [(1, vs lB lN lC), (5, vp ra), (6, vi rb), (32, .bool false)] (by simp only [b7, Bool.not_true, Bool.not_false]) ?_
     refine T_n 3 [(1, vs lB lN lC), (5, vp ra), (6, vi rb), (35, .bool (rb != 0))] ?_
     refine N_end (by kernel_rfl) ?_
     refine S_env [(1, vs lB lN lC), (5, vp ra), (6, vi rb), (35, .bool (x || (rb != 0)))] (by simp only [b7, Bool.true_or, Bool.false_or, Bool.or_true, Bool.or_false, Bool.true_and, Bool.false_and, Bool.and_true, Bool.and_false, Bool.not_true, Bool.not_false, cond_true, cond_false]) ?_
     exact hk
 ·refine T_r 2 kk7 ?_
  refine T_n 3 [(1, vs lB lN lC), (5, vp ra), (6, vi rb), (26, .bool (rb == 0))] ?_
  by_cases c102 : rb = 0
  ·rw [if_pos c102] at h
   have b103 : (rb == 0) = true := beq_iff_eq.mpr c102
   refine N_env [(1, vs lB lN lC), (5, vp ra), (6, vi rb), (26, .bool true)] (by simp only [b103, Bool.not_true, Bool.not_false]) ?_
   clear b103
   refine T_n 1 [(1, vs lB lN lC), (5, vp ra), (6, vi rb), (26, .bool true), (27, vp ra)] ?_
   rcases ra with _ | ch
   ·rw [onPtr_none] at h
    refine T_ne 2 [(1, vs lB lN lC), (5, vp none), (6, vi rb), (29, .bool true)] ?_
    exact S_meet (true : Bool) sk h
   ·rw [onPtr_some] at h
    refine T_ne 2 [(1, vs lB lN lC), (5, vp (some ch)), (6, vi rb), (29, .bool false)] ?_
    exact S_meet (false : Bool) sk h
  ·rw [if_neg c102] at h
   have b103 : (rb == 0) = false := beq_eq_false_iff_ne.mpr c102
   refine N_env [(1, vs lB lN lC), (5, vp ra), (6, vi rb), (26, .bool false)] (by simp only [b103, Bool.not_true, Bool.not_false]) ?_
   clear b103
   refine T_ne 3 [(1, vs lB lN lC), (5, vp ra), (6, vi rb), (29, .bool false)] ?_
   exact S_meet (false : Bool) sk h
end morainelaw10_ObjApart

end Go.Proofs.Ytillpfaabdlaiaa
