/-
 Written by a program of mine (gen.py): for functions of this translation a predicate transformer over heaps (.pt), and the proof that it is sound for the call (.link).
-/
import Derived.Test.YtillpfaabdlaiaaFnsC
set_option linter.unusedSimpArgs false
set_option linter.unusedVariables false
set_option maxHeartbeats 1000000
noncomputable section
namespace Go.Proofs.Ytillpfaabdlaiaa
open Go
/-! moraine/num.Norm -/
namespace num_Norm
def kk0 := Func.code Try.f28
def kk1 := Code.fa kk0
def kk2 := Code.fb kk0
def kk3 := Code.fa kk2
def kk4 := Code.fb kk2
end num_Norm
def num_Norm.pt (nNeg : Bool) (nMagB : Option Addr) (nMagN : Nat) (nMagC : Nat) (H : Array Obj) (R : Value → Array Obj → Prop) : Prop :=
 ∀ (b : Nat) (H1 : Array Obj), b = H.size → H1 = H.push (.cells #[.bool nNeg, .slice nMagB nMagN nMagC] 38) →
 ∀ (a : Nat) (H2 : Array Obj), a = H1.size → H2 = H1.push (.cells #[.bool false, .slice none 0 0] 38) →
 ∃ x : Bool, hat H2 (Addr.mk b 0 none) = some (.bool x) ∧
 ∃ xB : Option Addr, ∃ xN : Nat, ∃ xC : Nat, hat H2 ((Addr.mk b 0 none).add 1) = some (.slice xB xN xC) ∧
 num_made.C x xB xN xC H2 (fun v H3 => ∃ g : Bool, ∃ e : Option Addr, ∃ f : Nat, ∃ d : Nat, ∃ rb : Int, v = .tuple #[.agg #[.bool g, .slice e f d], .int .i64 rb] ∧ 
 (CanPuts H3 (Addr.mk a 0 none) 0 2) ∧ ∀ H4 : Array Obj, H4 = hputs H3 (Addr.mk a 0 none) [.bool g, .slice e f d] 0 →
 ∃ l : Bool, ∃ i : Option Addr, ∃ k : Nat, ∃ j : Nat, RowAt H4 (Addr.mk a 0 none) 0 [.bool l, .slice i k j] ∧
 R (.tuple #[.agg #[.bool l, .slice i k j], .int .i64 rb]) H4)
namespace num_Norm
set_option maxRecDepth 100000 in
theorem link {nNeg : Bool} {nMagB : Option Addr} {nMagN : Nat} {nMagC : Nat} {H : Array Obj} {R : Value → Array Obj → Prop} (h : pt nNeg nMagB nMagN nMagC H R) : C nNeg nMagB nMagN nMagC H R := by
 refine S_enter (fn := Try.f28) (c := kk0) 11 Try.func28 (by kernel_rfl) (by kernel_rfl) (Nat.le_of_ble_eq_true (by kernel_rfl)) ?_
 intro w0 Q hQ
 unfold pt at h
 refine T_su [(0, .agg #[.bool nNeg, vs nMagB nMagN nMagC])] ?_
 refine T_sr 0 kk1 kk2 ?_
 refine N_new (some 1) (fun b => vp (pa b)) (.cells #[.bool nNeg, vs nMagB nMagN nMagC] 38) (fun _=>by kernel_rfl) ?_
 intro b H1 e1 e2
 replace h := h b H1 e1 e2
 refine ⟨[(1, vp (pa b))], pk, ?_⟩
 refine N_new (some 2) (fun b => vp (pa b)) (.cells #[.bool false, vs none 0 0] 38) (fun _=>by kernel_rfl) ?_
 intro a H2 e3 e4
 replace h := h a H2 e3 e4
 refine ⟨[(1, vp (pa b)), (2, vp (pa a))], pk, ?_⟩
 refine T_ne 1 [(1, vp (pa b)), (2, vp (pa a))] ?_
 refine T_sr 1 kk3 kk4 ?_
 refine T_n 1 [(1, vp (pa b)), (2, vp (pa a)), (4, vp (pa b))] ?_
 obtain ⟨x, q5, h⟩ := h
 refine T_l (some 5) 4 q5 [(1, vp (pa b)), (2, vp (pa a)), (5, .bool x)] ?_
 refine T_n 1 [(2, vp (pa a)), (5, .bool x), (6, vp (some ((Addr.mk b 0 none).add 1)))] ?_
 obtain ⟨xB, xN, xC, q6, h⟩ := h
 refine T_l (some 7) 36 q6 [(2, vp (pa a)), (5, .bool x), (7, vs xB xN xC)] ?_
 refine N_call (some 8) 49 #[.bool x, vs xB xN xC] (fun _=>by kernel_rfl) h ?_; clear h
 rintro v H3 ⟨g, e, f, d, rb, rfl, h⟩
 refine ⟨[(2, vp (pa a)), (8, .tuple #[.agg #[.bool g, vs e f d], vi rb])], pk, ?_⟩
 refine T_n 2 [(2, vp (pa a)), (9, .agg #[.bool g, vs e f d]), (10, vi rb)] ?_
 obtain ⟨q8, h⟩ := h
 refine N_skipop none (storeN 38 (vp (pa a)) (.agg #[.bool g, vs e f d])) (fun Hz => Hz = hputs H3 (Addr.mk a 0 none) [.bool g, vs e f d] 0) (fun _=>by kernel_rfl) (ss_store [.bool g, vs e f d] 2 (by kernel_rfl) (by kernel_rfl) (fun _=>by kernel_rfl) (by kernel_rfl) q8) ?_
 intro H4 e7
 replace h := h H4 e7
 refine ⟨[(2, vp (pa a)), (10, vi rb)], pk, ?_⟩
 refine T_ne 1 [(2, vp (pa a)), (3, vi rb)] ?_
 refine S_ret (by kernel_rfl) ?_
 show At _ _ _ _ _ (Q .ret)
 obtain ⟨l, i, k, j, q9, h⟩ := h
 exact S_done (fn := Try.f28) [.agg #[.bool l, vs i k j], vi rb] hQ (show ResOK _ _ _ [.cell 2 38, .tmp 3] _ from .cell (by kernel_rfl) (loadOK_row (fun _=>by kernel_rfl) (fun _=>by kernel_rfl) q9) (.tmp (by kernel_rfl) (.nil))) h
end num_Norm

/-! moraine/num.Fix -/
namespace num_Fix
def kk0 := Func.code Try.f29
def kk1 := Code.fa kk0
def kk2 := Code.fb kk0
def kk3 := Code.fa kk2
def kk4 := Code.fb kk2
def kk5 := Code.fa kk4
def kk6 := Code.fb kk4
def kk7 := Code.fa kk6
def kk8 := Code.fb kk6
def kk9 := Code.fa kk7
def kk10 := Code.fb kk7
def kk11 := Code.fa kk10
def kk12 := Code.fa kk11
def kk13 := Code.fa kk12
def kk14 := Code.fb kk12
def kk15 := Code.fa kk14
def kk16 := Code.fb kk14
def kk17 := Code.fa kk15
def kk18 := Code.fb kk15
def kk19 := Code.fa kk16
def kk20 := Code.fb kk16
def kk21 := Code.fa kk19
def kk22 := Code.fa kk21
def kk23 := Code.fb kk21
def kk24 := Code.fa kk8
def kk25 := Code.fb kk8
def kk26 := Code.fa kk24
def kk27 := Code.fa kk26
def kk28 := Code.fb kk26
def kk29 := Code.fa kk28
def kk30 := Code.fb kk28
def kk31 := Code.fa kk29
def kk32 := Code.fb kk29
def kk33 := Code.fa kk30
def kk34 := Code.fb kk30
def kk35 := Code.fa kk34
def kk36 := Code.fb kk34
def kk37 := Code.fa kk35
def kk38 := Code.fb kk35
def kk39 := Code.fa kk25
def kk40 := Code.fb kk25
end num_Fix
def num_Fix.pt (nNeg : Bool) (nMagB : Option Addr) (nMagN : Nat) (nMagC : Nat) (H : Array Obj) (R : Value → Array Obj → Prop) : Prop :=
 ∀ (b : Nat) (H1 : Array Obj), b = H.size → H1 = H.push (.cells #[.bool nNeg, .slice nMagB nMagN nMagC] 38) →
 ∃ xB : Option Addr, ∃ xN : Nat, ∃ xC : Nat, hat H1 ((Addr.mk b 0 none).add 1) = some (.slice xB xN xC) ∧
 num_trim.C xB xN xC H1 (fun v H2 => ∃ f : Option Addr, ∃ d : Nat, ∃ e : Nat, v = .slice f d e ∧ 
 ∃ (o : Int → Int → Array Obj → Prop) (m13 : Int → Int → Array Obj → Nat), o 0 0 H2 ∧ ∀ (x : Int) (s13 : Int) (H3 : Array Obj), o x s13 H3 →
 if s13 < (if 2 < (d : Int) then 2 else (d : Int)) then (
 ∃ g : Addr, f = some g ∧
 ((0 : Int) ≤ s13 ∧ s13 < (d : Int)) ∧
 ∃ j : Int, hat H3 (g.add (Int.toNat s13 * 1)) = some (.int .u32 j) ∧
 (0 ≤ (IntKind.wrap .i64 (32 * s13))) ∧
 (o (ior .u64 x (ishl .u64 (IntKind.wrap .u64 j) (IntKind.wrap .i64 (32 * s13)))) (IntKind.wrap .i64 (s13 + 1)) H3 ∧ m13 (ior .u64 x (ishl .u64 (IntKind.wrap .u64 j) (IntKind.wrap .i64 (32 * s13)))) (IntKind.wrap .i64 (s13 + 1)) H3 < m13 x s13 H3))
 else
 if (d : Int) > 2 then (
 R (.tuple #[.int .i64 0, .bool false]) H3)
 else
 if x > 1152921504606846976 then (
 R (.tuple #[.int .i64 0, .bool false]) H3)
 else
 if x = 1152921504606846976 then (
 ∃ l : Bool, hat H3 (Addr.mk b 0 none) = some (.bool l) ∧
 if l = true then (
 ∃ n : Bool, hat H3 (Addr.mk b 0 none) = some (.bool n) ∧
 if n = true then (
 R (.tuple #[.int .i64 (IntKind.wrap .i64 (0 - (IntKind.wrap .i64 x))), .bool true]) H3)
 else
 R (.tuple #[.int .i64 (IntKind.wrap .i64 x), .bool true]) H3)
 else
 R (.tuple #[.int .i64 0, .bool false]) H3)
 else
 ∃ m : Bool, hat H3 (Addr.mk b 0 none) = some (.bool m) ∧
 if m = true then (
 R (.tuple #[.int .i64 (IntKind.wrap .i64 (0 - (IntKind.wrap .i64 x))), .bool true]) H3)
 else
 R (.tuple #[.int .i64 (IntKind.wrap .i64 x), .bool true]) H3)
namespace num_Fix
set_option maxRecDepth 100000 in
theorem link {nNeg : Bool} {nMagB : Option Addr} {nMagN : Nat} {nMagC : Nat} {H : Array Obj} {R : Value → Array Obj → Prop} (h : pt nNeg nMagB nMagN nMagC H R) : C nNeg nMagB nMagN nMagC H R := by
 refine S_enter (fn := Try.f29) (c := kk0) 52 Try.func29 (by kernel_rfl) (by kernel_rfl) (Nat.le_of_ble_eq_true (by kernel_rfl)) ?_
 intro w0 Q hQ
 unfold pt at h
 refine T_su [(0, .agg #[.bool nNeg, vs nMagB nMagN nMagC])] ?_
 refine T_sr 0 kk1 kk2 ?_
 refine N_new (some 1) (fun b => vp (pa b)) (.cells #[.bool nNeg, vs nMagB nMagN nMagC] 38) (fun _=>by kernel_rfl) ?_
 intro b H1 e1 e2
 replace h := h b H1 e1 e2
 refine ⟨[(1, vp (pa b))], pk, ?_⟩
 refine T_ne 2 [(1, vp (pa b))] ?_
 refine T_sr 1 kk3 kk4 ?_
 refine T_n 1 [(1, vp (pa b)), (7, vp (some ((Addr.mk b 0 none).add 1)))] ?_
 obtain ⟨xB, xN, xC, q3, h⟩ := h
 refine T_l (some 8) 36 q3 [(1, vp (pa b)), (8, vs xB xN xC)] ?_
 refine N_call (some 9) 50 #[vs xB xN xC] (fun _=>by kernel_rfl) h ?_; clear h
 rintro v H2 ⟨f, d, e, rfl, h⟩
 refine ⟨[(1, vp (pa b)), (9, vs f d e)], pk, ?_⟩
 refine T_ne 1 [(1, vp (pa b)), (4, vs f d e)] ?_
 refine T_sr 2 kk5 kk6 ?_
 refine T_ne 1 [(1, vp (pa b)), (4, vs f d e), (5, vu 0)] ?_
 refine T_s kk7 kk8 ?_
 refine T_sr 3 kk9 kk10 ?_
 refine T_ne 4 [(1, vp (pa b)), (4, vs f d e), (5, vu 0), (12, vi (if 2 < (d : Int) then 2 else (d : Int))), (13, vi 0)] ?_
 refine T_b 0 kk11 ?_
 obtain ⟨o, m13, i4, i5⟩ := h
 refine S_loop (x := kk12) (σ := Int × Int) (fun s_ => [(1, vp (pa b)), (4, vs f d e), (5, vu s_.1), (12, vi (if 2 < (d : Int) then 2 else (d : Int))), (13, vi s_.2)]) (fun s_ H => o s_.1 s_.2 H) (fun s_ H => m13 s_.1 s_.2 H) ((0, 0) : Int × Int) (by kernel_rfl) i4 sk ?_
 rintro ⟨x, s13⟩ H3 i6
 have h := i5 x s13 H3 i6
 refine T_su [(1, vp (pa b)), (4, vs f d e), (5, vu x), (12, vi (if 2 < (d : Int) then 2 else (d : Int))), (13, vi s13)] ?_
 refine T_sr 4 kk13 kk14 ?_
 refine T_ne 1 [(1, vp (pa b)), (4, vs f d e), (5, vu x), (12, vi (if 2 < (d : Int) then 2 else (d : Int))), (13, vi s13), (14, .bool (decide (s13 < (if 2 < (d : Int) then 2 else (d : Int)))))] ?_
 refine T_s kk15 kk16 ?_
 by_cases c7 : s13 < (if 2 < (d : Int) then 2 else (d : Int))
 ·rw [if_pos c7] at h
  have b8 : (decide (s13 < (if 2 < (d : Int) then 2 else (d : Int)))) = true := decide_eq_true c7
  refine S_env [(1, vp (pa b)), (4, vs f d e), (5, vu x), (12, vi (if 2 < (d : Int) then 2 else (d : Int))), (13, vi s13), (14, .bool true)] (by simp only [b8, Bool.not_true, Bool.not_false]) ?_
  clear b8
  refine T_t 14 kk17 kk18 ?_
  refine T_kt ?_
  refine T_s kk19 kk20 ?_
  refine T_b 1 kk21 ?_
  refine T_sr 5 kk22 kk23 ?_
  refine T_ne 2 [(1, vp (pa b)), (4, vs f d e), (5, vu x), (6, vi s13), (12, vi (if 2 < (d : Int) then 2 else (d : Int))), (13, vi s13)] ?_
  refine T_r 6 kk23 ?_
  refine T_n 3 [(1, vp (pa b)), (4, vs f d e), (6, vi s13), (12, vi (if 2 < (d : Int) then 2 else (d : Int))), (13, vi s13), (16, vu x), (17, vs f d e), (18, vi s13)] ?_
  obtain ⟨g, rfl, h⟩ := h
  obtain ⟨q9, h⟩ := h
  refine T_ix (some 19) 36 77 1 g d e .i64 s13 Try.underlying36 q9.1 q9.2 [(1, vp (pa b)), (4, vs (some g) d e), (6, vi s13), (12, vi (if 2 < (d : Int) then 2 else (d : Int))), (13, vi s13), (16, vu x), (19, vp (some (g.add (Int.toNat s13 * 1))))] ?_
  obtain ⟨j, q10, h⟩ := h
  refine T_l (some 20) 77 q10 [(1, vp (pa b)), (4, vs (some g) d e), (6, vi s13), (12, vi (if 2 < (d : Int) then 2 else (d : Int))), (13, vi s13), (16, vu x), (20, .int .u32 j)] ?_
  refine T_n 3 [(1, vp (pa b)), (4, vs (some g) d e), (12, vi (if 2 < (d : Int) then 2 else (d : Int))), (13, vi s13), (16, vu x), (21, vu (IntKind.wrap .u64 j)), (23, vi (IntKind.wrap .i64 (32 * s13)))] ?_
  obtain ⟨q11, h⟩ := h
  refine T_v (some 24) (binN .shl 31 (vu (IntKind.wrap .u64 j)) (vi (IntKind.wrap .i64 (32 * s13)))) (vu (ishl .u64 (IntKind.wrap .u64 j) (IntKind.wrap .i64 (32 * s13)))) (fun w _ => shl_run (P := Try.prog) (t := 31) (k := .u64) (k' := .i64) (x := (IntKind.wrap .u64 j)) (y := (IntKind.wrap .i64 (32 * s13))) q11 w) [(1, vp (pa b)), (4, vs (some g) d e), (12, vi (if 2 < (d : Int) then 2 else (d : Int))), (13, vi s13), (16, vu x), (24, vu (ishl .u64 (IntKind.wrap .u64 j) (IntKind.wrap .i64 (32 * s13))))] ?_
  refine T_n 2 [(1, vp (pa b)), (4, vs (some g) d e), (5, vu (ior .u64 x (ishl .u64 (IntKind.wrap .u64 j) (IntKind.wrap .i64 (32 * s13))))), (12, vi (if 2 < (d : Int) then 2 else (d : Int))), (13, vi s13)] ?_
  refine N_end (by kernel_rfl) ?_
  refine S_blockEnd ?_
  refine S_then ?_
  refine T_r 7 kk20 ?_
  refine T_ne 2 [(1, vp (pa b)), (4, vs (some g) d e), (5, vu (ior .u64 x (ishl .u64 (IntKind.wrap .u64 j) (IntKind.wrap .i64 (32 * s13))))), (12, vi (if 2 < (d : Int) then 2 else (d : Int))), (13, vi (IntKind.wrap .i64 (s13 + 1)))] ?_
  exact S_round (((ior .u64 x (ishl .u64 (IntKind.wrap .u64 j) (IntKind.wrap .i64 (32 * s13)))), (IntKind.wrap .i64 (s13 + 1))) : Int × Int) sk h
 ·rw [if_neg c7] at h
  have b8 : (decide (s13 < (if 2 < (d : Int) then 2 else (d : Int)))) = false := decide_eq_false c7
  refine S_env [(1, vp (pa b)), (4, vs f d e), (5, vu x), (12, vi (if 2 < (d : Int) then 2 else (d : Int))), (13, vi s13), (14, .bool false)] (by simp only [b8, Bool.not_true, Bool.not_false]) ?_
  clear b8
  refine T_f 14 kk17 kk18 ?_
  refine S_exit 0 (by kernel_rfl) ?_
  refine S_exitThen ?_
  refine S_exitThen ?_
  refine S_exitHere ?_
  refine S_then ?_
  refine T_s kk24 kk25 ?_
  refine T_b 2 kk26 ?_
  refine T_sr 8 kk27 kk28 ?_
  refine T_n 4 [(1, vp (pa b)), (5, vu x), (31, .bool (decide ((d : Int) > 2)))] ?_
  by_cases c12 : (d : Int) > 2
  ·rw [if_pos c12] at h
   have b13 : (decide ((d : Int) > 2)) = true := decide_eq_true c12
   refine N_env [(1, vp (pa b)), (5, vu x), (31, .bool true)] (by simp only [b13, Bool.not_true, Bool.not_false]) ?_
   clear b13
   refine T_ne 13 [(1, vp (pa b)), (5, vu x), (27, .bool true)] ?_
   refine T_t 27 kk29 kk30 ?_
   refine T_sr 9 kk31 kk32 ?_
   refine T_ne 2 [(2, vi 0), (3, .bool false)] ?_
   refine S_ret (by kernel_rfl) ?_
   show At _ _ _ _ _ (Q .ret)
   exact S_done (fn := Try.f29) [vi 0, .bool false] hQ (show ResOK _ _ _ [.tmp 2, .tmp 3] _ from .tmp (by kernel_rfl) (.tmp (by kernel_rfl) (.nil))) h
  ·rw [if_neg c12] at h
   have b13 : (decide ((d : Int) > 2)) = false := decide_eq_false c12
   refine N_env [(1, vp (pa b)), (5, vu x), (31, .bool false)] (by simp only [b13, Bool.not_true, Bool.not_false]) ?_
   clear b13
   refine T_n 4 [(1, vp (pa b)), (5, vu x), (35, .bool (decide (x > 1152921504606846976)))] ?_
   by_cases c14 : x > 1152921504606846976
   ·rw [if_pos c14] at h
    have b15 : (decide (x > 1152921504606846976)) = true := decide_eq_true c14
    refine N_env [(1, vp (pa b)), (5, vu x), (35, .bool true)] (by simp only [b15, Bool.not_true, Bool.not_false]) ?_
    clear b15
    refine T_ne 9 [(1, vp (pa b)), (5, vu x), (27, .bool true)] ?_
    refine T_t 27 kk29 kk30 ?_
    refine T_sr 9 kk31 kk32 ?_
    refine T_ne 2 [(2, vi 0), (3, .bool false)] ?_
    refine S_ret (by kernel_rfl) ?_
    show At _ _ _ _ _ (Q .ret)
    exact S_done (fn := Try.f29) [vi 0, .bool false] hQ (show ResOK _ _ _ [.tmp 2, .tmp 3] _ from .tmp (by kernel_rfl) (.tmp (by kernel_rfl) (.nil))) h
   ·rw [if_neg c14] at h
    have b15 : (decide (x > 1152921504606846976)) = false := decide_eq_false c14
    refine N_env [(1, vp (pa b)), (5, vu x), (35, .bool false)] (by simp only [b15, Bool.not_true, Bool.not_false]) ?_
    clear b15
    refine T_n 3 [(1, vp (pa b)), (5, vu x), (35, .bool false), (38, .bool (x == 1152921504606846976))] ?_
    by_cases c16 : x = 1152921504606846976
    ·rw [if_pos c16] at h
     have b17 : (x == 1152921504606846976) = true := beq_iff_eq.mpr c16
     refine N_env [(1, vp (pa b)), (5, vu x), (35, .bool false), (38, .bool true)] (by simp only [b17, Bool.not_true, Bool.not_false]) ?_
     clear b17
     refine T_n 1 [(1, vp (pa b)), (5, vu x), (35, .bool false), (38, .bool true), (39, vp (pa b))] ?_
     obtain ⟨l, q18, h⟩ := h
     refine T_l (some 40) 4 q18 [(1, vp (pa b)), (5, vu x), (35, .bool false), (38, .bool true), (40, .bool l)] ?_
     refine T_ne 4 [(1, vp (pa b)), (5, vu x), (27, .bool (!l))] ?_
     by_cases c19 : l = true
     ·rw [if_pos c19] at h
      have b20 : (!l) = false := congrArg Bool.not (c19)
      have b202 : l = true := c19
      refine S_env [(1, vp (pa b)), (5, vu x), (27, .bool false)] (by simp only [b20, b202, Bool.not_true, Bool.not_false]) ?_
      clear b20 b202
      refine T_f 27 kk29 kk30 ?_
      refine T_sr 10 kk33 kk34 ?_
      refine T_n 1 [(5, vu x), (45, vp (pa b))] ?_
      obtain ⟨n, q21, h⟩ := h
      refine T_l (some 46) 4 q21 [(5, vu x), (46, .bool n)] ?_
      refine T_ne 1 [(5, vu x), (44, .bool n)] ?_
      by_cases c22 : n = true
      ·rw [if_pos c22] at h
       have b23 : n = true := c22
       refine S_env [(5, vu x), (44, .bool true)] (by simp only [b23, Bool.not_true, Bool.not_false]) ?_
       clear b23
       refine T_t 44 kk35 kk36 ?_
       refine T_sr 11 kk37 kk38 ?_
       refine T_ne 5 [(2, vi (IntKind.wrap .i64 (0 - (IntKind.wrap .i64 x)))), (3, .bool true)] ?_
       refine S_ret (by kernel_rfl) ?_
       show At _ _ _ _ _ (Q .ret)
       exact S_done (fn := Try.f29) [vi (IntKind.wrap .i64 (0 - (IntKind.wrap .i64 x))), .bool true] hQ (show ResOK _ _ _ [.tmp 2, .tmp 3] _ from .tmp (by kernel_rfl) (.tmp (by kernel_rfl) (.nil))) h
      ·rw [if_neg c22] at h
       have b23 : n = false := eq_false_of_ne_true c22
       refine S_env [(5, vu x), (44, .bool false)] (by simp only [b23, Bool.not_true, Bool.not_false]) ?_
       clear b23
       refine T_f 44 kk35 kk36 ?_
       refine T_k ?_
       refine S_blockEnd ?_
       refine S_then ?_
       refine T_sr 12 kk39 kk40 ?_
       refine T_ne 4 [(2, vi (IntKind.wrap .i64 x)), (3, .bool true)] ?_
       refine S_ret (by kernel_rfl) ?_
       show At _ _ _ _ _ (Q .ret)
       exact S_done (fn := Try.f29) [vi (IntKind.wrap .i64 x), .bool true] hQ (show ResOK _ _ _ [.tmp 2, .tmp 3] _ from .tmp (by kernel_rfl) (.tmp (by kernel_rfl) (.nil))) h
     ·rw [if_neg c19] at h
      have b20 : (!l) = true := congrArg Bool.not (eq_false_of_ne_true c19)
      have b202 : l = false := eq_false_of_ne_true c19
      refine S_env [(1, vp (pa b)), (5, vu x), (27, .bool true)] (by simp only [b20, b202, Bool.not_true, Bool.not_false]) ?_
      clear b20 b202
      refine T_t 27 kk29 kk30 ?_
      refine T_sr 9 kk31 kk32 ?_
      refine T_ne 2 [(2, vi 0), (3, .bool false)] ?_
      refine S_ret (by kernel_rfl) ?_
      show At _ _ _ _ _ (Q .ret)
      exact S_done (fn := Try.f29) [vi 0, .bool false] hQ (show ResOK _ _ _ [.tmp 2, .tmp 3] _ from .tmp (by kernel_rfl) (.tmp (by kernel_rfl) (.nil))) h
    ·rw [if_neg c16] at h
     have b17 : (x == 1152921504606846976) = false := beq_eq_false_iff_ne.mpr c16
     refine N_env [(1, vp (pa b)), (5, vu x), (35, .bool false), (38, .bool false)] (by simp only [b17, Bool.not_true, Bool.not_false]) ?_
     clear b17
     refine T_ne 6 [(1, vp (pa b)), (5, vu x), (27, .bool false)] ?_
     refine T_f 27 kk29 kk30 ?_
     refine T_sr 10 kk33 kk34 ?_
     refine T_n 1 [(5, vu x), (45, vp (pa b))] ?_
     obtain ⟨m, q24, h⟩ := h
     refine T_l (some 46) 4 q24 [(5, vu x), (46, .bool m)] ?_
     refine T_ne 1 [(5, vu x), (44, .bool m)] ?_
     by_cases c25 : m = true
     ·rw [if_pos c25] at h
      have b26 : m = true := c25
      refine S_env [(5, vu x), (44, .bool true)] (by simp only [b26, Bool.not_true, Bool.not_false]) ?_
      clear b26
      refine T_t 44 kk35 kk36 ?_
      refine T_sr 11 kk37 kk38 ?_
      refine T_ne 5 [(2, vi (IntKind.wrap .i64 (0 - (IntKind.wrap .i64 x)))), (3, .bool true)] ?_
      refine S_ret (by kernel_rfl) ?_
      show At _ _ _ _ _ (Q .ret)
      exact S_done (fn := Try.f29) [vi (IntKind.wrap .i64 (0 - (IntKind.wrap .i64 x))), .bool true] hQ (show ResOK _ _ _ [.tmp 2, .tmp 3] _ from .tmp (by kernel_rfl) (.tmp (by kernel_rfl) (.nil))) h
     ·rw [if_neg c25] at h
      have b26 : m = false := eq_false_of_ne_true c25
      refine S_env [(5, vu x), (44, .bool false)] (by simp only [b26, Bool.not_true, Bool.not_false]) ?_
      clear b26
      refine T_f 44 kk35 kk36 ?_
      refine T_k ?_
      refine S_blockEnd ?_
      refine S_then ?_
      refine T_sr 12 kk39 kk40 ?_
      refine T_ne 4 [(2, vi (IntKind.wrap .i64 x)), (3, .bool true)] ?_
      refine S_ret (by kernel_rfl) ?_
      show At _ _ _ _ _ (Q .ret)
      exact S_done (fn := Try.f29) [vi (IntKind.wrap .i64 x), .bool true] hQ (show ResOK _ _ _ [.tmp 2, .tmp 3] _ from .tmp (by kernel_rfl) (.tmp (by kernel_rfl) (.nil))) h
end num_Fix

/-! moraine/num.made -/
namespace num_made
def kk0 := Func.code Try.f49
def kk1 := Code.fa kk0
def kk2 := Code.fb kk0
def kk3 := Code.fa kk2
def kk4 := Code.fb kk2
def kk5 := Code.fa kk4
def kk6 := Code.fb kk4
def kk7 := Code.fa kk5
def kk8 := Code.fb kk5
def kk9 := Code.fa kk8
def kk10 := Code.fb kk8
def kk11 := Code.fa kk9
def kk12 := Code.fb kk9
def kk13 := Code.fa kk6
def kk14 := Code.fb kk6
end num_made
def num_made.pt (neg : Bool) (mB : Option Addr) (mN : Nat) (mC : Nat) (H : Array Obj) (R : Value → Array Obj → Prop) : Prop :=
 ∀ (b : Nat) (H1 : Array Obj), b = H.size → H1 = H.push (.cells #[.bool false, .slice none 0 0] 38) →
 num_trim.C mB mN mC H1 (fun v H2 => ∃ xB : Option Addr, ∃ xN : Nat, ∃ xC : Nat, v = .slice xB xN xC ∧ 
 if (xN : Int) > 48 then (
 (CanPuts H2 (Addr.mk b 0 none) 0 2) ∧ ∀ H3 : Array Obj, H3 = hputs H2 (Addr.mk b 0 none) [.bool false, .slice none 0 0] 0 →
 ∃ u : Bool, ∃ r : Option Addr, ∃ t : Nat, ∃ s : Nat, RowAt H3 (Addr.mk b 0 none) 0 [.bool u, .slice r t s] ∧
 R (.tuple #[.agg #[.bool u, .slice r t s], .int .i64 6]) H3)
 else
 if neg = true then (
 slices_Clone_uint32_uint32.C xB xN xC H2 (fun x H4 => ∃ g : Option Addr, ∃ e : Nat, ∃ i : Nat, x = .slice g e i ∧ 
 (CanPuts H4 (Addr.mk b 0 none) 0 2) ∧ ∀ H5 : Array Obj, H5 = hputs H4 (Addr.mk b 0 none) [.bool (decide ((xN : Int) > 0)), .slice g e i] 0 →
 ∃ p : Bool, ∃ l : Option Addr, ∃ n : Nat, ∃ o : Nat, RowAt H5 (Addr.mk b 0 none) 0 [.bool p, .slice l n o] ∧
 R (.tuple #[.agg #[.bool p, .slice l n o], .int .i64 0]) H5))
 else
 slices_Clone_uint32_uint32.C xB xN xC H2 (fun y H6 => ∃ d : Option Addr, ∃ f : Nat, ∃ a : Nat, y = .slice d f a ∧ 
 (CanPuts H6 (Addr.mk b 0 none) 0 2) ∧ ∀ H7 : Array Obj, H7 = hputs H6 (Addr.mk b 0 none) [.bool false, .slice d f a] 0 →
 ∃ q : Bool, ∃ k : Option Addr, ∃ j : Nat, ∃ m : Nat, RowAt H7 (Addr.mk b 0 none) 0 [.bool q, .slice k j m] ∧
 R (.tuple #[.agg #[.bool q, .slice k j m], .int .i64 0]) H7))
namespace num_made
set_option maxRecDepth 100000 in
theorem link {neg : Bool} {mB : Option Addr} {mN : Nat} {mC : Nat} {H : Array Obj} {R : Value → Array Obj → Prop} (h : pt neg mB mN mC H R) : C neg mB mN mC H R := by
 refine S_enter (fn := Try.f49) (c := kk0) 21 Try.func49 (by kernel_rfl) (by kernel_rfl) (Nat.le_of_ble_eq_true (by kernel_rfl)) ?_
 intro w0 Q hQ
 unfold pt at h
 refine T_su [(0, .bool neg), (1, vs mB mN mC)] ?_
 refine T_sr 0 kk1 kk2 ?_
 refine N_new (some 4) (fun b => vp (pa b)) (.cells #[.bool false, vs none 0 0] 38) (fun _=>by kernel_rfl) ?_
 intro b H1 e1 e2
 replace h := h b H1 e1 e2
 refine ⟨[(0, .bool neg), (1, vs mB mN mC), (4, vp (pa b))], pk, ?_⟩
 refine T_ne 1 [(0, .bool neg), (1, vs mB mN mC), (4, vp (pa b))] ?_
 refine T_sr 1 kk3 kk4 ?_
 refine T_n 1 [(0, .bool neg), (4, vp (pa b)), (6, vs mB mN mC)] ?_
 refine N_call (some 7) 50 #[vs mB mN mC] (fun _=>by kernel_rfl) h ?_; clear h
 rintro v H2 ⟨xB, xN, xC, rfl, h⟩
 refine ⟨[(0, .bool neg), (4, vp (pa b)), (7, vs xB xN xC)], pk, ?_⟩
 refine T_ne 1 [(0, .bool neg), (1, vs xB xN xC), (4, vp (pa b))] ?_
 refine T_s kk5 kk6 ?_
 refine T_sr 2 kk7 kk8 ?_
 refine T_ne 3 [(0, .bool neg), (1, vs xB xN xC), (4, vp (pa b)), (10, .bool (decide ((xN : Int) > 48)))] ?_
 by_cases c3 : (xN : Int) > 48
 ·rw [if_pos c3] at h
  have b4 : (decide ((xN : Int) > 48)) = true := decide_eq_true c3
  refine S_env [(0, .bool neg), (1, vs xB xN xC), (4, vp (pa b)), (10, .bool true)] (by simp only [b4, Bool.not_true, Bool.not_false]) ?_
  clear b4
  refine T_t 10 kk9 kk10 ?_
  refine T_sr 3 kk11 kk12 ?_
  refine T_n 1 [(4, vp (pa b)), (11, .agg #[.bool false, vs none 0 0])] ?_
  obtain ⟨q6, h⟩ := h
  refine N_skipop none (storeN 38 (vp (pa b)) (.agg #[.bool false, vs none 0 0])) (fun Hz => Hz = hputs H2 (Addr.mk b 0 none) [.bool false, vs none 0 0] 0) (fun _=>by kernel_rfl) (ss_store [.bool false, vs none 0 0] 2 (by kernel_rfl) (by kernel_rfl) (fun _=>by kernel_rfl) (by kernel_rfl) q6) ?_
  intro H3 e5
  replace h := h H3 e5
  refine ⟨[(4, vp (pa b))], pk, ?_⟩
  refine T_ne 1 [(4, vp (pa b)), (5, vi 6)] ?_
  refine S_ret (by kernel_rfl) ?_
  show At _ _ _ _ _ (Q .ret)
  obtain ⟨u, r, t, s, q7, h⟩ := h
  exact S_done (fn := Try.f49) [.agg #[.bool u, vs r t s], vi 6] hQ (show ResOK _ _ _ [.cell 4 38, .tmp 5] _ from .cell (by kernel_rfl) (loadOK_row (fun _=>by kernel_rfl) (fun _=>by kernel_rfl) q7) (.tmp (by kernel_rfl) (.nil))) h
 ·rw [if_neg c3] at h
  have b4 : (decide ((xN : Int) > 48)) = false := decide_eq_false c3
  refine S_env [(0, .bool neg), (1, vs xB xN xC), (4, vp (pa b)), (10, .bool false)] (by simp only [b4, Bool.not_true, Bool.not_false]) ?_
  clear b4
  refine T_f 10 kk9 kk10 ?_
  refine T_kt ?_
  refine T_sr 4 kk13 kk14 ?_
  refine T_n 2 [(1, vs xB xN xC), (4, vp (pa b)), (13, .bool neg)] ?_
  by_cases c8 : neg = true
  ·rw [if_pos c8] at h
   have b9 : neg = true := c8
   refine N_env [(1, vs xB xN xC), (4, vp (pa b)), (13, .bool true)] (by simp only [b9, Bool.not_true, Bool.not_false]) ?_
   clear b9
   refine T_n 5 [(4, vp (pa b)), (17, .bool (decide ((xN : Int) > 0))), (18, vs xB xN xC)] ?_
   refine N_call (some 19) 69 #[vs xB xN xC] (fun _=>by kernel_rfl) h ?_; clear h
   rintro x H4 ⟨g, e, i, rfl, h⟩
   refine ⟨[(4, vp (pa b)), (17, .bool (decide ((xN : Int) > 0))), (19, vs g e i)], pk, ?_⟩
   refine T_n 1 [(4, vp (pa b)), (20, .agg #[.bool (decide ((xN : Int) > 0)), vs g e i])] ?_
   obtain ⟨q11, h⟩ := h
   refine N_skipop none (storeN 38 (vp (pa b)) (.agg #[.bool (decide ((xN : Int) > 0)), vs g e i])) (fun Hz => Hz = hputs H4 (Addr.mk b 0 none) [.bool (decide ((xN : Int) > 0)), vs g e i] 0) (fun _=>by kernel_rfl) (ss_store [.bool (decide ((xN : Int) > 0)), vs g e i] 2 (by kernel_rfl) (by kernel_rfl) (fun _=>by kernel_rfl) (by kernel_rfl) q11) ?_
   intro H5 e10
   replace h := h H5 e10
   refine ⟨[(4, vp (pa b))], pk, ?_⟩
   refine T_ne 1 [(4, vp (pa b)), (5, vi 0)] ?_
   refine S_ret (by kernel_rfl) ?_
   show At _ _ _ _ _ (Q .ret)
   obtain ⟨p, l, n, o, q12, h⟩ := h
   exact S_done (fn := Try.f49) [.agg #[.bool p, vs l n o], vi 0] hQ (show ResOK _ _ _ [.cell 4 38, .tmp 5] _ from .cell (by kernel_rfl) (loadOK_row (fun _=>by kernel_rfl) (fun _=>by kernel_rfl) q12) (.tmp (by kernel_rfl) (.nil))) h
  ·rw [if_neg c8] at h
   have b9 : neg = false := eq_false_of_ne_true c8
   refine N_env [(1, vs xB xN xC), (4, vp (pa b)), (13, .bool false)] (by simp only [b9, Bool.not_true, Bool.not_false]) ?_
   clear b9
   refine T_n 5 [(4, vp (pa b)), (17, .bool false), (18, vs xB xN xC)] ?_
   refine N_call (some 19) 69 #[vs xB xN xC] (fun _=>by kernel_rfl) h ?_; clear h
   rintro y H6 ⟨d, f, a, rfl, h⟩
   refine ⟨[(4, vp (pa b)), (17, .bool false), (19, vs d f a)], pk, ?_⟩
   refine T_n 1 [(4, vp (pa b)), (20, .agg #[.bool false, vs d f a])] ?_
   obtain ⟨q14, h⟩ := h
   refine N_skipop none (storeN 38 (vp (pa b)) (.agg #[.bool false, vs d f a])) (fun Hz => Hz = hputs H6 (Addr.mk b 0 none) [.bool false, vs d f a] 0) (fun _=>by kernel_rfl) (ss_store [.bool false, vs d f a] 2 (by kernel_rfl) (by kernel_rfl) (fun _=>by kernel_rfl) (by kernel_rfl) q14) ?_
   intro H7 e13
   replace h := h H7 e13
   refine ⟨[(4, vp (pa b))], pk, ?_⟩
   refine T_ne 1 [(4, vp (pa b)), (5, vi 0)] ?_
   refine S_ret (by kernel_rfl) ?_
   show At _ _ _ _ _ (Q .ret)
   obtain ⟨q, k, j, m, q15, h⟩ := h
   exact S_done (fn := Try.f49) [.agg #[.bool q, vs k j m], vi 0] hQ (show ResOK _ _ _ [.cell 4 38, .tmp 5] _ from .cell (by kernel_rfl) (loadOK_row (fun _=>by kernel_rfl) (fun _=>by kernel_rfl) q15) (.tmp (by kernel_rfl) (.nil))) h
end num_made

/-! moraine/num.trim -/
namespace num_trim
def kk0 := Func.code Try.f50
def kk1 := Code.fa kk0
def kk2 := Code.fb kk0
def kk3 := Code.fa kk2
def kk4 := Code.fb kk2
def kk5 := Code.fa kk4
def kk6 := Code.fb kk4
def kk7 := Code.fa kk5
def kk8 := Code.fa kk7
def kk9 := Code.fa kk8
def kk10 := Code.fb kk8
def kk11 := Code.fa kk9
def kk12 := Code.fb kk9
def kk13 := Code.fa kk12
def kk14 := Code.fb kk12
def kk15 := Code.fa kk10
def kk16 := Code.fa kk6
def kk17 := Code.fb kk6
end num_trim
def num_trim.pt (mB : Option Addr) (mN : Nat) (mC : Nat) (H : Array Obj) (R : Value → Array Obj → Prop) : Prop :=
 ∃ (I9 : Int → Array Obj → Prop) (m9 : Int → Array Obj → Nat), I9 (mN : Int) H ∧ ∀ (nv : Int) (H1 : Array Obj), I9 nv H1 →
 if nv > 0 then (
 ∃ d : Addr, mB = some d ∧
 ((0 : Int) ≤ (IntKind.wrap .i64 (nv - 1)) ∧ (IntKind.wrap .i64 (nv - 1)) < (mN : Int)) ∧
 ∃ x : Int, hat H1 (d.add (Int.toNat (IntKind.wrap .i64 (nv - 1)) * 1)) = some (.int .u32 x) ∧
 if x = 0 then (
 (I9 (IntKind.wrap .i64 (nv - 1)) H1 ∧ m9 (IntKind.wrap .i64 (nv - 1)) H1 < m9 nv H1))
 else
 ∃ (lo hi : Nat), lo = 0 ∧ nv = (hi : Int) ∧ lo ≤ hi ∧ hi ≤ mC ∧
 ∀ sl : Option Addr, sl = (if mC = lo then (some d) else Option.map (fun a : Addr => a.add (lo * 1)) (some d)) →
 R (.slice sl (hi - lo) (mC - lo)) H1)
 else
 ∃ (b e : Nat), b = 0 ∧ nv = (e : Int) ∧ b ≤ e ∧ e ≤ mC ∧
 ∀ f : Option Addr, f = (if mC = b then mB else Option.map (fun a : Addr => a.add (b * 1)) mB) →
 R (.slice f (e - b) (mC - b)) H1
namespace num_trim
set_option maxRecDepth 100000 in
theorem link {mB : Option Addr} {mN : Nat} {mC : Nat} {H : Array Obj} {R : Value → Array Obj → Prop} (h : pt mB mN mC H R) : C mB mN mC H R := by
 refine S_enter (fn := Try.f50) (c := kk0) 21 Try.func50 (by kernel_rfl) (by kernel_rfl) (Nat.le_of_ble_eq_true (by kernel_rfl)) ?_
 intro w0 Q hQ
 unfold pt at h
 refine T_su [(0, vs mB mN mC)] ?_
 refine T_sr 0 kk1 kk2 ?_
 refine T_ne 1 [(0, vs mB mN mC)] ?_
 refine T_sr 1 kk3 kk4 ?_
 refine T_ne 3 [(0, vs mB mN mC), (3, vi mN)] ?_
 refine T_s kk5 kk6 ?_
 refine T_b 0 kk7 ?_
 obtain ⟨I9, m9, i1, i2⟩ := h
 refine S_loop (x := kk8) (σ := Int) (fun s_ => [(0, vs mB mN mC), (3, vi s_)]) (fun s_ H => I9 s_ H) (fun s_ H => m9 s_ H) ((mN : Int) : Int) (by kernel_rfl) i1 sk ?_
 rintro nv H1 i3
 have h := i2 nv H1 i3
 refine T_su [(0, vs mB mN mC), (3, vi nv)] ?_
 refine T_s kk9 kk10 ?_
 refine T_sr 2 kk11 kk12 ?_
 refine T_n 3 [(0, vs mB mN mC), (3, vi nv), (8, .bool (decide (nv > 0)))] ?_
 by_cases c4 : nv > 0
 ·rw [if_pos c4] at h
  have b5 : (decide (nv > 0)) = true := decide_eq_true c4
  refine N_env [(0, vs mB mN mC), (3, vi nv), (8, .bool true)] (by simp only [b5, Bool.not_true, Bool.not_false]) ?_
  clear b5
  refine T_n 3 [(0, vs mB mN mC), (3, vi nv), (8, .bool true), (9, vs mB mN mC), (11, vi (IntKind.wrap .i64 (nv - 1)))] ?_
  obtain ⟨d, rfl, h⟩ := h
  obtain ⟨q6, h⟩ := h
  refine T_ix (some 12) 36 77 1 d mN mC .i64 (IntKind.wrap .i64 (nv - 1)) Try.underlying36 q6.1 q6.2 [(0, vs (some d) mN mC), (3, vi nv), (8, .bool true), (12, vp (some (d.add (Int.toNat (IntKind.wrap .i64 (nv - 1)) * 1))))] ?_
  obtain ⟨x, q7, h⟩ := h
  refine T_l (some 13) 77 q7 [(0, vs (some d) mN mC), (3, vi nv), (8, .bool true), (13, .int .u32 x)] ?_
  refine T_ne 2 [(0, vs (some d) mN mC), (3, vi nv), (15, .bool (x == 0))] ?_
  by_cases c8 : x = 0
  ·rw [if_pos c8] at h
   have b9 : (x == 0) = true := beq_iff_eq.mpr c8
   refine S_env [(0, vs (some d) mN mC), (3, vi nv), (15, .bool true)] (by simp only [b9, Bool.not_true, Bool.not_false]) ?_
   clear b9
   refine T_t 15 kk13 kk14 ?_
   refine T_kt ?_
   refine T_b 1 kk15 ?_
   refine T_r 3 kk15 ?_
   refine T_n 3 [(0, vs (some d) mN mC), (3, vi (IntKind.wrap .i64 (nv - 1)))] ?_
   refine N_end (by kernel_rfl) ?_
   refine S_blockEnd ?_
   refine S_then ?_
   exact S_round ((IntKind.wrap .i64 (nv - 1)) : Int) sk h
  ·rw [if_neg c8] at h
   have b9 : (x == 0) = false := beq_eq_false_iff_ne.mpr c8
   refine S_env [(0, vs (some d) mN mC), (3, vi nv), (15, .bool false)] (by simp only [b9, Bool.not_true, Bool.not_false]) ?_
   clear b9
   refine T_f 15 kk13 kk14 ?_
   refine S_exit 0 (by kernel_rfl) ?_
   refine S_exitThen ?_
   refine S_exitThen ?_
   refine S_exitHere ?_
   refine S_then ?_
   refine T_sr 4 kk16 kk17 ?_
   refine T_n 2 [(18, vs (some d) mN mC), (19, vi nv)] ?_
   obtain ⟨lo, hi, q10, q11, q12, q13, h⟩ := h
   obtain ⟨sl, e14⟩ : ∃ B, B = (if mC = lo then (some d) else Option.map (fun a : Addr => a.add (lo * 1)) (some d)) := ⟨_, rfl⟩
   replace h := h sl e14
   refine T_v (some 20) (sliceN 36 (vs (some d) mN mC) none (some (vi nv)) none) (vs sl (hi - lo) (mC - lo)) (fun w _ => (slice_run (P := Try.prog) (t := 36) (elem := 77) (sz := 1) (a := (some d)) (len := mN) (cap := mC) none (some (vi nv)) lo hi Try.underlying36 (fun _=>by kernel_rfl) (.inl ⟨rfl, q10⟩) (.inr ⟨.i64, by rw [q11]⟩) q12 q13 w).trans (by rw [e14]; try rfl)) [(20, vs sl (hi - lo) (mC - lo))] ?_
   refine T_ne 1 [(2, vs sl (hi - lo) (mC - lo))] ?_
   refine S_ret (by kernel_rfl) ?_
   show At _ _ _ _ _ (Q .ret)
   exact S_done (fn := Try.f50) [vs sl (hi - lo) (mC - lo)] hQ (show ResOK _ _ _ [.tmp 2] _ from .tmp (by kernel_rfl) (.nil)) h
 ·rw [if_neg c4] at h
  have b5 : (decide (nv > 0)) = false := decide_eq_false c4
  refine N_env [(0, vs mB mN mC), (3, vi nv), (8, .bool false)] (by simp only [b5, Bool.not_true, Bool.not_false]) ?_
  clear b5
  refine T_ne 7 [(0, vs mB mN mC), (3, vi nv), (15, .bool false)] ?_
  refine T_f 15 kk13 kk14 ?_
  refine S_exit 0 (by kernel_rfl) ?_
  refine S_exitThen ?_
  refine S_exitThen ?_
  refine S_exitHere ?_
  refine S_then ?_
  refine T_sr 4 kk16 kk17 ?_
  refine T_n 2 [(18, vs mB mN mC), (19, vi nv)] ?_
  obtain ⟨b, e, q15, q16, q17, q18, h⟩ := h
  obtain ⟨f, e19⟩ : ∃ B, B = (if mC = b then mB else Option.map (fun a : Addr => a.add (b * 1)) mB) := ⟨_, rfl⟩
  replace h := h f e19
  refine T_v (some 20) (sliceN 36 (vs mB mN mC) none (some (vi nv)) none) (vs f (e - b) (mC - b)) (fun w _ => (slice_run (P := Try.prog) (t := 36) (elem := 77) (sz := 1) (a := mB) (len := mN) (cap := mC) none (some (vi nv)) b e Try.underlying36 (fun _=>by kernel_rfl) (.inl ⟨rfl, q15⟩) (.inr ⟨.i64, by rw [q16]⟩) q17 q18 w).trans (by rw [e19]; try rfl)) [(20, vs f (e - b) (mC - b))] ?_
  refine T_ne 1 [(2, vs f (e - b) (mC - b))] ?_
  refine S_ret (by kernel_rfl) ?_
  show At _ _ _ _ _ (Q .ret)
  exact S_done (fn := Try.f50) [vs f (e - b) (mC - b)] hQ (show ResOK _ _ _ [.tmp 2] _ from .tmp (by kernel_rfl) (.nil)) h
end num_trim

end Go.Proofs.Ytillpfaabdlaiaa
