/-
  Written by a program of mine (gen.py): for functions of this translation a predicate transformer over heaps (.pt), and the proof that it is sound for the call (.link).
-/
import Derived.Test.YtfohlkiikppefaaFnsC
set_option linter.unusedSimpArgs false
set_option linter.unusedVariables false
set_option maxHeartbeats 1000000
noncomputable section
namespace Go.Proofs.Ytfohlkiikppefaa
open Go
/-! moraine/num.Norm -/
namespace num_Norm
def kk0 := Func.code Try.f41
def kk1 := Code.fa kk0
def kk2 := Code.fb kk0
def kk3 := Code.fa kk2
def kk4 := Code.fb kk2
end num_Norm
def num_Norm.pt (nNeg : Bool) (nMagB : Option Addr) (nMagN : Nat) (nMagC : Nat) (H : Array Obj) (R : Value → Array Obj → Prop) : Prop :=
 ∀ (b : Nat) (H1 : Array Obj), b = H.size → H1 = H.push (.cells #[.bool nNeg, .slice nMagB nMagN nMagC] 70) →
 ∀ (b_2 : Nat) (H2 : Array Obj), b_2 = H1.size → H2 = H1.push (.cells #[.bool false, .slice none 0 0] 70) →
 ∃ x : Bool, hat H2 (Addr.mk b 0 none) = some (.bool x) ∧
 ∃ xB : Option Addr, ∃ xN : Nat, ∃ xC : Nat, hat H2 ((Addr.mk b 0 none).add 1) = some (.slice xB xN xC) ∧
 num_made.C x xB xN xC H2 (fun v H3 => ∃ raNeg : Bool, ∃ raMagB : Option Addr, ∃ raMagN : Nat, ∃ raMagC : Nat, ∃ rb : Int, v = .tuple #[.agg #[.bool raNeg, .slice raMagB raMagN raMagC], .int .i64 rb] ∧ 
  (CanPuts H3 (Addr.mk b_2 0 none) 0 2) ∧ ∀ H4 : Array Obj, H4 = hputs H3 (Addr.mk b_2 0 none) [.bool raNeg, .slice raMagB raMagN raMagC] 0 →
  ∃ rNeg : Bool, ∃ rMagB : Option Addr, ∃ rMagN : Nat, ∃ rMagC : Nat, RowAt H4 (Addr.mk b_2 0 none) 0 [.bool rNeg, .slice rMagB rMagN rMagC] ∧
  R (.tuple #[.agg #[.bool rNeg, .slice rMagB rMagN rMagC], .int .i64 rb]) H4)
namespace num_Norm
set_option maxRecDepth 100000 in
theorem link {nNeg : Bool} {nMagB : Option Addr} {nMagN : Nat} {nMagC : Nat} {H : Array Obj} {R : Value → Array Obj → Prop} (h : pt nNeg nMagB nMagN nMagC H R) : C nNeg nMagB nMagN nMagC H R := by
  refine S_enter (fn := Try.f41) (c := kk0) 11 Try.func41 (by kernel_rfl) (by kernel_rfl) (Nat.le_of_ble_eq_true (by kernel_rfl)) ?_
  intro w0 Q hQ
  unfold pt at h
  refine S_sub [(0, .agg #[.bool nNeg, .slice nMagB nMagN nMagC])] (sb (by kernel_rfl)) ?_
  refine S_seq kk1 kk2 (by kernel_rfl) ?_
  refine S_region 0 (Code.ops kk1) (by kernel_rfl) ?_
  refine N_new (some 1) (fun b => .pointer (some (Addr.mk b 0 none))) (.cells #[.bool nNeg, .slice nMagB nMagN nMagC] 70) (fun w => by kernel_rfl) ?_
  intro b H1 e1 e2
  replace h := h b H1 e1 e2
  refine ⟨[(1, .pointer (some (Addr.mk b 0 none)))], ps (by kernel_rfl), ?_⟩
  refine N_new (some 2) (fun b => .pointer (some (Addr.mk b 0 none))) (.cells #[.bool false, .slice none 0 0] 70) (fun w => by kernel_rfl) ?_
  intro b_2 H2 e3 e4
  replace h := h b_2 H2 e3 e4
  refine ⟨[(1, .pointer (some (Addr.mk b 0 none))), (2, .pointer (some (Addr.mk b_2 0 none)))], ps (by kernel_rfl), ?_⟩
  refine N_run 1 [(1, .pointer (some (Addr.mk b 0 none))), (2, .pointer (some (Addr.mk b_2 0 none)))] (fun w => by kernel_rfl) ?_
  refine N_end (by kernel_rfl) ?_
  refine S_then ?_
  refine S_seq kk3 kk4 (by kernel_rfl) ?_
  refine S_region 1 (Code.ops kk3) (by kernel_rfl) ?_
  refine N_run 1 [(1, .pointer (some (Addr.mk b 0 none))), (2, .pointer (some (Addr.mk b_2 0 none))), (4, .pointer (some (Addr.mk b 0 none)))] (fun w => by kernel_rfl) ?_
  obtain ⟨x, q5, h⟩ := h
  refine N_val (some 5) (loadN 4 (.pointer (some (Addr.mk b 0 none)))) (.bool x) (fun w => by kernel_rfl) (loadN_run (loadOK_one (fun w => by kernel_rfl) q5)) [(1, .pointer (some (Addr.mk b 0 none))), (2, .pointer (some (Addr.mk b_2 0 none))), (5, .bool x)] (ps (by kernel_rfl)) ?_
  refine N_run 1 [(2, .pointer (some (Addr.mk b_2 0 none))), (5, .bool x), (6, .pointer (some ((Addr.mk b 0 none).add 1)))] (fun w => by kernel_rfl) ?_
  obtain ⟨xB, xN, xC, q6, h⟩ := h
  refine N_val (some 7) (loadN 40 (.pointer (some ((Addr.mk b 0 none).add 1)))) (.slice xB xN xC) (fun w => by kernel_rfl) (loadN_run (loadOK_one (fun w => by kernel_rfl) q6)) [(2, .pointer (some (Addr.mk b_2 0 none))), (5, .bool x), (7, .slice xB xN xC)] (ps (by kernel_rfl)) ?_
  refine N_call (some 8) 69 #[.bool x, .slice xB xN xC] (fun w => by kernel_rfl) h ?_; clear h
  rintro v H3 ⟨raNeg, raMagB, raMagN, raMagC, rb, rfl, h⟩
  refine ⟨[(2, .pointer (some (Addr.mk b_2 0 none))), (8, .tuple #[.agg #[.bool raNeg, .slice raMagB raMagN raMagC], .int .i64 rb])], ps (by kernel_rfl), ?_⟩
  refine N_run 2 [(2, .pointer (some (Addr.mk b_2 0 none))), (9, .agg #[.bool raNeg, .slice raMagB raMagN raMagC]), (10, .int .i64 rb)] (fun w => by kernel_rfl) ?_
  obtain ⟨q8, h⟩ := h
  refine N_skipop none (storeN 70 (.pointer (some (Addr.mk b_2 0 none))) (.agg #[.bool raNeg, .slice raMagB raMagN raMagC])) (fun Hz => Hz = hputs H3 (Addr.mk b_2 0 none) [.bool raNeg, .slice raMagB raMagN raMagC] 0) (fun w => by kernel_rfl) (ss_store [.bool raNeg, .slice raMagB raMagN raMagC] 2 (by kernel_rfl) (by kernel_rfl) (fun w => by kernel_rfl) (by kernel_rfl) q8) ?_
  intro H4 e7
  replace h := h H4 e7
  refine ⟨[(2, .pointer (some (Addr.mk b_2 0 none))), (10, .int .i64 rb)], ps (by kernel_rfl), ?_⟩
  refine N_run 1 [(2, .pointer (some (Addr.mk b_2 0 none))), (3, .int .i64 rb)] (fun w => by kernel_rfl) ?_
  refine N_end (by kernel_rfl) ?_
  refine S_then ?_
  refine S_ret (by kernel_rfl) ?_
  show At _ _ _ _ _ (Q .ret)
  obtain ⟨rNeg, rMagB, rMagN, rMagC, q9, h⟩ := h
  exact S_done (fn := Try.f41) [.agg #[.bool rNeg, .slice rMagB rMagN rMagC], .int .i64 rb] hQ (show ResOK _ _ _ [.cell 2 70, .tmp 3] _ from .cell (by kernel_rfl) (loadOK_row (fun w => by kernel_rfl) (fun w => by kernel_rfl) q9) (.tmp (by kernel_rfl) (.nil))) h
end num_Norm

/-! moraine/num.Fix -/
namespace num_Fix
def kk0 := Func.code Try.f44
def kk1 := Code.fa kk0
def kk2 := Code.fb kk0
def kk3 := Code.fa kk2
def kk4 := Code.fb kk2
def kk5 := Code.fa kk4
def kk6 := Code.fb kk4
def kk7 := Code.fa kk6
def kk8 := Code.fb kk6
def kk9 := Code.fa kk7
def kk10 := Code.fb kk7
def kk11 := Code.fa kk10
def kk12 := Code.fa kk11
def kk13 := Code.fa kk12
def kk14 := Code.fb kk12
def kk15 := Code.fa kk14
def kk16 := Code.fb kk14
def kk17 := Code.fa kk15
def kk18 := Code.fb kk15
def kk19 := Code.fa kk16
def kk20 := Code.fb kk16
def kk21 := Code.fa kk19
def kk22 := Code.fa kk21
def kk23 := Code.fb kk21
def kk24 := Code.fa kk8
def kk25 := Code.fb kk8
def kk26 := Code.fa kk24
def kk27 := Code.fa kk26
def kk28 := Code.fb kk26
def kk29 := Code.fa kk28
def kk30 := Code.fb kk28
def kk31 := Code.fa kk29
def kk32 := Code.fb kk29
def kk33 := Code.fa kk30
def kk34 := Code.fb kk30
def kk35 := Code.fa kk34
def kk36 := Code.fb kk34
def kk37 := Code.fa kk35
def kk38 := Code.fb kk35
def kk39 := Code.fa kk25
def kk40 := Code.fb kk25
end num_Fix
def num_Fix.pt (nNeg : Bool) (nMagB : Option Addr) (nMagN : Nat) (nMagC : Nat) (H : Array Obj) (R : Value → Array Obj → Prop) : Prop :=
 ∀ (b : Nat) (H1 : Array Obj), b = H.size → H1 = H.push (.cells #[.bool nNeg, .slice nMagB nMagN nMagC] 70) →
 ∃ xB : Option Addr, ∃ xN : Nat, ∃ xC : Nat, hat H1 ((Addr.mk b 0 none).add 1) = some (.slice xB xN xC) ∧
 num_trim.C xB xN xC H1 (fun v H2 => ∃ xB_2 : Option Addr, ∃ xN_2 : Nat, ∃ xC_2 : Nat, v = .slice xB_2 xN_2 xC_2 ∧ 
  ∃ (I13 : Int → Int → Array Obj → Prop) (m13 : Int → Int → Array Obj → Nat), I13 0 0 H2 ∧ ∀ (x : Int) (s13 : Int) (H3 : Array Obj), I13 x s13 H3 →
  if s13 < (if 2 < (xN_2 : Int) then 2 else (xN_2 : Int)) then (
   ∃ xB2A : Addr, xB_2 = some xB2A ∧
   ((0 : Int) ≤ s13 ∧ s13 < (xN_2 : Int)) ∧
   ∃ x_2 : Int, hat H3 (xB2A.add (Int.toNat s13 * 1)) = some (.int .u32 x_2) ∧
   (0 ≤ (IntKind.wrap .i64 (32 * s13))) ∧
   (I13 (ior .u64 x (ishl .u64 (IntKind.wrap .u64 x_2) (IntKind.wrap .i64 (32 * s13)))) (IntKind.wrap .i64 (s13 + 1)) H3 ∧ m13 (ior .u64 x (ishl .u64 (IntKind.wrap .u64 x_2) (IntKind.wrap .i64 (32 * s13)))) (IntKind.wrap .i64 (s13 + 1)) H3 < m13 x s13 H3))
  else
  if (xN_2 : Int) > 2 then (
   R (.tuple #[.int .i64 0, .bool false]) H3)
  else
  if x > 1152921504606846976 then (
   R (.tuple #[.int .i64 0, .bool false]) H3)
  else
  if x = 1152921504606846976 then (
   ∃ x_3 : Bool, hat H3 (Addr.mk b 0 none) = some (.bool x_3) ∧
   if x_3 = true then (
    ∃ x_4 : Bool, hat H3 (Addr.mk b 0 none) = some (.bool x_4) ∧
    if x_4 = true then (
     R (.tuple #[.int .i64 (IntKind.wrap .i64 (0 - (IntKind.wrap .i64 x))), .bool true]) H3)
    else
    R (.tuple #[.int .i64 (IntKind.wrap .i64 x), .bool true]) H3)
   else
   R (.tuple #[.int .i64 0, .bool false]) H3)
  else
  ∃ x_5 : Bool, hat H3 (Addr.mk b 0 none) = some (.bool x_5) ∧
  if x_5 = true then (
   R (.tuple #[.int .i64 (IntKind.wrap .i64 (0 - (IntKind.wrap .i64 x))), .bool true]) H3)
  else
  R (.tuple #[.int .i64 (IntKind.wrap .i64 x), .bool true]) H3)
namespace num_Fix
set_option maxRecDepth 100000 in
theorem link {nNeg : Bool} {nMagB : Option Addr} {nMagN : Nat} {nMagC : Nat} {H : Array Obj} {R : Value → Array Obj → Prop} (h : pt nNeg nMagB nMagN nMagC H R) : C nNeg nMagB nMagN nMagC H R := by
  refine S_enter (fn := Try.f44) (c := kk0) 52 Try.func44 (by kernel_rfl) (by kernel_rfl) (Nat.le_of_ble_eq_true (by kernel_rfl)) ?_
  intro w0 Q hQ
  unfold pt at h
  refine S_sub [(0, .agg #[.bool nNeg, .slice nMagB nMagN nMagC])] (sb (by kernel_rfl)) ?_
  refine S_seq kk1 kk2 (by kernel_rfl) ?_
  refine S_region 0 (Code.ops kk1) (by kernel_rfl) ?_
  refine N_new (some 1) (fun b => .pointer (some (Addr.mk b 0 none))) (.cells #[.bool nNeg, .slice nMagB nMagN nMagC] 70) (fun w => by kernel_rfl) ?_
  intro b H1 e1 e2
  replace h := h b H1 e1 e2
  refine ⟨[(1, .pointer (some (Addr.mk b 0 none)))], ps (by kernel_rfl), ?_⟩
  refine N_run 2 [(1, .pointer (some (Addr.mk b 0 none)))] (fun w => by kernel_rfl) ?_
  refine N_end (by kernel_rfl) ?_
  refine S_then ?_
  refine S_seq kk3 kk4 (by kernel_rfl) ?_
  refine S_region 1 (Code.ops kk3) (by kernel_rfl) ?_
  refine N_run 1 [(1, .pointer (some (Addr.mk b 0 none))), (7, .pointer (some ((Addr.mk b 0 none).add 1)))] (fun w => by kernel_rfl) ?_
  obtain ⟨xB, xN, xC, q3, h⟩ := h
  refine N_val (some 8) (loadN 40 (.pointer (some ((Addr.mk b 0 none).add 1)))) (.slice xB xN xC) (fun w => by kernel_rfl) (loadN_run (loadOK_one (fun w => by kernel_rfl) q3)) [(1, .pointer (some (Addr.mk b 0 none))), (8, .slice xB xN xC)] (ps (by kernel_rfl)) ?_
  refine N_call (some 9) 73 #[.slice xB xN xC] (fun w => by kernel_rfl) h ?_; clear h
  rintro v H2 ⟨xB_2, xN_2, xC_2, rfl, h⟩
  refine ⟨[(1, .pointer (some (Addr.mk b 0 none))), (9, .slice xB_2 xN_2 xC_2)], ps (by kernel_rfl), ?_⟩
  refine N_run 1 [(1, .pointer (some (Addr.mk b 0 none))), (4, .slice xB_2 xN_2 xC_2)] (fun w => by kernel_rfl) ?_
  refine N_end (by kernel_rfl) ?_
  refine S_then ?_
  refine S_seq kk5 kk6 (by kernel_rfl) ?_
  refine S_region 2 (Code.ops kk5) (by kernel_rfl) ?_
  refine N_run 1 [(1, .pointer (some (Addr.mk b 0 none))), (4, .slice xB_2 xN_2 xC_2), (5, .int .u64 0)] (fun w => by kernel_rfl) ?_
  refine N_end (by kernel_rfl) ?_
  refine S_then ?_
  refine S_seq kk7 kk8 (by kernel_rfl) ?_
  refine S_seq kk9 kk10 (by kernel_rfl) ?_
  refine S_region 3 (Code.ops kk9) (by kernel_rfl) ?_
  refine N_run 4 [(1, .pointer (some (Addr.mk b 0 none))), (4, .slice xB_2 xN_2 xC_2), (5, .int .u64 0), (12, .int .i64 (if 2 < (xN_2 : Int) then 2 else (xN_2 : Int))), (13, .int .i64 0)] (fun w => by kernel_rfl) ?_
  refine N_end (by kernel_rfl) ?_
  refine S_then ?_
  refine S_block 0 kk11 (by kernel_rfl) ?_
  obtain ⟨I13, m13, i4, i5⟩ := h
  refine S_loop (x := kk12) (σ := Int × Int) (fun s_ => [(1, .pointer (some (Addr.mk b 0 none))), (4, .slice xB_2 xN_2 xC_2), (5, .int .u64 s_.1), (12, .int .i64 (if 2 < (xN_2 : Int) then 2 else (xN_2 : Int))), (13, .int .i64 s_.2)]) (fun s_ H => I13 s_.1 s_.2 H) (fun s_ H => m13 s_.1 s_.2 H) ((0, 0) : Int × Int) (by kernel_rfl) i4 (sb (by kernel_rfl)) ?_
  rintro ⟨x, s13⟩ H3 i6
  have h := i5 x s13 H3 i6
  refine S_sub [(1, .pointer (some (Addr.mk b 0 none))), (4, .slice xB_2 xN_2 xC_2), (5, .int .u64 x), (12, .int .i64 (if 2 < (xN_2 : Int) then 2 else (xN_2 : Int))), (13, .int .i64 s13)] (sb (by kernel_rfl)) ?_
  refine S_seq kk13 kk14 (by kernel_rfl) ?_
  refine S_region 4 (Code.ops kk13) (by kernel_rfl) ?_
  refine N_run 1 [(1, .pointer (some (Addr.mk b 0 none))), (4, .slice xB_2 xN_2 xC_2), (5, .int .u64 x), (12, .int .i64 (if 2 < (xN_2 : Int) then 2 else (xN_2 : Int))), (13, .int .i64 s13), (14, .bool (decide (s13 < (if 2 < (xN_2 : Int) then 2 else (xN_2 : Int)))))] (fun w => by kernel_rfl) ?_
  refine N_end (by kernel_rfl) ?_
  refine S_then ?_
  refine S_seq kk15 kk16 (by kernel_rfl) ?_
  by_cases c7 : s13 < (if 2 < (xN_2 : Int) then 2 else (xN_2 : Int))
  · rw [if_pos c7] at h
    have b8 : (decide (s13 < (if 2 < (xN_2 : Int) then 2 else (xN_2 : Int)))) = true := decide_eq_true c7
    refine S_env [(1, .pointer (some (Addr.mk b 0 none))), (4, .slice xB_2 xN_2 xC_2), (5, .int .u64 x), (12, .int .i64 (if 2 < (xN_2 : Int) then 2 else (xN_2 : Int))), (13, .int .i64 s13), (14, .bool true)] (by simp only [b8, Bool.not_true, Bool.not_false]) ?_
    clear b8
    refine S_condT (.tmp 14) kk17 kk18 (by kernel_rfl) (by kernel_rfl) ?_
    refine S_skip (by kernel_rfl) ?_
    refine S_then ?_
    refine S_seq kk19 kk20 (by kernel_rfl) ?_
    refine S_block 1 kk21 (by kernel_rfl) ?_
    refine S_seq kk22 kk23 (by kernel_rfl) ?_
    refine S_region 5 (Code.ops kk22) (by kernel_rfl) ?_
    refine N_run 2 [(1, .pointer (some (Addr.mk b 0 none))), (4, .slice xB_2 xN_2 xC_2), (5, .int .u64 x), (6, .int .i64 s13), (12, .int .i64 (if 2 < (xN_2 : Int) then 2 else (xN_2 : Int))), (13, .int .i64 s13)] (fun w => by kernel_rfl) ?_
    refine N_end (by kernel_rfl) ?_
    refine S_then ?_
    refine S_region 6 (Code.ops kk23) (by kernel_rfl) ?_
    refine N_run 3 [(1, .pointer (some (Addr.mk b 0 none))), (4, .slice xB_2 xN_2 xC_2), (6, .int .i64 s13), (12, .int .i64 (if 2 < (xN_2 : Int) then 2 else (xN_2 : Int))), (13, .int .i64 s13), (16, .int .u64 x), (17, .slice xB_2 xN_2 xC_2), (18, .int .i64 s13)] (fun w => by kernel_rfl) ?_
    obtain ⟨xB2A, rfl, h⟩ := h
    obtain ⟨q9, h⟩ := h
    refine N_val (some 19) (indexAtN 40 (.slice (some xB2A) xN_2 xC_2) (.int .i64 s13)) (.pointer (some (xB2A.add (Int.toNat s13 * 1)))) (fun w => by kernel_rfl) (fun w _ => indexAt_run (P := Try.prog) (t := 40) (elem := 41) (sz := 1) (a := xB2A) (len := xN_2) (cap := xC_2) (k := .i64) (i := s13) Try.underlying40 (fun w => by kernel_rfl) q9.1 q9.2 w) [(1, .pointer (some (Addr.mk b 0 none))), (4, .slice (some xB2A) xN_2 xC_2), (6, .int .i64 s13), (12, .int .i64 (if 2 < (xN_2 : Int) then 2 else (xN_2 : Int))), (13, .int .i64 s13), (16, .int .u64 x), (19, .pointer (some (xB2A.add (Int.toNat s13 * 1))))] (ps (by kernel_rfl)) ?_
    obtain ⟨x_2, q10, h⟩ := h
    refine N_val (some 20) (loadN 41 (.pointer (some (xB2A.add (Int.toNat s13 * 1))))) (.int .u32 x_2) (fun w => by kernel_rfl) (loadN_run (loadOK_one (fun w => by kernel_rfl) q10)) [(1, .pointer (some (Addr.mk b 0 none))), (4, .slice (some xB2A) xN_2 xC_2), (6, .int .i64 s13), (12, .int .i64 (if 2 < (xN_2 : Int) then 2 else (xN_2 : Int))), (13, .int .i64 s13), (16, .int .u64 x), (20, .int .u32 x_2)] (ps (by kernel_rfl)) ?_
    refine N_run 3 [(1, .pointer (some (Addr.mk b 0 none))), (4, .slice (some xB2A) xN_2 xC_2), (12, .int .i64 (if 2 < (xN_2 : Int) then 2 else (xN_2 : Int))), (13, .int .i64 s13), (16, .int .u64 x), (21, .int .u64 (IntKind.wrap .u64 x_2)), (23, .int .i64 (IntKind.wrap .i64 (32 * s13)))] (fun w => by kernel_rfl) ?_
    obtain ⟨q11, h⟩ := h
    refine N_val (some 24) (binN .shl 28 (.int .u64 (IntKind.wrap .u64 x_2)) (.int .i64 (IntKind.wrap .i64 (32 * s13)))) (.int .u64 (ishl .u64 (IntKind.wrap .u64 x_2) (IntKind.wrap .i64 (32 * s13)))) (fun w => by kernel_rfl) (fun w _ => shl_run (P := Try.prog) (t := 28) (k := .u64) (k' := .i64) (x := (IntKind.wrap .u64 x_2)) (y := (IntKind.wrap .i64 (32 * s13))) q11 w) [(1, .pointer (some (Addr.mk b 0 none))), (4, .slice (some xB2A) xN_2 xC_2), (12, .int .i64 (if 2 < (xN_2 : Int) then 2 else (xN_2 : Int))), (13, .int .i64 s13), (16, .int .u64 x), (24, .int .u64 (ishl .u64 (IntKind.wrap .u64 x_2) (IntKind.wrap .i64 (32 * s13))))] (ps (by kernel_rfl)) ?_
    refine N_run 2 [(1, .pointer (some (Addr.mk b 0 none))), (4, .slice (some xB2A) xN_2 xC_2), (5, .int .u64 (ior .u64 x (ishl .u64 (IntKind.wrap .u64 x_2) (IntKind.wrap .i64 (32 * s13))))), (12, .int .i64 (if 2 < (xN_2 : Int) then 2 else (xN_2 : Int))), (13, .int .i64 s13)] (fun w => by kernel_rfl) ?_
    refine N_end (by kernel_rfl) ?_
    refine S_blockEnd ?_
    refine S_then ?_
    refine S_region 7 (Code.ops kk20) (by kernel_rfl) ?_
    refine N_run 2 [(1, .pointer (some (Addr.mk b 0 none))), (4, .slice (some xB2A) xN_2 xC_2), (5, .int .u64 (ior .u64 x (ishl .u64 (IntKind.wrap .u64 x_2) (IntKind.wrap .i64 (32 * s13))))), (12, .int .i64 (if 2 < (xN_2 : Int) then 2 else (xN_2 : Int))), (13, .int .i64 (IntKind.wrap .i64 (s13 + 1)))] (fun w => by kernel_rfl) ?_
    refine N_end (by kernel_rfl) ?_
    refine S_then ?_
    exact S_round (((ior .u64 x (ishl .u64 (IntKind.wrap .u64 x_2) (IntKind.wrap .i64 (32 * s13)))), (IntKind.wrap .i64 (s13 + 1))) : Int × Int) (sb (by kernel_rfl)) h
  · rw [if_neg c7] at h
    have b8 : (decide (s13 < (if 2 < (xN_2 : Int) then 2 else (xN_2 : Int)))) = false := decide_eq_false c7
    refine S_env [(1, .pointer (some (Addr.mk b 0 none))), (4, .slice xB_2 xN_2 xC_2), (5, .int .u64 x), (12, .int .i64 (if 2 < (xN_2 : Int) then 2 else (xN_2 : Int))), (13, .int .i64 s13), (14, .bool false)] (by simp only [b8, Bool.not_true, Bool.not_false]) ?_
    clear b8
    refine S_condF (.tmp 14) kk17 kk18 (by kernel_rfl) (by kernel_rfl) ?_
    refine S_exit 0 (by kernel_rfl) ?_
    refine S_exitThen ?_
    refine S_exitThen ?_
    refine S_exitHere ?_
    refine S_then ?_
    refine S_seq kk24 kk25 (by kernel_rfl) ?_
    refine S_block 2 kk26 (by kernel_rfl) ?_
    refine S_seq kk27 kk28 (by kernel_rfl) ?_
    refine S_region 8 (Code.ops kk27) (by kernel_rfl) ?_
    refine N_run 4 [(1, .pointer (some (Addr.mk b 0 none))), (5, .int .u64 x), (31, .bool (decide ((xN_2 : Int) > 2)))] (fun w => by kernel_rfl) ?_
    by_cases c12 : (xN_2 : Int) > 2
    · rw [if_pos c12] at h
      have b13 : (decide ((xN_2 : Int) > 2)) = true := decide_eq_true c12
      refine N_env [(1, .pointer (some (Addr.mk b 0 none))), (5, .int .u64 x), (31, .bool true)] (by simp only [b13, Bool.not_true, Bool.not_false]) ?_
      clear b13
      refine N_run 13 [(1, .pointer (some (Addr.mk b 0 none))), (5, .int .u64 x), (27, .bool true)] (fun w => by kernel_rfl) ?_
      refine N_end (by kernel_rfl) ?_
      refine S_then ?_
      refine S_condT (.tmp 27) kk29 kk30 (by kernel_rfl) (by kernel_rfl) ?_
      refine S_seq kk31 kk32 (by kernel_rfl) ?_
      refine S_region 9 (Code.ops kk31) (by kernel_rfl) ?_
      refine N_run 2 [(2, .int .i64 0), (3, .bool false)] (fun w => by kernel_rfl) ?_
      refine N_end (by kernel_rfl) ?_
      refine S_then ?_
      refine S_ret (by kernel_rfl) ?_
      show At _ _ _ _ _ (Q .ret)
      exact S_done (fn := Try.f44) [.int .i64 0, .bool false] hQ (show ResOK _ _ _ [.tmp 2, .tmp 3] _ from .tmp (by kernel_rfl) (.tmp (by kernel_rfl) (.nil))) h
    · rw [if_neg c12] at h
      have b13 : (decide ((xN_2 : Int) > 2)) = false := decide_eq_false c12
      refine N_env [(1, .pointer (some (Addr.mk b 0 none))), (5, .int .u64 x), (31, .bool false)] (by simp only [b13, Bool.not_true, Bool.not_false]) ?_
      clear b13
      refine N_run 4 [(1, .pointer (some (Addr.mk b 0 none))), (5, .int .u64 x), (35, .bool (decide (x > 1152921504606846976)))] (fun w => by kernel_rfl) ?_
      by_cases c14 : x > 1152921504606846976
      · rw [if_pos c14] at h
        have b15 : (decide (x > 1152921504606846976)) = true := decide_eq_true c14
        refine N_env [(1, .pointer (some (Addr.mk b 0 none))), (5, .int .u64 x), (35, .bool true)] (by simp only [b15, Bool.not_true, Bool.not_false]) ?_
        clear b15
        refine N_run 9 [(1, .pointer (some (Addr.mk b 0 none))), (5, .int .u64 x), (27, .bool true)] (fun w => by kernel_rfl) ?_
        refine N_end (by kernel_rfl) ?_
        refine S_then ?_
        refine S_condT (.tmp 27) kk29 kk30 (by kernel_rfl) (by kernel_rfl) ?_
        refine S_seq kk31 kk32 (by kernel_rfl) ?_
        refine S_region 9 (Code.ops kk31) (by kernel_rfl) ?_
        refine N_run 2 [(2, .int .i64 0), (3, .bool false)] (fun w => by kernel_rfl) ?_
        refine N_end (by kernel_rfl) ?_
        refine S_then ?_
        refine S_ret (by kernel_rfl) ?_
        show At _ _ _ _ _ (Q .ret)
        exact S_done (fn := Try.f44) [.int .i64 0, .bool false] hQ (show ResOK _ _ _ [.tmp 2, .tmp 3] _ from .tmp (by kernel_rfl) (.tmp (by kernel_rfl) (.nil))) h
      · rw [if_neg c14] at h
        have b15 : (decide (x > 1152921504606846976)) = false := decide_eq_false c14
        refine N_env [(1, .pointer (some (Addr.mk b 0 none))), (5, .int .u64 x), (35, .bool false)] (by simp only [b15, Bool.not_true, Bool.not_false]) ?_
        clear b15
        refine N_run 3 [(1, .pointer (some (Addr.mk b 0 none))), (5, .int .u64 x), (35, .bool false), (38, .bool (x == 1152921504606846976))] (fun w => by kernel_rfl) ?_
        by_cases c16 : x = 1152921504606846976
        · rw [if_pos c16] at h
          have b17 : (x == 1152921504606846976) = true := beq_iff_eq.mpr c16
          refine N_env [(1, .pointer (some (Addr.mk b 0 none))), (5, .int .u64 x), (35, .bool false), (38, .bool true)] (by simp only [b17, Bool.not_true, Bool.not_false]) ?_
          clear b17
          refine N_run 1 [(1, .pointer (some (Addr.mk b 0 none))), (5, .int .u64 x), (35, .bool false), (38, .bool true), (39, .pointer (some (Addr.mk b 0 none)))] (fun w => by kernel_rfl) ?_
          obtain ⟨x_3, q18, h⟩ := h
          refine N_val (some 40) (loadN 4 (.pointer (some (Addr.mk b 0 none)))) (.bool x_3) (fun w => by kernel_rfl) (loadN_run (loadOK_one (fun w => by kernel_rfl) q18)) [(1, .pointer (some (Addr.mk b 0 none))), (5, .int .u64 x), (35, .bool false), (38, .bool true), (40, .bool x_3)] (ps (by kernel_rfl)) ?_
          refine N_run 4 [(1, .pointer (some (Addr.mk b 0 none))), (5, .int .u64 x), (27, .bool (!x_3))] (fun w => by kernel_rfl) ?_
          refine N_end (by kernel_rfl) ?_
          refine S_then ?_
          by_cases c19 : x_3 = true
          · rw [if_pos c19] at h
            have b20 : (!x_3) = false := congrArg Bool.not (c19)
            have b202 : x_3 = true := c19
            refine S_env [(1, .pointer (some (Addr.mk b 0 none))), (5, .int .u64 x), (27, .bool false)] (by simp only [b20, b202, Bool.not_true, Bool.not_false]) ?_
            clear b20 b202
            refine S_condF (.tmp 27) kk29 kk30 (by kernel_rfl) (by kernel_rfl) ?_
            refine S_seq kk33 kk34 (by kernel_rfl) ?_
            refine S_region 10 (Code.ops kk33) (by kernel_rfl) ?_
            refine N_run 1 [(5, .int .u64 x), (45, .pointer (some (Addr.mk b 0 none)))] (fun w => by kernel_rfl) ?_
            obtain ⟨x_4, q21, h⟩ := h
            refine N_val (some 46) (loadN 4 (.pointer (some (Addr.mk b 0 none)))) (.bool x_4) (fun w => by kernel_rfl) (loadN_run (loadOK_one (fun w => by kernel_rfl) q21)) [(5, .int .u64 x), (46, .bool x_4)] (ps (by kernel_rfl)) ?_
            refine N_run 1 [(5, .int .u64 x), (44, .bool x_4)] (fun w => by kernel_rfl) ?_
            refine N_end (by kernel_rfl) ?_
            refine S_then ?_
            by_cases c22 : x_4 = true
            · rw [if_pos c22] at h
              have b23 : x_4 = true := c22
              refine S_env [(5, .int .u64 x), (44, .bool true)] (by simp only [b23, Bool.not_true, Bool.not_false]) ?_
              clear b23
              refine S_condT (.tmp 44) kk35 kk36 (by kernel_rfl) (by kernel_rfl) ?_
              refine S_seq kk37 kk38 (by kernel_rfl) ?_
              refine S_region 11 (Code.ops kk37) (by kernel_rfl) ?_
              refine N_run 5 [(2, .int .i64 (IntKind.wrap .i64 (0 - (IntKind.wrap .i64 x)))), (3, .bool true)] (fun w => by kernel_rfl) ?_
              refine N_end (by kernel_rfl) ?_
              refine S_then ?_
              refine S_ret (by kernel_rfl) ?_
              show At _ _ _ _ _ (Q .ret)
              exact S_done (fn := Try.f44) [.int .i64 (IntKind.wrap .i64 (0 - (IntKind.wrap .i64 x))), .bool true] hQ (show ResOK _ _ _ [.tmp 2, .tmp 3] _ from .tmp (by kernel_rfl) (.tmp (by kernel_rfl) (.nil))) h
            · rw [if_neg c22] at h
              have b23 : x_4 = false := eq_false_of_ne_true c22
              refine S_env [(5, .int .u64 x), (44, .bool false)] (by simp only [b23, Bool.not_true, Bool.not_false]) ?_
              clear b23
              refine S_condF (.tmp 44) kk35 kk36 (by kernel_rfl) (by kernel_rfl) ?_
              refine S_skip (by kernel_rfl) ?_
              refine S_blockEnd ?_
              refine S_then ?_
              refine S_seq kk39 kk40 (by kernel_rfl) ?_
              refine S_region 12 (Code.ops kk39) (by kernel_rfl) ?_
              refine N_run 4 [(2, .int .i64 (IntKind.wrap .i64 x)), (3, .bool true)] (fun w => by kernel_rfl) ?_
              refine N_end (by kernel_rfl) ?_
              refine S_then ?_
              refine S_ret (by kernel_rfl) ?_
              show At _ _ _ _ _ (Q .ret)
              exact S_done (fn := Try.f44) [.int .i64 (IntKind.wrap .i64 x), .bool true] hQ (show ResOK _ _ _ [.tmp 2, .tmp 3] _ from .tmp (by kernel_rfl) (.tmp (by kernel_rfl) (.nil))) h
          · rw [if_neg c19] at h
            have b20 : (!x_3) = true := congrArg Bool.not (eq_false_of_ne_true c19)
            have b202 : x_3 = false := eq_false_of_ne_true c19
            refine S_env [(1, .pointer (some (Addr.mk b 0 none))), (5, .int .u64 x), (27, .bool true)] (by simp only [b20, b202, Bool.not_true, Bool.not_false]) ?_
            clear b20 b202
            refine S_condT (.tmp 27) kk29 kk30 (by kernel_rfl) (by kernel_rfl) ?_
            refine S_seq kk31 kk32 (by kernel_rfl) ?_
            refine S_region 9 (Code.ops kk31) (by kernel_rfl) ?_
            refine N_run 2 [(2, .int .i64 0), (3, .bool false)] (fun w => by kernel_rfl) ?_
            refine N_end (by kernel_rfl) ?_
            refine S_then ?_
            refine S_ret (by kernel_rfl) ?_
            show At _ _ _ _ _ (Q .ret)
            exact S_done (fn := Try.f44) [.int .i64 0, .bool false] hQ (show ResOK _ _ _ [.tmp 2, .tmp 3] _ from .tmp (by kernel_rfl) (.tmp (by kernel_rfl) (.nil))) h
        · rw [if_neg c16] at h
          have b17 : (x == 1152921504606846976) = false := beq_eq_false_iff_ne.mpr c16
          refine N_env [(1, .pointer (some (Addr.mk b 0 none))), (5, .int .u64 x), (35, .bool false), (38, .bool false)] (by simp only [b17, Bool.not_true, Bool.not_false]) ?_
          clear b17
          refine N_run 6 [(1, .pointer (some (Addr.mk b 0 none))), (5, .int .u64 x), (27, .bool false)] (fun w => by kernel_rfl) ?_
          refine N_end (by kernel_rfl) ?_
          refine S_then ?_
          refine S_condF (.tmp 27) kk29 kk30 (by kernel_rfl) (by kernel_rfl) ?_
          refine S_seq kk33 kk34 (by kernel_rfl) ?_
          refine S_region 10 (Code.ops kk33) (by kernel_rfl) ?_
          refine N_run 1 [(5, .int .u64 x), (45, .pointer (some (Addr.mk b 0 none)))] (fun w => by kernel_rfl) ?_
          obtain ⟨x_5, q24, h⟩ := h
          refine N_val (some 46) (loadN 4 (.pointer (some (Addr.mk b 0 none)))) (.bool x_5) (fun w => by kernel_rfl) (loadN_run (loadOK_one (fun w => by kernel_rfl) q24)) [(5, .int .u64 x), (46, .bool x_5)] (ps (by kernel_rfl)) ?_
          refine N_run 1 [(5, .int .u64 x), (44, .bool x_5)] (fun w => by kernel_rfl) ?_
          refine N_end (by kernel_rfl) ?_
          refine S_then ?_
          by_cases c25 : x_5 = true
          · rw [if_pos c25] at h
            have b26 : x_5 = true := c25
            refine S_env [(5, .int .u64 x), (44, .bool true)] (by simp only [b26, Bool.not_true, Bool.not_false]) ?_
            clear b26
            refine S_condT (.tmp 44) kk35 kk36 (by kernel_rfl) (by kernel_rfl) ?_
            refine S_seq kk37 kk38 (by kernel_rfl) ?_
            refine S_region 11 (Code.ops kk37) (by kernel_rfl) ?_
            refine N_run 5 [(2, .int .i64 (IntKind.wrap .i64 (0 - (IntKind.wrap .i64 x)))), (3, .bool true)] (fun w => by kernel_rfl) ?_
            refine N_end (by kernel_rfl) ?_
            refine S_then ?_
            refine S_ret (by kernel_rfl) ?_
            show At _ _ _ _ _ (Q .ret)
            exact S_done (fn := Try.f44) [.int .i64 (IntKind.wrap .i64 (0 - (IntKind.wrap .i64 x))), .bool true] hQ (show ResOK _ _ _ [.tmp 2, .tmp 3] _ from .tmp (by kernel_rfl) (.tmp (by kernel_rfl) (.nil))) h
          · rw [if_neg c25] at h
            have b26 : x_5 = false := eq_false_of_ne_true c25
            refine S_env [(5, .int .u64 x), (44, .bool false)] (by simp only [b26, Bool.not_true, Bool.not_false]) ?_
            clear b26
            refine S_condF (.tmp 44) kk35 kk36 (by kernel_rfl) (by kernel_rfl) ?_
            refine S_skip (by kernel_rfl) ?_
            refine S_blockEnd ?_
            refine S_then ?_
            refine S_seq kk39 kk40 (by kernel_rfl) ?_
            refine S_region 12 (Code.ops kk39) (by kernel_rfl) ?_
            refine N_run 4 [(2, .int .i64 (IntKind.wrap .i64 x)), (3, .bool true)] (fun w => by kernel_rfl) ?_
            refine N_end (by kernel_rfl) ?_
            refine S_then ?_
            refine S_ret (by kernel_rfl) ?_
            show At _ _ _ _ _ (Q .ret)
            exact S_done (fn := Try.f44) [.int .i64 (IntKind.wrap .i64 x), .bool true] hQ (show ResOK _ _ _ [.tmp 2, .tmp 3] _ from .tmp (by kernel_rfl) (.tmp (by kernel_rfl) (.nil))) h
end num_Fix

/-! moraine/num.made -/
namespace num_made
def kk0 := Func.code Try.f69
def kk1 := Code.fa kk0
def kk2 := Code.fb kk0
def kk3 := Code.fa kk2
def kk4 := Code.fb kk2
def kk5 := Code.fa kk4
def kk6 := Code.fb kk4
def kk7 := Code.fa kk5
def kk8 := Code.fb kk5
def kk9 := Code.fa kk8
def kk10 := Code.fb kk8
def kk11 := Code.fa kk9
def kk12 := Code.fb kk9
def kk13 := Code.fa kk6
def kk14 := Code.fb kk6
end num_made
def num_made.pt (neg : Bool) (mB : Option Addr) (mN : Nat) (mC : Nat) (H : Array Obj) (R : Value → Array Obj → Prop) : Prop :=
 ∀ (b : Nat) (H1 : Array Obj), b = H.size → H1 = H.push (.cells #[.bool false, .slice none 0 0] 70) →
 num_trim.C mB mN mC H1 (fun v H2 => ∃ xB : Option Addr, ∃ xN : Nat, ∃ xC : Nat, v = .slice xB xN xC ∧ 
  if (xN : Int) > 48 then (
   (CanPuts H2 (Addr.mk b 0 none) 0 2) ∧ ∀ H3 : Array Obj, H3 = hputs H2 (Addr.mk b 0 none) [.bool false, .slice none 0 0] 0 →
   ∃ rNeg : Bool, ∃ rMagB : Option Addr, ∃ rMagN : Nat, ∃ rMagC : Nat, RowAt H3 (Addr.mk b 0 none) 0 [.bool rNeg, .slice rMagB rMagN rMagC] ∧
   R (.tuple #[.agg #[.bool rNeg, .slice rMagB rMagN rMagC], .int .i64 6]) H3)
  else
  if neg = true then (
   slices_Clone_uint32_uint32.C xB xN xC H2 (fun v_2 H4 => ∃ xB_2 : Option Addr, ∃ xN_2 : Nat, ∃ xC_2 : Nat, v_2 = .slice xB_2 xN_2 xC_2 ∧ 
    (CanPuts H4 (Addr.mk b 0 none) 0 2) ∧ ∀ H5 : Array Obj, H5 = hputs H4 (Addr.mk b 0 none) [.bool (decide ((xN : Int) > 0)), .slice xB_2 xN_2 xC_2] 0 →
    ∃ rNeg_2 : Bool, ∃ rMagB_2 : Option Addr, ∃ rMagN_2 : Nat, ∃ rMagC_2 : Nat, RowAt H5 (Addr.mk b 0 none) 0 [.bool rNeg_2, .slice rMagB_2 rMagN_2 rMagC_2] ∧
    R (.tuple #[.agg #[.bool rNeg_2, .slice rMagB_2 rMagN_2 rMagC_2], .int .i64 0]) H5))
  else
  slices_Clone_uint32_uint32.C xB xN xC H2 (fun v_3 H6 => ∃ xB_3 : Option Addr, ∃ xN_3 : Nat, ∃ xC_3 : Nat, v_3 = .slice xB_3 xN_3 xC_3 ∧ 
   (CanPuts H6 (Addr.mk b 0 none) 0 2) ∧ ∀ H7 : Array Obj, H7 = hputs H6 (Addr.mk b 0 none) [.bool false, .slice xB_3 xN_3 xC_3] 0 →
   ∃ rNeg_3 : Bool, ∃ rMagB_3 : Option Addr, ∃ rMagN_3 : Nat, ∃ rMagC_3 : Nat, RowAt H7 (Addr.mk b 0 none) 0 [.bool rNeg_3, .slice rMagB_3 rMagN_3 rMagC_3] ∧
   R (.tuple #[.agg #[.bool rNeg_3, .slice rMagB_3 rMagN_3 rMagC_3], .int .i64 0]) H7))
namespace num_made
set_option maxRecDepth 100000 in
theorem link {neg : Bool} {mB : Option Addr} {mN : Nat} {mC : Nat} {H : Array Obj} {R : Value → Array Obj → Prop} (h : pt neg mB mN mC H R) : C neg mB mN mC H R := by
  refine S_enter (fn := Try.f69) (c := kk0) 21 Try.func69 (by kernel_rfl) (by kernel_rfl) (Nat.le_of_ble_eq_true (by kernel_rfl)) ?_
  intro w0 Q hQ
  unfold pt at h
  refine S_sub [(0, .bool neg), (1, .slice mB mN mC)] (sb (by kernel_rfl)) ?_
  refine S_seq kk1 kk2 (by kernel_rfl) ?_
  refine S_region 0 (Code.ops kk1) (by kernel_rfl) ?_
  refine N_new (some 4) (fun b => .pointer (some (Addr.mk b 0 none))) (.cells #[.bool false, .slice none 0 0] 70) (fun w => by kernel_rfl) ?_
  intro b H1 e1 e2
  replace h := h b H1 e1 e2
  refine ⟨[(0, .bool neg), (1, .slice mB mN mC), (4, .pointer (some (Addr.mk b 0 none)))], ps (by kernel_rfl), ?_⟩
  refine N_run 1 [(0, .bool neg), (1, .slice mB mN mC), (4, .pointer (some (Addr.mk b 0 none)))] (fun w => by kernel_rfl) ?_
  refine N_end (by kernel_rfl) ?_
  refine S_then ?_
  refine S_seq kk3 kk4 (by kernel_rfl) ?_
  refine S_region 1 (Code.ops kk3) (by kernel_rfl) ?_
  refine N_run 1 [(0, .bool neg), (4, .pointer (some (Addr.mk b 0 none))), (6, .slice mB mN mC)] (fun w => by kernel_rfl) ?_
  refine N_call (some 7) 73 #[.slice mB mN mC] (fun w => by kernel_rfl) h ?_; clear h
  rintro v H2 ⟨xB, xN, xC, rfl, h⟩
  refine ⟨[(0, .bool neg), (4, .pointer (some (Addr.mk b 0 none))), (7, .slice xB xN xC)], ps (by kernel_rfl), ?_⟩
  refine N_run 1 [(0, .bool neg), (1, .slice xB xN xC), (4, .pointer (some (Addr.mk b 0 none)))] (fun w => by kernel_rfl) ?_
  refine N_end (by kernel_rfl) ?_
  refine S_then ?_
  refine S_seq kk5 kk6 (by kernel_rfl) ?_
  refine S_seq kk7 kk8 (by kernel_rfl) ?_
  refine S_region 2 (Code.ops kk7) (by kernel_rfl) ?_
  refine N_run 3 [(0, .bool neg), (1, .slice xB xN xC), (4, .pointer (some (Addr.mk b 0 none))), (10, .bool (decide ((xN : Int) > 48)))] (fun w => by kernel_rfl) ?_
  refine N_end (by kernel_rfl) ?_
  refine S_then ?_
  by_cases c3 : (xN : Int) > 48
  · rw [if_pos c3] at h
    have b4 : (decide ((xN : Int) > 48)) = true := decide_eq_true c3
    refine S_env [(0, .bool neg), (1, .slice xB xN xC), (4, .pointer (some (Addr.mk b 0 none))), (10, .bool true)] (by simp only [b4, Bool.not_true, Bool.not_false]) ?_
    clear b4
    refine S_condT (.tmp 10) kk9 kk10 (by kernel_rfl) (by kernel_rfl) ?_
    refine S_seq kk11 kk12 (by kernel_rfl) ?_
    refine S_region 3 (Code.ops kk11) (by kernel_rfl) ?_
    refine N_run 1 [(4, .pointer (some (Addr.mk b 0 none))), (11, .agg #[.bool false, .slice none 0 0])] (fun w => by kernel_rfl) ?_
    obtain ⟨q6, h⟩ := h
    refine N_skipop none (storeN 70 (.pointer (some (Addr.mk b 0 none))) (.agg #[.bool false, .slice none 0 0])) (fun Hz => Hz = hputs H2 (Addr.mk b 0 none) [.bool false, .slice none 0 0] 0) (fun w => by kernel_rfl) (ss_store [.bool false, .slice none 0 0] 2 (by kernel_rfl) (by kernel_rfl) (fun w => by kernel_rfl) (by kernel_rfl) q6) ?_
    intro H3 e5
    replace h := h H3 e5
    refine ⟨[(4, .pointer (some (Addr.mk b 0 none)))], ps (by kernel_rfl), ?_⟩
    refine N_run 1 [(4, .pointer (some (Addr.mk b 0 none))), (5, .int .i64 6)] (fun w => by kernel_rfl) ?_
    refine N_end (by kernel_rfl) ?_
    refine S_then ?_
    refine S_ret (by kernel_rfl) ?_
    show At _ _ _ _ _ (Q .ret)
    obtain ⟨rNeg, rMagB, rMagN, rMagC, q7, h⟩ := h
    exact S_done (fn := Try.f69) [.agg #[.bool rNeg, .slice rMagB rMagN rMagC], .int .i64 6] hQ (show ResOK _ _ _ [.cell 4 70, .tmp 5] _ from .cell (by kernel_rfl) (loadOK_row (fun w => by kernel_rfl) (fun w => by kernel_rfl) q7) (.tmp (by kernel_rfl) (.nil))) h
  · rw [if_neg c3] at h
    have b4 : (decide ((xN : Int) > 48)) = false := decide_eq_false c3
    refine S_env [(0, .bool neg), (1, .slice xB xN xC), (4, .pointer (some (Addr.mk b 0 none))), (10, .bool false)] (by simp only [b4, Bool.not_true, Bool.not_false]) ?_
    clear b4
    refine S_condF (.tmp 10) kk9 kk10 (by kernel_rfl) (by kernel_rfl) ?_
    refine S_skip (by kernel_rfl) ?_
    refine S_then ?_
    refine S_seq kk13 kk14 (by kernel_rfl) ?_
    refine S_region 4 (Code.ops kk13) (by kernel_rfl) ?_
    refine N_run 2 [(1, .slice xB xN xC), (4, .pointer (some (Addr.mk b 0 none))), (13, .bool neg)] (fun w => by kernel_rfl) ?_
    by_cases c8 : neg = true
    · rw [if_pos c8] at h
      have b9 : neg = true := c8
      refine N_env [(1, .slice xB xN xC), (4, .pointer (some (Addr.mk b 0 none))), (13, .bool true)] (by simp only [b9, Bool.not_true, Bool.not_false]) ?_
      clear b9
      refine N_run 5 [(4, .pointer (some (Addr.mk b 0 none))), (17, .bool (decide ((xN : Int) > 0))), (18, .slice xB xN xC)] (fun w => by kernel_rfl) ?_
      refine N_call (some 19) 96 #[.slice xB xN xC] (fun w => by kernel_rfl) h ?_; clear h
      rintro v_2 H4 ⟨xB_2, xN_2, xC_2, rfl, h⟩
      refine ⟨[(4, .pointer (some (Addr.mk b 0 none))), (17, .bool (decide ((xN : Int) > 0))), (19, .slice xB_2 xN_2 xC_2)], ps (by kernel_rfl), ?_⟩
      refine N_run 1 [(4, .pointer (some (Addr.mk b 0 none))), (20, .agg #[.bool (decide ((xN : Int) > 0)), .slice xB_2 xN_2 xC_2])] (fun w => by kernel_rfl) ?_
      obtain ⟨q11, h⟩ := h
      refine N_skipop none (storeN 70 (.pointer (some (Addr.mk b 0 none))) (.agg #[.bool (decide ((xN : Int) > 0)), .slice xB_2 xN_2 xC_2])) (fun Hz => Hz = hputs H4 (Addr.mk b 0 none) [.bool (decide ((xN : Int) > 0)), .slice xB_2 xN_2 xC_2] 0) (fun w => by kernel_rfl) (ss_store [.bool (decide ((xN : Int) > 0)), .slice xB_2 xN_2 xC_2] 2 (by kernel_rfl) (by kernel_rfl) (fun w => by kernel_rfl) (by kernel_rfl) q11) ?_
      intro H5 e10
      replace h := h H5 e10
      refine ⟨[(4, .pointer (some (Addr.mk b 0 none)))], ps (by kernel_rfl), ?_⟩
      refine N_run 1 [(4, .pointer (some (Addr.mk b 0 none))), (5, .int .i64 0)] (fun w => by kernel_rfl) ?_
      refine N_end (by kernel_rfl) ?_
      refine S_then ?_
      refine S_ret (by kernel_rfl) ?_
      show At _ _ _ _ _ (Q .ret)
      obtain ⟨rNeg_2, rMagB_2, rMagN_2, rMagC_2, q12, h⟩ := h
      exact S_done (fn := Try.f69) [.agg #[.bool rNeg_2, .slice rMagB_2 rMagN_2 rMagC_2], .int .i64 0] hQ (show ResOK _ _ _ [.cell 4 70, .tmp 5] _ from .cell (by kernel_rfl) (loadOK_row (fun w => by kernel_rfl) (fun w => by kernel_rfl) q12) (.tmp (by kernel_rfl) (.nil))) h
    · rw [if_neg c8] at h
      have b9 : neg = false := eq_false_of_ne_true c8
      refine N_env [(1, .slice xB xN xC), (4, .pointer (some (Addr.mk b 0 none))), (13, .bool false)] (by simp only [b9, Bool.not_true, Bool.not_false]) ?_
      clear b9
      refine N_run 5 [(4, .pointer (some (Addr.mk b 0 none))), (17, .bool false), (18, .slice xB xN xC)] (fun w => by kernel_rfl) ?_
      refine N_call (some 19) 96 #[.slice xB xN xC] (fun w => by kernel_rfl) h ?_; clear h
      rintro v_3 H6 ⟨xB_3, xN_3, xC_3, rfl, h⟩
      refine ⟨[(4, .pointer (some (Addr.mk b 0 none))), (17, .bool false), (19, .slice xB_3 xN_3 xC_3)], ps (by kernel_rfl), ?_⟩
      refine N_run 1 [(4, .pointer (some (Addr.mk b 0 none))), (20, .agg #[.bool false, .slice xB_3 xN_3 xC_3])] (fun w => by kernel_rfl) ?_
      obtain ⟨q14, h⟩ := h
      refine N_skipop none (storeN 70 (.pointer (some (Addr.mk b 0 none))) (.agg #[.bool false, .slice xB_3 xN_3 xC_3])) (fun Hz => Hz = hputs H6 (Addr.mk b 0 none) [.bool false, .slice xB_3 xN_3 xC_3] 0) (fun w => by kernel_rfl) (ss_store [.bool false, .slice xB_3 xN_3 xC_3] 2 (by kernel_rfl) (by kernel_rfl) (fun w => by kernel_rfl) (by kernel_rfl) q14) ?_
      intro H7 e13
      replace h := h H7 e13
      refine ⟨[(4, .pointer (some (Addr.mk b 0 none)))], ps (by kernel_rfl), ?_⟩
      refine N_run 1 [(4, .pointer (some (Addr.mk b 0 none))), (5, .int .i64 0)] (fun w => by kernel_rfl) ?_
      refine N_end (by kernel_rfl) ?_
      refine S_then ?_
      refine S_ret (by kernel_rfl) ?_
      show At _ _ _ _ _ (Q .ret)
      obtain ⟨rNeg_3, rMagB_3, rMagN_3, rMagC_3, q15, h⟩ := h
      exact S_done (fn := Try.f69) [.agg #[.bool rNeg_3, .slice rMagB_3 rMagN_3 rMagC_3], .int .i64 0] hQ (show ResOK _ _ _ [.cell 4 70, .tmp 5] _ from .cell (by kernel_rfl) (loadOK_row (fun w => by kernel_rfl) (fun w => by kernel_rfl) q15) (.tmp (by kernel_rfl) (.nil))) h
end num_made

/-! moraine/num.Of -/
namespace num_Of
def kk0 := Func.code Try.f70
def kk1 := Code.fa kk0
def kk2 := Code.fb kk0
def kk3 := Code.fa kk2
def kk4 := Code.fb kk2
def kk5 := Code.fa kk4
def kk6 := Code.fb kk4
def kk7 := Code.fa kk5
def kk8 := Code.fb kk5
def kk9 := Code.fa kk8
def kk10 := Code.fb kk8
def kk11 := Code.fa kk6
def kk12 := Code.fb kk6
def kk13 := Code.fa kk12
def kk14 := Code.fb kk12
end num_Of
def num_Of.pt (x : Int) (H : Array Obj) (R : Value → Array Obj → Prop) : Prop :=
 ∀ (b : Nat) (H1 : Array Obj), b = H.size → H1 = H.push (.cells #[.bool false, .slice none 0 0] 70) →
 if x < 0 then (
  ∀ (b_2 : Nat) (H2 : Array Obj), b_2 = H1.size → H2 = H1.push (.cells #[.int .u32 (IntKind.wrap .u32 (IntKind.wrap .u64 (0 - (IntKind.wrap .u64 x)))), .int .u32 (IntKind.wrap .u32 (ishr .u64 (IntKind.wrap .u64 (0 - (IntKind.wrap .u64 x))) 32))] 41) →
  num_made.C (decide (x < 0)) (some (Addr.mk b_2 0 none)) 2 2 H2 (fun v H3 => ∃ raNeg : Bool, ∃ raMagB : Option Addr, ∃ raMagN : Nat, ∃ raMagC : Nat, ∃ rb : Int, v = .tuple #[.agg #[.bool raNeg, .slice raMagB raMagN raMagC], .int .i64 rb] ∧ 
   ∀ (b_3 : Nat) (H4 : Array Obj), b_3 = H3.size → H4 = H3.push (.cells #[.bool false, .slice none 0 0] 70) →
   (CanPuts H4 (Addr.mk b_3 0 none) 0 2) ∧ ∀ H5 : Array Obj, H5 = hputs H4 (Addr.mk b_3 0 none) [.bool raNeg, .slice raMagB raMagN raMagC] 0 →
   ∃ xNeg : Bool, ∃ xMagB : Option Addr, ∃ xMagN : Nat, ∃ xMagC : Nat, RowAt H5 (Addr.mk b_3 0 none) 0 [.bool xNeg, .slice xMagB xMagN xMagC] ∧
   (CanPuts H5 (Addr.mk b 0 none) 0 2) ∧ ∀ H6 : Array Obj, H6 = hputs H5 (Addr.mk b 0 none) [.bool xNeg, .slice xMagB xMagN xMagC] 0 →
   ∃ rNeg : Bool, ∃ rMagB : Option Addr, ∃ rMagN : Nat, ∃ rMagC : Nat, RowAt H6 (Addr.mk b 0 none) 0 [.bool rNeg, .slice rMagB rMagN rMagC] ∧
   R (.agg #[.bool rNeg, .slice rMagB rMagN rMagC]) H6))
 else
 ∀ (b_4 : Nat) (H7 : Array Obj), b_4 = H1.size → H7 = H1.push (.cells #[.int .u32 (IntKind.wrap .u32 (IntKind.wrap .u64 x)), .int .u32 (IntKind.wrap .u32 (ishr .u64 (IntKind.wrap .u64 x) 32))] 41) →
 num_made.C (decide (x < 0)) (some (Addr.mk b_4 0 none)) 2 2 H7 (fun v_2 H8 => ∃ raNeg_2 : Bool, ∃ raMagB_2 : Option Addr, ∃ raMagN_2 : Nat, ∃ raMagC_2 : Nat, ∃ rb_2 : Int, v_2 = .tuple #[.agg #[.bool raNeg_2, .slice raMagB_2 raMagN_2 raMagC_2], .int .i64 rb_2] ∧ 
  ∀ (b_5 : Nat) (H9 : Array Obj), b_5 = H8.size → H9 = H8.push (.cells #[.bool false, .slice none 0 0] 70) →
  (CanPuts H9 (Addr.mk b_5 0 none) 0 2) ∧ ∀ H10 : Array Obj, H10 = hputs H9 (Addr.mk b_5 0 none) [.bool raNeg_2, .slice raMagB_2 raMagN_2 raMagC_2] 0 →
  ∃ xNeg_2 : Bool, ∃ xMagB_2 : Option Addr, ∃ xMagN_2 : Nat, ∃ xMagC_2 : Nat, RowAt H10 (Addr.mk b_5 0 none) 0 [.bool xNeg_2, .slice xMagB_2 xMagN_2 xMagC_2] ∧
  (CanPuts H10 (Addr.mk b 0 none) 0 2) ∧ ∀ H11 : Array Obj, H11 = hputs H10 (Addr.mk b 0 none) [.bool xNeg_2, .slice xMagB_2 xMagN_2 xMagC_2] 0 →
  ∃ rNeg_2 : Bool, ∃ rMagB_2 : Option Addr, ∃ rMagN_2 : Nat, ∃ rMagC_2 : Nat, RowAt H11 (Addr.mk b 0 none) 0 [.bool rNeg_2, .slice rMagB_2 rMagN_2 rMagC_2] ∧
  R (.agg #[.bool rNeg_2, .slice rMagB_2 rMagN_2 rMagC_2]) H11)
namespace num_Of
set_option maxRecDepth 100000 in
theorem link {x : Int} {H : Array Obj} {R : Value → Array Obj → Prop} (h : pt x H R) : C x H R := by
  refine S_enter (fn := Try.f70) (c := kk0) 25 Try.func70 (by kernel_rfl) (by kernel_rfl) (Nat.le_of_ble_eq_true (by kernel_rfl)) ?_
  intro w0 Q hQ
  unfold pt at h
  refine S_sub [(0, .int .i64 x)] (sb (by kernel_rfl)) ?_
  refine S_seq kk1 kk2 (by kernel_rfl) ?_
  refine S_region 0 (Code.ops kk1) (by kernel_rfl) ?_
  refine N_new (some 2) (fun b => .pointer (some (Addr.mk b 0 none))) (.cells #[.bool false, .slice none 0 0] 70) (fun w => by kernel_rfl) ?_
  intro b H1 e1 e2
  replace h := h b H1 e1 e2
  refine ⟨[(0, .int .i64 x), (2, .pointer (some (Addr.mk b 0 none)))], ps (by kernel_rfl), ?_⟩
  refine N_end (by kernel_rfl) ?_
  refine S_then ?_
  refine S_seq kk3 kk4 (by kernel_rfl) ?_
  refine S_region 1 (Code.ops kk3) (by kernel_rfl) ?_
  refine N_run 3 [(0, .int .i64 x), (2, .pointer (some (Addr.mk b 0 none))), (3, .int .u64 (IntKind.wrap .u64 x))] (fun w => by kernel_rfl) ?_
  refine N_end (by kernel_rfl) ?_
  refine S_then ?_
  refine S_seq kk5 kk6 (by kernel_rfl) ?_
  refine S_seq kk7 kk8 (by kernel_rfl) ?_
  refine S_region 2 (Code.ops kk7) (by kernel_rfl) ?_
  refine N_run 2 [(0, .int .i64 x), (2, .pointer (some (Addr.mk b 0 none))), (3, .int .u64 (IntKind.wrap .u64 x)), (9, .bool (decide (x < 0)))] (fun w => by kernel_rfl) ?_
  refine N_end (by kernel_rfl) ?_
  refine S_then ?_
  by_cases c3 : x < 0
  · rw [if_pos c3] at h
    have b4 : (decide (x < 0)) = true := decide_eq_true c3
    refine S_env [(0, .int .i64 x), (2, .pointer (some (Addr.mk b 0 none))), (3, .int .u64 (IntKind.wrap .u64 x)), (9, .bool true)] (by simp only [b4, Bool.not_true, Bool.not_false]) ?_
    clear b4
    refine S_condT (.tmp 9) kk9 kk10 (by kernel_rfl) (by kernel_rfl) ?_
    refine S_region 3 (Code.ops kk9) (by kernel_rfl) ?_
    refine N_run 3 [(0, .int .i64 x), (2, .pointer (some (Addr.mk b 0 none))), (3, .int .u64 (IntKind.wrap .u64 (0 - (IntKind.wrap .u64 x))))] (fun w => by kernel_rfl) ?_
    refine N_end (by kernel_rfl) ?_
    refine S_then ?_
    refine S_seq kk11 kk12 (by kernel_rfl) ?_
    refine S_region 4 (Code.ops kk11) (by kernel_rfl) ?_
    refine N_run 7 [(2, .pointer (some (Addr.mk b 0 none))), (14, .bool (decide (x < 0))), (16, .int .u32 (IntKind.wrap .u32 (IntKind.wrap .u64 (0 - (IntKind.wrap .u64 x))))), (19, .int .u32 (IntKind.wrap .u32 (ishr .u64 (IntKind.wrap .u64 (0 - (IntKind.wrap .u64 x))) 32)))] (fun w => by kernel_rfl) ?_
    refine N_new (some 20) (fun b => .slice (some (Addr.mk b 0 none)) 2 2) (.cells #[.int .u32 (IntKind.wrap .u32 (IntKind.wrap .u64 (0 - (IntKind.wrap .u64 x)))), .int .u32 (IntKind.wrap .u32 (ishr .u64 (IntKind.wrap .u64 (0 - (IntKind.wrap .u64 x))) 32))] 41) (fun w => by kernel_rfl) ?_
    intro b_2 H2 e5 e6
    replace h := h b_2 H2 e5 e6
    refine ⟨[(2, .pointer (some (Addr.mk b 0 none))), (14, .bool (decide (x < 0))), (20, .slice (some (Addr.mk b_2 0 none)) 2 2)], ps (by kernel_rfl), ?_⟩
    refine N_call (some 21) 69 #[.bool (decide (x < 0)), .slice (some (Addr.mk b_2 0 none)) 2 2] (fun w => by kernel_rfl) h ?_; clear h
    rintro v H3 ⟨raNeg, raMagB, raMagN, raMagC, rb, rfl, h⟩
    refine ⟨[(2, .pointer (some (Addr.mk b 0 none))), (21, .tuple #[.agg #[.bool raNeg, .slice raMagB raMagN raMagC], .int .i64 rb])], ps (by kernel_rfl), ?_⟩
    refine N_run 3 [(2, .pointer (some (Addr.mk b 0 none))), (22, .agg #[.bool raNeg, .slice raMagB raMagN raMagC]), (23, .int .i64 rb)] (fun w => by kernel_rfl) ?_
    refine N_new (some 4) (fun b => .pointer (some (Addr.mk b 0 none))) (.cells #[.bool false, .slice none 0 0] 70) (fun w => by kernel_rfl) ?_
    intro b_3 H4 e7 e8
    replace h := h b_3 H4 e7 e8
    refine ⟨[(2, .pointer (some (Addr.mk b 0 none))), (4, .pointer (some (Addr.mk b_3 0 none))), (22, .agg #[.bool raNeg, .slice raMagB raMagN raMagC]), (23, .int .i64 rb)], ps (by kernel_rfl), ?_⟩
    obtain ⟨q10, h⟩ := h
    refine N_skipop none (storeN 70 (.pointer (some (Addr.mk b_3 0 none))) (.agg #[.bool raNeg, .slice raMagB raMagN raMagC])) (fun Hz => Hz = hputs H4 (Addr.mk b_3 0 none) [.bool raNeg, .slice raMagB raMagN raMagC] 0) (fun w => by kernel_rfl) (ss_store [.bool raNeg, .slice raMagB raMagN raMagC] 2 (by kernel_rfl) (by kernel_rfl) (fun w => by kernel_rfl) (by kernel_rfl) q10) ?_
    intro H5 e9
    replace h := h H5 e9
    refine ⟨[(2, .pointer (some (Addr.mk b 0 none))), (4, .pointer (some (Addr.mk b_3 0 none))), (23, .int .i64 rb)], ps (by kernel_rfl), ?_⟩
    refine N_run 1 [(2, .pointer (some (Addr.mk b 0 none))), (4, .pointer (some (Addr.mk b_3 0 none)))] (fun w => by kernel_rfl) ?_
    refine N_end (by kernel_rfl) ?_
    refine S_then ?_
    refine S_seq kk13 kk14 (by kernel_rfl) ?_
    refine S_region 5 (Code.ops kk13) (by kernel_rfl) ?_
    obtain ⟨xNeg, xMagB, xMagN, xMagC, q11, h⟩ := h
    refine N_val (some 24) (loadN 70 (.pointer (some (Addr.mk b_3 0 none)))) (.agg #[.bool xNeg, .slice xMagB xMagN xMagC]) (fun w => by kernel_rfl) (loadN_run (loadOK_row (fun w => by kernel_rfl) (fun w => by kernel_rfl) q11)) [(2, .pointer (some (Addr.mk b 0 none))), (24, .agg #[.bool xNeg, .slice xMagB xMagN xMagC])] (ps (by kernel_rfl)) ?_
    obtain ⟨q13, h⟩ := h
    refine N_skipop none (storeN 70 (.pointer (some (Addr.mk b 0 none))) (.agg #[.bool xNeg, .slice xMagB xMagN xMagC])) (fun Hz => Hz = hputs H5 (Addr.mk b 0 none) [.bool xNeg, .slice xMagB xMagN xMagC] 0) (fun w => by kernel_rfl) (ss_store [.bool xNeg, .slice xMagB xMagN xMagC] 2 (by kernel_rfl) (by kernel_rfl) (fun w => by kernel_rfl) (by kernel_rfl) q13) ?_
    intro H6 e12
    replace h := h H6 e12
    refine ⟨[(2, .pointer (some (Addr.mk b 0 none)))], ps (by kernel_rfl), ?_⟩
    refine N_end (by kernel_rfl) ?_
    refine S_then ?_
    refine S_ret (by kernel_rfl) ?_
    show At _ _ _ _ _ (Q .ret)
    obtain ⟨rNeg, rMagB, rMagN, rMagC, q14, h⟩ := h
    exact S_done (fn := Try.f70) [.agg #[.bool rNeg, .slice rMagB rMagN rMagC]] hQ (show ResOK _ _ _ [.cell 2 70] _ from .cell (by kernel_rfl) (loadOK_row (fun w => by kernel_rfl) (fun w => by kernel_rfl) q14) (.nil)) h
  · rw [if_neg c3] at h
    have b4 : (decide (x < 0)) = false := decide_eq_false c3
    refine S_env [(0, .int .i64 x), (2, .pointer (some (Addr.mk b 0 none))), (3, .int .u64 (IntKind.wrap .u64 x)), (9, .bool false)] (by simp only [b4, Bool.not_true, Bool.not_false]) ?_
    clear b4
    refine S_condF (.tmp 9) kk9 kk10 (by kernel_rfl) (by kernel_rfl) ?_
    refine S_skip (by kernel_rfl) ?_
    refine S_then ?_
    refine S_seq kk11 kk12 (by kernel_rfl) ?_
    refine S_region 4 (Code.ops kk11) (by kernel_rfl) ?_
    refine N_run 7 [(2, .pointer (some (Addr.mk b 0 none))), (14, .bool (decide (x < 0))), (16, .int .u32 (IntKind.wrap .u32 (IntKind.wrap .u64 x))), (19, .int .u32 (IntKind.wrap .u32 (ishr .u64 (IntKind.wrap .u64 x) 32)))] (fun w => by kernel_rfl) ?_
    refine N_new (some 20) (fun b => .slice (some (Addr.mk b 0 none)) 2 2) (.cells #[.int .u32 (IntKind.wrap .u32 (IntKind.wrap .u64 x)), .int .u32 (IntKind.wrap .u32 (ishr .u64 (IntKind.wrap .u64 x) 32))] 41) (fun w => by kernel_rfl) ?_
    intro b_4 H7 e15 e16
    replace h := h b_4 H7 e15 e16
    refine ⟨[(2, .pointer (some (Addr.mk b 0 none))), (14, .bool (decide (x < 0))), (20, .slice (some (Addr.mk b_4 0 none)) 2 2)], ps (by kernel_rfl), ?_⟩
    refine N_call (some 21) 69 #[.bool (decide (x < 0)), .slice (some (Addr.mk b_4 0 none)) 2 2] (fun w => by kernel_rfl) h ?_; clear h
    rintro v_2 H8 ⟨raNeg_2, raMagB_2, raMagN_2, raMagC_2, rb_2, rfl, h⟩
    refine ⟨[(2, .pointer (some (Addr.mk b 0 none))), (21, .tuple #[.agg #[.bool raNeg_2, .slice raMagB_2 raMagN_2 raMagC_2], .int .i64 rb_2])], ps (by kernel_rfl), ?_⟩
    refine N_run 3 [(2, .pointer (some (Addr.mk b 0 none))), (22, .agg #[.bool raNeg_2, .slice raMagB_2 raMagN_2 raMagC_2]), (23, .int .i64 rb_2)] (fun w => by kernel_rfl) ?_
    refine N_new (some 4) (fun b => .pointer (some (Addr.mk b 0 none))) (.cells #[.bool false, .slice none 0 0] 70) (fun w => by kernel_rfl) ?_
    intro b_5 H9 e17 e18
    replace h := h b_5 H9 e17 e18
    refine ⟨[(2, .pointer (some (Addr.mk b 0 none))), (4, .pointer (some (Addr.mk b_5 0 none))), (22, .agg #[.bool raNeg_2, .slice raMagB_2 raMagN_2 raMagC_2]), (23, .int .i64 rb_2)], ps (by kernel_rfl), ?_⟩
    obtain ⟨q20, h⟩ := h
    refine N_skipop none (storeN 70 (.pointer (some (Addr.mk b_5 0 none))) (.agg #[.bool raNeg_2, .slice raMagB_2 raMagN_2 raMagC_2])) (fun Hz => Hz = hputs H9 (Addr.mk b_5 0 none) [.bool raNeg_2, .slice raMagB_2 raMagN_2 raMagC_2] 0) (fun w => by kernel_rfl) (ss_store [.bool raNeg_2, .slice raMagB_2 raMagN_2 raMagC_2] 2 (by kernel_rfl) (by kernel_rfl) (fun w => by kernel_rfl) (by kernel_rfl) q20) ?_
    intro H10 e19
    replace h := h H10 e19
    refine ⟨[(2, .pointer (some (Addr.mk b 0 none))), (4, .pointer (some (Addr.mk b_5 0 none))), (23, .int .i64 rb_2)], ps (by kernel_rfl), ?_⟩
    refine N_run 1 [(2, .pointer (some (Addr.mk b 0 none))), (4, .pointer (some (Addr.mk b_5 0 none)))] (fun w => by kernel_rfl) ?_
    refine N_end (by kernel_rfl) ?_
    refine S_then ?_
    refine S_seq kk13 kk14 (by kernel_rfl) ?_
    refine S_region 5 (Code.ops kk13) (by kernel_rfl) ?_
    obtain ⟨xNeg_2, xMagB_2, xMagN_2, xMagC_2, q21, h⟩ := h
    refine N_val (some 24) (loadN 70 (.pointer (some (Addr.mk b_5 0 none)))) (.agg #[.bool xNeg_2, .slice xMagB_2 xMagN_2 xMagC_2]) (fun w => by kernel_rfl) (loadN_run (loadOK_row (fun w => by kernel_rfl) (fun w => by kernel_rfl) q21)) [(2, .pointer (some (Addr.mk b 0 none))), (24, .agg #[.bool xNeg_2, .slice xMagB_2 xMagN_2 xMagC_2])] (ps (by kernel_rfl)) ?_
    obtain ⟨q23, h⟩ := h
    refine N_skipop none (storeN 70 (.pointer (some (Addr.mk b 0 none))) (.agg #[.bool xNeg_2, .slice xMagB_2 xMagN_2 xMagC_2])) (fun Hz => Hz = hputs H10 (Addr.mk b 0 none) [.bool xNeg_2, .slice xMagB_2 xMagN_2 xMagC_2] 0) (fun w => by kernel_rfl) (ss_store [.bool xNeg_2, .slice xMagB_2 xMagN_2 xMagC_2] 2 (by kernel_rfl) (by kernel_rfl) (fun w => by kernel_rfl) (by kernel_rfl) q23) ?_
    intro H11 e22
    replace h := h H11 e22
    refine ⟨[(2, .pointer (some (Addr.mk b 0 none)))], ps (by kernel_rfl), ?_⟩
    refine N_end (by kernel_rfl) ?_
    refine S_then ?_
    refine S_ret (by kernel_rfl) ?_
    show At _ _ _ _ _ (Q .ret)
    obtain ⟨rNeg_2, rMagB_2, rMagN_2, rMagC_2, q24, h⟩ := h
    exact S_done (fn := Try.f70) [.agg #[.bool rNeg_2, .slice rMagB_2 rMagN_2 rMagC_2]] hQ (show ResOK _ _ _ [.cell 2 70] _ from .cell (by kernel_rfl) (loadOK_row (fun w => by kernel_rfl) (fun w => by kernel_rfl) q24) (.nil)) h
end num_Of

/-! moraine/num.May -/
namespace num_May
def kk0 := Func.code Try.f72
def kk1 := Code.fa kk0
def kk2 := Code.fb kk0
def kk3 := Code.fa kk2
def kk4 := Code.fb kk2
end num_May
def num_May.pt (nNeg : Bool) (nMagB : Option Addr) (nMagN : Nat) (nMagC : Nat) (H : Array Obj) (R : Value → Array Obj → Prop) : Prop :=
 ∀ (b : Nat) (H1 : Array Obj), b = H.size → H1 = H.push (.cells #[.bool nNeg, .slice nMagB nMagN nMagC] 70) →
 ∃ xB : Option Addr, ∃ xN : Nat, ∃ xC : Nat, hat H1 ((Addr.mk b 0 none).add 1) = some (.slice xB xN xC) ∧
 if (xN : Int) ≤ 48 then (
  ∃ xB_2 : Option Addr, ∃ xN_2 : Nat, ∃ xC_2 : Nat, hat H1 ((Addr.mk b 0 none).add 1) = some (.slice xB_2 xN_2 xC_2) ∧
  ∃ xB_3 : Option Addr, ∃ xN_3 : Nat, ∃ xC_3 : Nat, hat H1 ((Addr.mk b 0 none).add 1) = some (.slice xB_3 xN_3 xC_3) ∧
  ∃ x : Bool, hat H1 (Addr.mk b 0 none) = some (.bool x) ∧
  ∃ xB_4 : Option Addr, ∃ xN_4 : Nat, ∃ xC_4 : Nat, hat H1 ((Addr.mk b 0 none).add 1) = some (.slice xB_4 xN_4 xC_4) ∧
  num_trim.C xB_2 xN_2 xC_2 H1 (fun v H2 => ∃ xB_5 : Option Addr, ∃ xN_5 : Nat, ∃ xC_5 : Nat, v = .slice xB_5 xN_5 xC_5 ∧ RowAt H2 ((Addr.mk b 0 none).add 1) 0 [.slice xB_3 xN_3 xC_3] ∧ RowAt H2 (Addr.mk b 0 none) 0 [.bool x] ∧ RowAt H2 ((Addr.mk b 0 none).add 1) 0 [.slice xB_4 xN_4 xC_4] ∧ 
   if (xN_5 : Int) = (xN_3 : Int) then (
    if x = true then (
     R (.bool (decide ((xN_4 : Int) > 0))) H2)
    else
    R (.bool true) H2)
   else
   R (.bool false) H2))
 else
 R (.bool false) H1
namespace num_May
set_option maxRecDepth 100000 in
theorem link {nNeg : Bool} {nMagB : Option Addr} {nMagN : Nat} {nMagC : Nat} {H : Array Obj} {R : Value → Array Obj → Prop} (h : pt nNeg nMagB nMagN nMagC H R) : C nNeg nMagB nMagN nMagC H R := by
  refine S_enter (fn := Try.f72) (c := kk0) 28 Try.func72 (by kernel_rfl) (by kernel_rfl) (Nat.le_of_ble_eq_true (by kernel_rfl)) ?_
  intro w0 Q hQ
  unfold pt at h
  refine S_sub [(0, .agg #[.bool nNeg, .slice nMagB nMagN nMagC])] (sb (by kernel_rfl)) ?_
  refine S_seq kk1 kk2 (by kernel_rfl) ?_
  refine S_region 0 (Code.ops kk1) (by kernel_rfl) ?_
  refine N_new (some 1) (fun b => .pointer (some (Addr.mk b 0 none))) (.cells #[.bool nNeg, .slice nMagB nMagN nMagC] 70) (fun w => by kernel_rfl) ?_
  intro b H1 e1 e2
  replace h := h b H1 e1 e2
  refine ⟨[(1, .pointer (some (Addr.mk b 0 none)))], ps (by kernel_rfl), ?_⟩
  refine N_run 1 [(1, .pointer (some (Addr.mk b 0 none)))] (fun w => by kernel_rfl) ?_
  refine N_end (by kernel_rfl) ?_
  refine S_then ?_
  refine S_seq kk3 kk4 (by kernel_rfl) ?_
  obtain ⟨xB, xN, xC, q3, h⟩ := h
  by_cases c4 : (xN : Int) ≤ 48
  · rw [if_pos c4] at h
    have b5 : (decide ((xN : Int) ≤ 48)) = true := decide_eq_true c4
    obtain ⟨xB_2, xN_2, xC_2, q6, h⟩ := h
    obtain ⟨xB_3, xN_3, xC_3, q7, h⟩ := h
    obtain ⟨x, q8, h⟩ := h
    obtain ⟨xB_4, xN_4, xC_4, q9, h⟩ := h
    refine S_regionG 1 (Code.ops kk3) [(7, ((Addr.mk b 0 none).add 1), [.slice xB xN xC]), (7, ((Addr.mk b 0 none).add 1), [.slice xB_2 xN_2 xC_2]), (26, ((Addr.mk b 0 none).add 1), [.slice xB_3 xN_3 xC_3]), (26, (Addr.mk b 0 none), [.bool x]), (26, ((Addr.mk b 0 none).add 1), [.slice xB_4 xN_4 xC_4])] 26 #[false, false, false, false, false, false, false, false, false, false, false, false, false, false, false, false, false, false, false, false, false, false, false, false, false, false] (by kernel_rfl) (by kernel_rfl) (by kernel_rfl) (by kernel_rfl) (by kernel_rfl) (show FactsAt _ _ _ from ⟨⟨q3, trivial⟩, ⟨q6, trivial⟩, ⟨q7, trivial⟩, ⟨q8, trivial⟩, ⟨q9, trivial⟩, trivial⟩) ?_
    refine G_take 0 (some 3) (.pointer (some ((Addr.mk b 0 none).add 1))) #[true, false, false, false, false, false, false, false, false, false, false, false, false, false, false, false, false, false, false, false, false, false, false, false, false, false] [(1, .pointer (some (Addr.mk b 0 none))), (3, .pointer (some ((Addr.mk b 0 none).add 1)))] ((pure (.value (.pointer (some ((Addr.mk b 0 none).add 1)))) : Sem Next)) (fun w => by kernel_rfl) (fun _ _ _ _ _ => rfl) (by kernel_rfl) (by kernel_rfl) (by kernel_rfl) (by kernel_rfl) (by kernel_rfl) (by kernel_rfl) (ps (by kernel_rfl)) ?_
    refine G_take 1 (some 4) (.slice xB xN xC) #[true, true, false, false, false, false, false, false, false, false, false, false, false, false, false, false, false, false, false, false, false, false, false, false, false, false] [(1, .pointer (some (Addr.mk b 0 none))), (4, .slice xB xN xC)] (loadN 40 (.pointer (some ((Addr.mk b 0 none).add 1)))) (fun w => by kernel_rfl) (held_one 7 (fun w => by kernel_rfl) (List.Mem.head _) (.inl (by kernel_rfl))) (by kernel_rfl) (by kernel_rfl) (by kernel_rfl) (by kernel_rfl) (by kernel_rfl) (by kernel_rfl) (ps (by kernel_rfl)) ?_
    refine G_take 2 (some 5) (.int .i64 (xN : Int)) #[true, true, true, false, false, false, false, false, false, false, false, false, false, false, false, false, false, false, false, false, false, false, false, false, false, false] [(1, .pointer (some (Addr.mk b 0 none))), (5, .int .i64 (xN : Int))] ((pure (.value (.int .i64 (xN : Int))) : Sem Next)) (fun w => by kernel_rfl) (fun _ _ _ _ _ => rfl) (by kernel_rfl) (by kernel_rfl) (by kernel_rfl) (by kernel_rfl) (by kernel_rfl) (by kernel_rfl) (ps (by kernel_rfl)) ?_
    refine G_take 3 (some 6) (.bool (decide ((xN : Int) ≤ 48))) #[true, true, true, true, false, false, false, false, false, false, false, false, false, false, false, false, false, false, false, false, false, false, false, false, false, false] [(1, .pointer (some (Addr.mk b 0 none))), (6, .bool (decide ((xN : Int) ≤ 48)))] ((pure (.value (.bool (decide ((xN : Int) ≤ 48)))) : Sem Next)) (fun w => by kernel_rfl) (fun _ _ _ _ _ => rfl) (by kernel_rfl) (by kernel_rfl) (by kernel_rfl) (by kernel_rfl) (by kernel_rfl) (by kernel_rfl) (ps (by kernel_rfl)) ?_
    refine G_take 4 (some 7) (.bool (decide ((xN : Int) ≤ 48))) #[true, true, true, true, true, false, false, false, false, false, false, false, false, false, false, false, false, false, false, false, false, false, false, false, false, false] [(1, .pointer (some (Addr.mk b 0 none))), (7, .bool (decide ((xN : Int) ≤ 48)))] ((pure (.value (.bool (decide ((xN : Int) ≤ 48)))) : Sem Next)) (fun w => by kernel_rfl) (fun _ _ _ _ _ => rfl) (by kernel_rfl) (by kernel_rfl) (by kernel_rfl) (by kernel_rfl) (by kernel_rfl) (by kernel_rfl) (ps (by kernel_rfl)) ?_
    refine G_env [(1, .pointer (some (Addr.mk b 0 none))), (7, .bool true)] (by simp only [b5, Bool.not_true, Bool.not_false]) ?_
    refine G_take 5 (some 8) (.pointer (some ((Addr.mk b 0 none).add 1))) #[true, true, true, true, true, true, false, false, false, false, false, false, false, false, false, false, false, false, false, false, false, false, false, false, false, false] [(1, .pointer (some (Addr.mk b 0 none))), (7, .bool true), (8, .pointer (some ((Addr.mk b 0 none).add 1)))] ((pure (.value (.pointer (some ((Addr.mk b 0 none).add 1)))) : Sem Next)) (fun w => by kernel_rfl) (fun _ _ _ _ _ => rfl) (by kernel_rfl) (by kernel_rfl) (by kernel_rfl) (by kernel_rfl) (by kernel_rfl) (by kernel_rfl) (ps (by kernel_rfl)) ?_
    refine G_take 6 (some 9) (.slice xB_2 xN_2 xC_2) #[true, true, true, true, true, true, true, false, false, false, false, false, false, false, false, false, false, false, false, false, false, false, false, false, false, false] [(1, .pointer (some (Addr.mk b 0 none))), (7, .bool true), (9, .slice xB_2 xN_2 xC_2)] (loadN 40 (.pointer (some ((Addr.mk b 0 none).add 1)))) (fun w => by kernel_rfl) (held_one 7 (fun w => by kernel_rfl) (List.Mem.tail _ (List.Mem.head _)) (.inl (by kernel_rfl))) (by kernel_rfl) (by kernel_rfl) (by kernel_rfl) (by kernel_rfl) (by kernel_rfl) (by kernel_rfl) (ps (by kernel_rfl)) ?_
    refine G_take 9 (some 12) (.pointer (some ((Addr.mk b 0 none).add 1))) #[true, true, true, true, true, true, true, false, false, true, false, false, false, false, false, false, false, false, false, false, false, false, false, false, false, false] [(1, .pointer (some (Addr.mk b 0 none))), (7, .bool true), (9, .slice xB_2 xN_2 xC_2), (12, .pointer (some ((Addr.mk b 0 none).add 1)))] ((pure (.value (.pointer (some ((Addr.mk b 0 none).add 1)))) : Sem Next)) (fun w => by kernel_rfl) (fun _ _ _ _ _ => rfl) (by kernel_rfl) (by kernel_rfl) (by kernel_rfl) (by kernel_rfl) (by kernel_rfl) (by kernel_rfl) (ps (by kernel_rfl)) ?_
    refine G_take 10 (some 13) (.slice xB_3 xN_3 xC_3) #[true, true, true, true, true, true, true, false, false, true, true, false, false, false, false, false, false, false, false, false, false, false, false, false, false, false] [(1, .pointer (some (Addr.mk b 0 none))), (7, .bool true), (9, .slice xB_2 xN_2 xC_2), (13, .slice xB_3 xN_3 xC_3)] (loadN 40 (.pointer (some ((Addr.mk b 0 none).add 1)))) (fun w => by kernel_rfl) (held_one 26 (fun w => by kernel_rfl) (List.Mem.tail _ (List.Mem.tail _ (List.Mem.head _))) (.inr (by kernel_rfl))) (by kernel_rfl) (by kernel_rfl) (by kernel_rfl) (by kernel_rfl) (by kernel_rfl) (by kernel_rfl) (ps (by kernel_rfl)) ?_
    refine G_take 11 (some 14) (.int .i64 (xN_3 : Int)) #[true, true, true, true, true, true, true, false, false, true, true, true, false, false, false, false, false, false, false, false, false, false, false, false, false, false] [(1, .pointer (some (Addr.mk b 0 none))), (7, .bool true), (9, .slice xB_2 xN_2 xC_2), (14, .int .i64 (xN_3 : Int))] ((pure (.value (.int .i64 (xN_3 : Int))) : Sem Next)) (fun w => by kernel_rfl) (fun _ _ _ _ _ => rfl) (by kernel_rfl) (by kernel_rfl) (by kernel_rfl) (by kernel_rfl) (by kernel_rfl) (by kernel_rfl) (ps (by kernel_rfl)) ?_
    refine G_call 7 (some 10) #[true, true, true, true, true, true, true, true, false, true, true, true, false, false, false, false, false, false, false, false, false, false, false, false, false, false] 73 #[.slice xB_2 xN_2 xC_2] (by kernel_rfl) (fun w => by kernel_rfl) h (by kernel_rfl) ?_; clear h
    rintro v H2 ⟨xB_5, xN_5, xC_5, rfl, h⟩
    obtain ⟨f10, f11, f12, h⟩ := h
    refine ⟨[(1, .pointer (some (Addr.mk b 0 none))), (7, .bool true), (10, .slice xB_5 xN_5 xC_5), (14, .int .i64 (xN_3 : Int))], ps (by kernel_rfl), (show FactsAt _ _ _ from ⟨trivial, trivial, f10, f11, f12, trivial⟩), ?_⟩
    refine G_take 8 (some 11) (.int .i64 (xN_5 : Int)) #[true, true, true, true, true, true, true, true, true, true, true, true, false, false, false, false, false, false, false, false, false, false, false, false, false, false] [(1, .pointer (some (Addr.mk b 0 none))), (7, .bool true), (11, .int .i64 (xN_5 : Int)), (14, .int .i64 (xN_3 : Int))] (pure (.value (.int .i64 (xN_5 : Int))) : Sem Next) (fun w => by kernel_rfl) (fun _ _ _ _ _ => rfl) (by kernel_rfl) (by kernel_rfl) (by kernel_rfl) (by kernel_rfl) (by kernel_rfl) (by kernel_rfl) (ps (by kernel_rfl)) ?_
    refine G_take 12 (some 15) (.bool ((xN_5 : Int) == (xN_3 : Int))) #[true, true, true, true, true, true, true, true, true, true, true, true, true, false, false, false, false, false, false, false, false, false, false, false, false, false] [(1, .pointer (some (Addr.mk b 0 none))), (7, .bool true), (15, .bool ((xN_5 : Int) == (xN_3 : Int)))] (pure (.value (.bool ((xN_5 : Int) == (xN_3 : Int)))) : Sem Next) (fun w => by kernel_rfl) (fun _ _ _ _ _ => rfl) (by kernel_rfl) (by kernel_rfl) (by kernel_rfl) (by kernel_rfl) (by kernel_rfl) (by kernel_rfl) (ps (by kernel_rfl)) ?_
    refine G_take 13 (some 16) (.bool ((xN_5 : Int) == (xN_3 : Int))) #[true, true, true, true, true, true, true, true, true, true, true, true, true, true, false, false, false, false, false, false, false, false, false, false, false, false] [(1, .pointer (some (Addr.mk b 0 none))), (16, .bool ((xN_5 : Int) == (xN_3 : Int)))] (pure (.value (.bool ((xN_5 : Int) == (xN_3 : Int)))) : Sem Next) (fun w => by kernel_rfl) (fun _ _ _ _ _ => rfl) (by kernel_rfl) (by kernel_rfl) (by kernel_rfl) (by kernel_rfl) (by kernel_rfl) (by kernel_rfl) (ps (by kernel_rfl)) ?_
    refine G_take 14 (some 17) (.bool ((xN_5 : Int) == (xN_3 : Int))) #[true, true, true, true, true, true, true, true, true, true, true, true, true, true, true, false, false, false, false, false, false, false, false, false, false, false] [(1, .pointer (some (Addr.mk b 0 none))), (17, .bool ((xN_5 : Int) == (xN_3 : Int)))] (pure (.value (.bool ((xN_5 : Int) == (xN_3 : Int)))) : Sem Next) (fun w => by kernel_rfl) (fun _ _ _ _ _ => rfl) (by kernel_rfl) (by kernel_rfl) (by kernel_rfl) (by kernel_rfl) (by kernel_rfl) (by kernel_rfl) (ps (by kernel_rfl)) ?_
    by_cases c13 : (xN_5 : Int) = (xN_3 : Int)
    · rw [if_pos c13] at h
      have b14 : ((xN_5 : Int) == (xN_3 : Int)) = true := beq_iff_eq.mpr c13
      refine G_env [(1, .pointer (some (Addr.mk b 0 none))), (17, .bool true)] (by simp only [b14, Bool.not_true, Bool.not_false]) ?_
      clear b14
      refine G_take 15 (some 18) (.pointer (some (Addr.mk b 0 none))) #[true, true, true, true, true, true, true, true, true, true, true, true, true, true, true, true, false, false, false, false, false, false, false, false, false, false] [(1, .pointer (some (Addr.mk b 0 none))), (17, .bool true), (18, .pointer (some (Addr.mk b 0 none)))] (pure (.value (.pointer (some (Addr.mk b 0 none)))) : Sem Next) (fun w => by kernel_rfl) (fun _ _ _ _ _ => rfl) (by kernel_rfl) (by kernel_rfl) (by kernel_rfl) (by kernel_rfl) (by kernel_rfl) (by kernel_rfl) (ps (by kernel_rfl)) ?_
      refine G_take 16 (some 19) (.bool x) #[true, true, true, true, true, true, true, true, true, true, true, true, true, true, true, true, true, false, false, false, false, false, false, false, false, false] [(1, .pointer (some (Addr.mk b 0 none))), (17, .bool true), (19, .bool x)] (loadN 4 (.pointer (some (Addr.mk b 0 none)))) (fun w => by kernel_rfl) (held_one 26 (fun w => by kernel_rfl) (List.Mem.tail _ (List.Mem.tail _ (List.Mem.tail _ (List.Mem.head _)))) (.inr (by kernel_rfl))) (by kernel_rfl) (by kernel_rfl) (by kernel_rfl) (by kernel_rfl) (by kernel_rfl) (by kernel_rfl) (ps (by kernel_rfl)) ?_
      refine G_take 17 (some 20) (.bool (!x)) #[true, true, true, true, true, true, true, true, true, true, true, true, true, true, true, true, true, true, false, false, false, false, false, false, false, false] [(1, .pointer (some (Addr.mk b 0 none))), (17, .bool true), (20, .bool (!x))] (pure (.value (.bool (!x))) : Sem Next) (fun w => by kernel_rfl) (fun _ _ _ _ _ => rfl) (by kernel_rfl) (by kernel_rfl) (by kernel_rfl) (by kernel_rfl) (by kernel_rfl) (by kernel_rfl) (ps (by kernel_rfl)) ?_
      refine G_take 18 (some 21) (.bool (!x)) #[true, true, true, true, true, true, true, true, true, true, true, true, true, true, true, true, true, true, true, false, false, false, false, false, false, false] [(1, .pointer (some (Addr.mk b 0 none))), (17, .bool true), (21, .bool (!x))] (pure (.value (.bool (!x))) : Sem Next) (fun w => by kernel_rfl) (fun _ _ _ _ _ => rfl) (by kernel_rfl) (by kernel_rfl) (by kernel_rfl) (by kernel_rfl) (by kernel_rfl) (by kernel_rfl) (ps (by kernel_rfl)) ?_
      by_cases c15 : x = true
      · rw [if_pos c15] at h
        have b16 : (!x) = false := congrArg Bool.not (c15)
        have b162 : x = true := c15
        refine G_env [(1, .pointer (some (Addr.mk b 0 none))), (17, .bool true), (21, .bool false)] (by simp only [b16, b162, Bool.not_true, Bool.not_false]) ?_
        clear b16 b162
        refine G_take 19 (some 22) (.pointer (some ((Addr.mk b 0 none).add 1))) #[true, true, true, true, true, true, true, true, true, true, true, true, true, true, true, true, true, true, true, true, false, false, false, false, false, false] [(17, .bool true), (21, .bool false), (22, .pointer (some ((Addr.mk b 0 none).add 1)))] (pure (.value (.pointer (some ((Addr.mk b 0 none).add 1)))) : Sem Next) (fun w => by kernel_rfl) (fun _ _ _ _ _ => rfl) (by kernel_rfl) (by kernel_rfl) (by kernel_rfl) (by kernel_rfl) (by kernel_rfl) (by kernel_rfl) (ps (by kernel_rfl)) ?_
        refine G_take 20 (some 23) (.slice xB_4 xN_4 xC_4) #[true, true, true, true, true, true, true, true, true, true, true, true, true, true, true, true, true, true, true, true, true, false, false, false, false, false] [(17, .bool true), (21, .bool false), (23, .slice xB_4 xN_4 xC_4)] (loadN 40 (.pointer (some ((Addr.mk b 0 none).add 1)))) (fun w => by kernel_rfl) (held_one 26 (fun w => by kernel_rfl) (List.Mem.tail _ (List.Mem.tail _ (List.Mem.tail _ (List.Mem.tail _ (List.Mem.head _))))) (.inr (by kernel_rfl))) (by kernel_rfl) (by kernel_rfl) (by kernel_rfl) (by kernel_rfl) (by kernel_rfl) (by kernel_rfl) (ps (by kernel_rfl)) ?_
        refine G_take 21 (some 24) (.int .i64 (xN_4 : Int)) #[true, true, true, true, true, true, true, true, true, true, true, true, true, true, true, true, true, true, true, true, true, true, false, false, false, false] [(17, .bool true), (21, .bool false), (24, .int .i64 (xN_4 : Int))] (pure (.value (.int .i64 (xN_4 : Int))) : Sem Next) (fun w => by kernel_rfl) (fun _ _ _ _ _ => rfl) (by kernel_rfl) (by kernel_rfl) (by kernel_rfl) (by kernel_rfl) (by kernel_rfl) (by kernel_rfl) (ps (by kernel_rfl)) ?_
        refine G_take 22 (some 25) (.bool (decide ((xN_4 : Int) > 0))) #[true, true, true, true, true, true, true, true, true, true, true, true, true, true, true, true, true, true, true, true, true, true, true, false, false, false] [(17, .bool true), (21, .bool false), (25, .bool (decide ((xN_4 : Int) > 0)))] (pure (.value (.bool (decide ((xN_4 : Int) > 0)))) : Sem Next) (fun w => by kernel_rfl) (fun _ _ _ _ _ => rfl) (by kernel_rfl) (by kernel_rfl) (by kernel_rfl) (by kernel_rfl) (by kernel_rfl) (by kernel_rfl) (ps (by kernel_rfl)) ?_
        refine G_take 23 (some 26) (.bool (decide ((xN_4 : Int) > 0))) #[true, true, true, true, true, true, true, true, true, true, true, true, true, true, true, true, true, true, true, true, true, true, true, true, false, false] [(17, .bool true), (26, .bool (decide ((xN_4 : Int) > 0)))] (pure (.value (.bool (decide ((xN_4 : Int) > 0)))) : Sem Next) (fun w => by kernel_rfl) (fun _ _ _ _ _ => rfl) (by kernel_rfl) (by kernel_rfl) (by kernel_rfl) (by kernel_rfl) (by kernel_rfl) (by kernel_rfl) (ps (by kernel_rfl)) ?_
        refine G_take 24 (some 27) (.bool (decide ((xN_4 : Int) > 0))) #[true, true, true, true, true, true, true, true, true, true, true, true, true, true, true, true, true, true, true, true, true, true, true, true, true, false] [(27, .bool (decide ((xN_4 : Int) > 0)))] (pure (.value (.bool (decide ((xN_4 : Int) > 0)))) : Sem Next) (fun w => by kernel_rfl) (fun _ _ _ _ _ => rfl) (by kernel_rfl) (by kernel_rfl) (by kernel_rfl) (by kernel_rfl) (by kernel_rfl) (by kernel_rfl) (ps (by kernel_rfl)) ?_
        refine G_take 25 (some 2) (.bool (decide ((xN_4 : Int) > 0))) #[true, true, true, true, true, true, true, true, true, true, true, true, true, true, true, true, true, true, true, true, true, true, true, true, true, true] [(2, .bool (decide ((xN_4 : Int) > 0)))] (pure (.value (.bool (decide ((xN_4 : Int) > 0)))) : Sem Next) (fun w => by kernel_rfl) (fun _ _ _ _ _ => rfl) (by kernel_rfl) (by kernel_rfl) (by kernel_rfl) (by kernel_rfl) (by kernel_rfl) (by kernel_rfl) (ps (by kernel_rfl)) ?_
        refine G_sub [(2, .bool (decide ((xN_4 : Int) > 0)))] (sb (by kernel_rfl)) ?_
        refine G_end (by kernel_rfl) ?_
        refine S_then ?_
        refine S_ret (by kernel_rfl) ?_
        show At _ _ _ _ _ (Q .ret)
        exact S_done (fn := Try.f72) [.bool (decide ((xN_4 : Int) > 0))] hQ (show ResOK _ _ _ [.tmp 2] _ from .tmp (by kernel_rfl) (.nil)) h
      · rw [if_neg c15] at h
        have b16 : (!x) = true := congrArg Bool.not (eq_false_of_ne_true c15)
        have b162 : x = false := eq_false_of_ne_true c15
        refine G_env [(1, .pointer (some (Addr.mk b 0 none))), (17, .bool true), (21, .bool true)] (by simp only [b16, b162, Bool.not_true, Bool.not_false]) ?_
        clear b16 b162
        refine G_pass 19 (some 22) #[true, true, true, true, true, true, true, true, true, true, true, true, true, true, true, true, true, true, true, true, false, false, false, false, false, false] [(17, .bool true), (21, .bool true), (22, undef)] (by kernel_rfl) (by kernel_rfl) (by kernel_rfl) (by kernel_rfl) (by kernel_rfl) (by kernel_rfl) (by kernel_rfl) (ps (by kernel_rfl)) ?_
        refine G_pass 20 (some 23) #[true, true, true, true, true, true, true, true, true, true, true, true, true, true, true, true, true, true, true, true, true, false, false, false, false, false] [(17, .bool true), (21, .bool true), (23, undef)] (by kernel_rfl) (by kernel_rfl) (by kernel_rfl) (by kernel_rfl) (by kernel_rfl) (by kernel_rfl) (by kernel_rfl) (ps (by kernel_rfl)) ?_
        refine G_pass 21 (some 24) #[true, true, true, true, true, true, true, true, true, true, true, true, true, true, true, true, true, true, true, true, true, true, false, false, false, false] [(17, .bool true), (21, .bool true), (24, undef)] (by kernel_rfl) (by kernel_rfl) (by kernel_rfl) (by kernel_rfl) (by kernel_rfl) (by kernel_rfl) (by kernel_rfl) (ps (by kernel_rfl)) ?_
        refine G_pass 22 (some 25) #[true, true, true, true, true, true, true, true, true, true, true, true, true, true, true, true, true, true, true, true, true, true, true, false, false, false] [(17, .bool true), (21, .bool true), (25, undef)] (by kernel_rfl) (by kernel_rfl) (by kernel_rfl) (by kernel_rfl) (by kernel_rfl) (by kernel_rfl) (by kernel_rfl) (ps (by kernel_rfl)) ?_
        refine G_take 23 (some 26) (.bool true) #[true, true, true, true, true, true, true, true, true, true, true, true, true, true, true, true, true, true, true, true, true, true, true, true, false, false] [(17, .bool true), (26, .bool true)] (pure (.value (.bool true)) : Sem Next) (fun w => by kernel_rfl) (fun _ _ _ _ _ => rfl) (by kernel_rfl) (by kernel_rfl) (by kernel_rfl) (by kernel_rfl) (by kernel_rfl) (by kernel_rfl) (ps (by kernel_rfl)) ?_
        refine G_take 24 (some 27) (.bool true) #[true, true, true, true, true, true, true, true, true, true, true, true, true, true, true, true, true, true, true, true, true, true, true, true, true, false] [(27, .bool true)] (pure (.value (.bool true)) : Sem Next) (fun w => by kernel_rfl) (fun _ _ _ _ _ => rfl) (by kernel_rfl) (by kernel_rfl) (by kernel_rfl) (by kernel_rfl) (by kernel_rfl) (by kernel_rfl) (ps (by kernel_rfl)) ?_
        refine G_take 25 (some 2) (.bool true) #[true, true, true, true, true, true, true, true, true, true, true, true, true, true, true, true, true, true, true, true, true, true, true, true, true, true] [(2, .bool true)] (pure (.value (.bool true)) : Sem Next) (fun w => by kernel_rfl) (fun _ _ _ _ _ => rfl) (by kernel_rfl) (by kernel_rfl) (by kernel_rfl) (by kernel_rfl) (by kernel_rfl) (by kernel_rfl) (ps (by kernel_rfl)) ?_
        refine G_sub [(2, .bool true)] (sb (by kernel_rfl)) ?_
        refine G_end (by kernel_rfl) ?_
        refine S_then ?_
        refine S_ret (by kernel_rfl) ?_
        show At _ _ _ _ _ (Q .ret)
        exact S_done (fn := Try.f72) [.bool true] hQ (show ResOK _ _ _ [.tmp 2] _ from .tmp (by kernel_rfl) (.nil)) h
    · rw [if_neg c13] at h
      have b14 : ((xN_5 : Int) == (xN_3 : Int)) = false := beq_eq_false_iff_ne.mpr c13
      refine G_env [(1, .pointer (some (Addr.mk b 0 none))), (17, .bool false)] (by simp only [b14, Bool.not_true, Bool.not_false]) ?_
      clear b14
      refine G_pass 15 (some 18) #[true, true, true, true, true, true, true, true, true, true, true, true, true, true, true, true, false, false, false, false, false, false, false, false, false, false] [(1, .pointer (some (Addr.mk b 0 none))), (17, .bool false), (18, undef)] (by kernel_rfl) (by kernel_rfl) (by kernel_rfl) (by kernel_rfl) (by kernel_rfl) (by kernel_rfl) (by kernel_rfl) (ps (by kernel_rfl)) ?_
      refine G_pass 16 (some 19) #[true, true, true, true, true, true, true, true, true, true, true, true, true, true, true, true, true, false, false, false, false, false, false, false, false, false] [(1, .pointer (some (Addr.mk b 0 none))), (17, .bool false), (19, undef)] (by kernel_rfl) (by kernel_rfl) (by kernel_rfl) (by kernel_rfl) (by kernel_rfl) (by kernel_rfl) (by kernel_rfl) (ps (by kernel_rfl)) ?_
      refine G_pass 17 (some 20) #[true, true, true, true, true, true, true, true, true, true, true, true, true, true, true, true, true, true, false, false, false, false, false, false, false, false] [(1, .pointer (some (Addr.mk b 0 none))), (17, .bool false), (20, undef)] (by kernel_rfl) (by kernel_rfl) (by kernel_rfl) (by kernel_rfl) (by kernel_rfl) (by kernel_rfl) (by kernel_rfl) (ps (by kernel_rfl)) ?_
      refine G_pass 18 (some 21) #[true, true, true, true, true, true, true, true, true, true, true, true, true, true, true, true, true, true, true, false, false, false, false, false, false, false] [(1, .pointer (some (Addr.mk b 0 none))), (17, .bool false), (21, undef)] (by kernel_rfl) (by kernel_rfl) (by kernel_rfl) (by kernel_rfl) (by kernel_rfl) (by kernel_rfl) (by kernel_rfl) (ps (by kernel_rfl)) ?_
      refine G_pass 19 (some 22) #[true, true, true, true, true, true, true, true, true, true, true, true, true, true, true, true, true, true, true, true, false, false, false, false, false, false] [(17, .bool false), (21, undef), (22, undef)] (by kernel_rfl) (by kernel_rfl) (by kernel_rfl) (by kernel_rfl) (by kernel_rfl) (by kernel_rfl) (by kernel_rfl) (ps (by kernel_rfl)) ?_
      refine G_pass 20 (some 23) #[true, true, true, true, true, true, true, true, true, true, true, true, true, true, true, true, true, true, true, true, true, false, false, false, false, false] [(17, .bool false), (21, undef), (23, undef)] (by kernel_rfl) (by kernel_rfl) (by kernel_rfl) (by kernel_rfl) (by kernel_rfl) (by kernel_rfl) (by kernel_rfl) (ps (by kernel_rfl)) ?_
      refine G_pass 21 (some 24) #[true, true, true, true, true, true, true, true, true, true, true, true, true, true, true, true, true, true, true, true, true, true, false, false, false, false] [(17, .bool false), (21, undef), (24, undef)] (by kernel_rfl) (by kernel_rfl) (by kernel_rfl) (by kernel_rfl) (by kernel_rfl) (by kernel_rfl) (by kernel_rfl) (ps (by kernel_rfl)) ?_
      refine G_pass 22 (some 25) #[true, true, true, true, true, true, true, true, true, true, true, true, true, true, true, true, true, true, true, true, true, true, true, false, false, false] [(17, .bool false), (21, undef), (25, undef)] (by kernel_rfl) (by kernel_rfl) (by kernel_rfl) (by kernel_rfl) (by kernel_rfl) (by kernel_rfl) (by kernel_rfl) (ps (by kernel_rfl)) ?_
      refine G_pass 23 (some 26) #[true, true, true, true, true, true, true, true, true, true, true, true, true, true, true, true, true, true, true, true, true, true, true, true, false, false] [(17, .bool false), (26, undef)] (by kernel_rfl) (by kernel_rfl) (by kernel_rfl) (by kernel_rfl) (by kernel_rfl) (by kernel_rfl) (by kernel_rfl) (ps (by kernel_rfl)) ?_
      refine G_take 24 (some 27) (.bool false) #[true, true, true, true, true, true, true, true, true, true, true, true, true, true, true, true, true, true, true, true, true, true, true, true, true, false] [(27, .bool false)] (pure (.value (.bool false)) : Sem Next) (fun w => by kernel_rfl) (fun _ _ _ _ _ => rfl) (by kernel_rfl) (by kernel_rfl) (by kernel_rfl) (by kernel_rfl) (by kernel_rfl) (by kernel_rfl) (ps (by kernel_rfl)) ?_
      refine G_take 25 (some 2) (.bool false) #[true, true, true, true, true, true, true, true, true, true, true, true, true, true, true, true, true, true, true, true, true, true, true, true, true, true] [(2, .bool false)] (pure (.value (.bool false)) : Sem Next) (fun w => by kernel_rfl) (fun _ _ _ _ _ => rfl) (by kernel_rfl) (by kernel_rfl) (by kernel_rfl) (by kernel_rfl) (by kernel_rfl) (by kernel_rfl) (ps (by kernel_rfl)) ?_
      refine G_sub [(2, .bool false)] (sb (by kernel_rfl)) ?_
      refine G_end (by kernel_rfl) ?_
      refine S_then ?_
      refine S_ret (by kernel_rfl) ?_
      show At _ _ _ _ _ (Q .ret)
      exact S_done (fn := Try.f72) [.bool false] hQ (show ResOK _ _ _ [.tmp 2] _ from .tmp (by kernel_rfl) (.nil)) h
  · rw [if_neg c4] at h
    have b5 : (decide ((xN : Int) ≤ 48)) = false := decide_eq_false c4
    refine S_regionG 1 (Code.ops kk3) [(26, ((Addr.mk b 0 none).add 1), [.slice xB xN xC])] 26 #[false, false, false, false, false, false, false, false, false, false, false, false, false, false, false, false, false, false, false, false, false, false, false, false, false, false] (by kernel_rfl) (by kernel_rfl) (by kernel_rfl) (by kernel_rfl) (by kernel_rfl) (show FactsAt _ _ _ from ⟨⟨q3, trivial⟩, trivial⟩) ?_
    refine G_take 0 (some 3) (.pointer (some ((Addr.mk b 0 none).add 1))) #[true, false, false, false, false, false, false, false, false, false, false, false, false, false, false, false, false, false, false, false, false, false, false, false, false, false] [(1, .pointer (some (Addr.mk b 0 none))), (3, .pointer (some ((Addr.mk b 0 none).add 1)))] ((pure (.value (.pointer (some ((Addr.mk b 0 none).add 1)))) : Sem Next)) (fun w => by kernel_rfl) (fun _ _ _ _ _ => rfl) (by kernel_rfl) (by kernel_rfl) (by kernel_rfl) (by kernel_rfl) (by kernel_rfl) (by kernel_rfl) (ps (by kernel_rfl)) ?_
    refine G_take 1 (some 4) (.slice xB xN xC) #[true, true, false, false, false, false, false, false, false, false, false, false, false, false, false, false, false, false, false, false, false, false, false, false, false, false] [(1, .pointer (some (Addr.mk b 0 none))), (4, .slice xB xN xC)] (loadN 40 (.pointer (some ((Addr.mk b 0 none).add 1)))) (fun w => by kernel_rfl) (held_one 26 (fun w => by kernel_rfl) (List.Mem.head _) (.inr (by kernel_rfl))) (by kernel_rfl) (by kernel_rfl) (by kernel_rfl) (by kernel_rfl) (by kernel_rfl) (by kernel_rfl) (ps (by kernel_rfl)) ?_
    refine G_take 2 (some 5) (.int .i64 (xN : Int)) #[true, true, true, false, false, false, false, false, false, false, false, false, false, false, false, false, false, false, false, false, false, false, false, false, false, false] [(1, .pointer (some (Addr.mk b 0 none))), (5, .int .i64 (xN : Int))] ((pure (.value (.int .i64 (xN : Int))) : Sem Next)) (fun w => by kernel_rfl) (fun _ _ _ _ _ => rfl) (by kernel_rfl) (by kernel_rfl) (by kernel_rfl) (by kernel_rfl) (by kernel_rfl) (by kernel_rfl) (ps (by kernel_rfl)) ?_
    refine G_take 3 (some 6) (.bool (decide ((xN : Int) ≤ 48))) #[true, true, true, true, false, false, false, false, false, false, false, false, false, false, false, false, false, false, false, false, false, false, false, false, false, false] [(1, .pointer (some (Addr.mk b 0 none))), (6, .bool (decide ((xN : Int) ≤ 48)))] ((pure (.value (.bool (decide ((xN : Int) ≤ 48)))) : Sem Next)) (fun w => by kernel_rfl) (fun _ _ _ _ _ => rfl) (by kernel_rfl) (by kernel_rfl) (by kernel_rfl) (by kernel_rfl) (by kernel_rfl) (by kernel_rfl) (ps (by kernel_rfl)) ?_
    refine G_take 4 (some 7) (.bool (decide ((xN : Int) ≤ 48))) #[true, true, true, true, true, false, false, false, false, false, false, false, false, false, false, false, false, false, false, false, false, false, false, false, false, false] [(1, .pointer (some (Addr.mk b 0 none))), (7, .bool (decide ((xN : Int) ≤ 48)))] ((pure (.value (.bool (decide ((xN : Int) ≤ 48)))) : Sem Next)) (fun w => by kernel_rfl) (fun _ _ _ _ _ => rfl) (by kernel_rfl) (by kernel_rfl) (by kernel_rfl) (by kernel_rfl) (by kernel_rfl) (by kernel_rfl) (ps (by kernel_rfl)) ?_
    refine G_env [(1, .pointer (some (Addr.mk b 0 none))), (7, .bool false)] (by simp only [b5, Bool.not_true, Bool.not_false]) ?_
    refine G_pass 5 (some 8) #[true, true, true, true, true, true, false, false, false, false, false, false, false, false, false, false, false, false, false, false, false, false, false, false, false, false] [(1, .pointer (some (Addr.mk b 0 none))), (7, .bool false), (8, undef)] (by kernel_rfl) (by kernel_rfl) (by kernel_rfl) (by kernel_rfl) (by kernel_rfl) (by kernel_rfl) (by kernel_rfl) (ps (by kernel_rfl)) ?_
    refine G_pass 6 (some 9) #[true, true, true, true, true, true, true, false, false, false, false, false, false, false, false, false, false, false, false, false, false, false, false, false, false, false] [(1, .pointer (some (Addr.mk b 0 none))), (7, .bool false), (9, undef)] (by kernel_rfl) (by kernel_rfl) (by kernel_rfl) (by kernel_rfl) (by kernel_rfl) (by kernel_rfl) (by kernel_rfl) (ps (by kernel_rfl)) ?_
    refine G_pass 7 (some 10) #[true, true, true, true, true, true, true, true, false, false, false, false, false, false, false, false, false, false, false, false, false, false, false, false, false, false] [(1, .pointer (some (Addr.mk b 0 none))), (7, .bool false), (10, undef)] (by kernel_rfl) (by kernel_rfl) (by kernel_rfl) (by kernel_rfl) (by kernel_rfl) (by kernel_rfl) (by kernel_rfl) (ps (by kernel_rfl)) ?_
    refine G_pass 8 (some 11) #[true, true, true, true, true, true, true, true, true, false, false, false, false, false, false, false, false, false, false, false, false, false, false, false, false, false] [(1, .pointer (some (Addr.mk b 0 none))), (7, .bool false), (11, undef)] (by kernel_rfl) (by kernel_rfl) (by kernel_rfl) (by kernel_rfl) (by kernel_rfl) (by kernel_rfl) (by kernel_rfl) (ps (by kernel_rfl)) ?_
    refine G_pass 9 (some 12) #[true, true, true, true, true, true, true, true, true, true, false, false, false, false, false, false, false, false, false, false, false, false, false, false, false, false] [(1, .pointer (some (Addr.mk b 0 none))), (7, .bool false), (11, undef), (12, undef)] (by kernel_rfl) (by kernel_rfl) (by kernel_rfl) (by kernel_rfl) (by kernel_rfl) (by kernel_rfl) (by kernel_rfl) (ps (by kernel_rfl)) ?_
    refine G_pass 10 (some 13) #[true, true, true, true, true, true, true, true, true, true, true, false, false, false, false, false, false, false, false, false, false, false, false, false, false, false] [(1, .pointer (some (Addr.mk b 0 none))), (7, .bool false), (11, undef), (13, undef)] (by kernel_rfl) (by kernel_rfl) (by kernel_rfl) (by kernel_rfl) (by kernel_rfl) (by kernel_rfl) (by kernel_rfl) (ps (by kernel_rfl)) ?_
    refine G_pass 11 (some 14) #[true, true, true, true, true, true, true, true, true, true, true, true, false, false, false, false, false, false, false, false, false, false, false, false, false, false] [(1, .pointer (some (Addr.mk b 0 none))), (7, .bool false), (11, undef), (14, undef)] (by kernel_rfl) (by kernel_rfl) (by kernel_rfl) (by kernel_rfl) (by kernel_rfl) (by kernel_rfl) (by kernel_rfl) (ps (by kernel_rfl)) ?_
    refine G_pass 12 (some 15) #[true, true, true, true, true, true, true, true, true, true, true, true, true, false, false, false, false, false, false, false, false, false, false, false, false, false] [(1, .pointer (some (Addr.mk b 0 none))), (7, .bool false), (15, undef)] (by kernel_rfl) (by kernel_rfl) (by kernel_rfl) (by kernel_rfl) (by kernel_rfl) (by kernel_rfl) (by kernel_rfl) (ps (by kernel_rfl)) ?_
    refine G_take 13 (some 16) (.bool false) #[true, true, true, true, true, true, true, true, true, true, true, true, true, true, false, false, false, false, false, false, false, false, false, false, false, false] [(1, .pointer (some (Addr.mk b 0 none))), (16, .bool false)] ((pure (.value (.bool false)) : Sem Next)) (fun w => by kernel_rfl) (fun _ _ _ _ _ => rfl) (by kernel_rfl) (by kernel_rfl) (by kernel_rfl) (by kernel_rfl) (by kernel_rfl) (by kernel_rfl) (ps (by kernel_rfl)) ?_
    refine G_take 14 (some 17) (.bool false) #[true, true, true, true, true, true, true, true, true, true, true, true, true, true, true, false, false, false, false, false, false, false, false, false, false, false] [(1, .pointer (some (Addr.mk b 0 none))), (17, .bool false)] ((pure (.value (.bool false)) : Sem Next)) (fun w => by kernel_rfl) (fun _ _ _ _ _ => rfl) (by kernel_rfl) (by kernel_rfl) (by kernel_rfl) (by kernel_rfl) (by kernel_rfl) (by kernel_rfl) (ps (by kernel_rfl)) ?_
    refine G_pass 15 (some 18) #[true, true, true, true, true, true, true, true, true, true, true, true, true, true, true, true, false, false, false, false, false, false, false, false, false, false] [(1, .pointer (some (Addr.mk b 0 none))), (17, .bool false), (18, undef)] (by kernel_rfl) (by kernel_rfl) (by kernel_rfl) (by kernel_rfl) (by kernel_rfl) (by kernel_rfl) (by kernel_rfl) (ps (by kernel_rfl)) ?_
    refine G_pass 16 (some 19) #[true, true, true, true, true, true, true, true, true, true, true, true, true, true, true, true, true, false, false, false, false, false, false, false, false, false] [(1, .pointer (some (Addr.mk b 0 none))), (17, .bool false), (19, undef)] (by kernel_rfl) (by kernel_rfl) (by kernel_rfl) (by kernel_rfl) (by kernel_rfl) (by kernel_rfl) (by kernel_rfl) (ps (by kernel_rfl)) ?_
    refine G_pass 17 (some 20) #[true, true, true, true, true, true, true, true, true, true, true, true, true, true, true, true, true, true, false, false, false, false, false, false, false, false] [(1, .pointer (some (Addr.mk b 0 none))), (17, .bool false), (20, undef)] (by kernel_rfl) (by kernel_rfl) (by kernel_rfl) (by kernel_rfl) (by kernel_rfl) (by kernel_rfl) (by kernel_rfl) (ps (by kernel_rfl)) ?_
    refine G_pass 18 (some 21) #[true, true, true, true, true, true, true, true, true, true, true, true, true, true, true, true, true, true, true, false, false, false, false, false, false, false] [(1, .pointer (some (Addr.mk b 0 none))), (17, .bool false), (21, undef)] (by kernel_rfl) (by kernel_rfl) (by kernel_rfl) (by kernel_rfl) (by kernel_rfl) (by kernel_rfl) (by kernel_rfl) (ps (by kernel_rfl)) ?_
    refine G_pass 19 (some 22) #[true, true, true, true, true, true, true, true, true, true, true, true, true, true, true, true, true, true, true, true, false, false, false, false, false, false] [(17, .bool false), (21, undef), (22, undef)] (by kernel_rfl) (by kernel_rfl) (by kernel_rfl) (by kernel_rfl) (by kernel_rfl) (by kernel_rfl) (by kernel_rfl) (ps (by kernel_rfl)) ?_
    refine G_pass 20 (some 23) #[true, true, true, true, true, true, true, true, true, true, true, true, true, true, true, true, true, true, true, true, true, false, false, false, false, false] [(17, .bool false), (21, undef), (23, undef)] (by kernel_rfl) (by kernel_rfl) (by kernel_rfl) (by kernel_rfl) (by kernel_rfl) (by kernel_rfl) (by kernel_rfl) (ps (by kernel_rfl)) ?_
    refine G_pass 21 (some 24) #[true, true, true, true, true, true, true, true, true, true, true, true, true, true, true, true, true, true, true, true, true, true, false, false, false, false] [(17, .bool false), (21, undef), (24, undef)] (by kernel_rfl) (by kernel_rfl) (by kernel_rfl) (by kernel_rfl) (by kernel_rfl) (by kernel_rfl) (by kernel_rfl) (ps (by kernel_rfl)) ?_
    refine G_pass 22 (some 25) #[true, true, true, true, true, true, true, true, true, true, true, true, true, true, true, true, true, true, true, true, true, true, true, false, false, false] [(17, .bool false), (21, undef), (25, undef)] (by kernel_rfl) (by kernel_rfl) (by kernel_rfl) (by kernel_rfl) (by kernel_rfl) (by kernel_rfl) (by kernel_rfl) (ps (by kernel_rfl)) ?_
    refine G_pass 23 (some 26) #[true, true, true, true, true, true, true, true, true, true, true, true, true, true, true, true, true, true, true, true, true, true, true, true, false, false] [(17, .bool false), (26, undef)] (by kernel_rfl) (by kernel_rfl) (by kernel_rfl) (by kernel_rfl) (by kernel_rfl) (by kernel_rfl) (by kernel_rfl) (ps (by kernel_rfl)) ?_
    refine G_take 24 (some 27) (.bool false) #[true, true, true, true, true, true, true, true, true, true, true, true, true, true, true, true, true, true, true, true, true, true, true, true, true, false] [(27, .bool false)] ((pure (.value (.bool false)) : Sem Next)) (fun w => by kernel_rfl) (fun _ _ _ _ _ => rfl) (by kernel_rfl) (by kernel_rfl) (by kernel_rfl) (by kernel_rfl) (by kernel_rfl) (by kernel_rfl) (ps (by kernel_rfl)) ?_
    refine G_take 25 (some 2) (.bool false) #[true, true, true, true, true, true, true, true, true, true, true, true, true, true, true, true, true, true, true, true, true, true, true, true, true, true] [(2, .bool false)] ((pure (.value (.bool false)) : Sem Next)) (fun w => by kernel_rfl) (fun _ _ _ _ _ => rfl) (by kernel_rfl) (by kernel_rfl) (by kernel_rfl) (by kernel_rfl) (by kernel_rfl) (by kernel_rfl) (ps (by kernel_rfl)) ?_
    refine G_sub [(2, .bool false)] (sb (by kernel_rfl)) ?_
    refine G_end (by kernel_rfl) ?_
    refine S_then ?_
    refine S_ret (by kernel_rfl) ?_
    show At _ _ _ _ _ (Q .ret)
    exact S_done (fn := Try.f72) [.bool false] hQ (show ResOK _ _ _ [.tmp 2] _ from .tmp (by kernel_rfl) (.nil)) h
end num_May

/-! moraine/num.trim -/
namespace num_trim
def kk0 := Func.code Try.f73
def kk1 := Code.fa kk0
def kk2 := Code.fb kk0
def kk3 := Code.fa kk2
def kk4 := Code.fb kk2
def kk5 := Code.fa kk4
def kk6 := Code.fb kk4
def kk7 := Code.fa kk5
def kk8 := Code.fa kk7
def kk9 := Code.fa kk8
def kk10 := Code.fb kk8
def kk11 := Code.fa kk9
def kk12 := Code.fb kk9
def kk13 := Code.fa kk12
def kk14 := Code.fb kk12
def kk15 := Code.fa kk10
def kk16 := Code.fa kk6
def kk17 := Code.fb kk6
end num_trim
def num_trim.pt (mB : Option Addr) (mN : Nat) (mC : Nat) (H : Array Obj) (R : Value → Array Obj → Prop) : Prop :=
 ∃ (I9 : Int → Array Obj → Prop) (m9 : Int → Array Obj → Nat), I9 (mN : Int) H ∧ ∀ (nv : Int) (H1 : Array Obj), I9 nv H1 →
 if nv > 0 then (
  ∃ mBA : Addr, mB = some mBA ∧
  ((0 : Int) ≤ (IntKind.wrap .i64 (nv - 1)) ∧ (IntKind.wrap .i64 (nv - 1)) < (mN : Int)) ∧
  ∃ x : Int, hat H1 (mBA.add (Int.toNat (IntKind.wrap .i64 (nv - 1)) * 1)) = some (.int .u32 x) ∧
  if x = 0 then (
   (I9 (IntKind.wrap .i64 (nv - 1)) H1 ∧ m9 (IntKind.wrap .i64 (nv - 1)) H1 < m9 nv H1))
  else
  ∃ (lo hi : Nat), lo = 0 ∧ nv = (hi : Int) ∧ lo ≤ hi ∧ hi ≤ mC ∧
  ∀ sl : Option Addr, sl = (if mC = lo then (some mBA) else Option.map (fun a : Addr => a.add (lo * 1)) (some mBA)) →
  R (.slice sl (hi - lo) (mC - lo)) H1)
 else
 ∃ (lo_2 hi_2 : Nat), lo_2 = 0 ∧ nv = (hi_2 : Int) ∧ lo_2 ≤ hi_2 ∧ hi_2 ≤ mC ∧
 ∀ sl_2 : Option Addr, sl_2 = (if mC = lo_2 then mB else Option.map (fun a : Addr => a.add (lo_2 * 1)) mB) →
 R (.slice sl_2 (hi_2 - lo_2) (mC - lo_2)) H1
namespace num_trim
set_option maxRecDepth 100000 in
theorem link {mB : Option Addr} {mN : Nat} {mC : Nat} {H : Array Obj} {R : Value → Array Obj → Prop} (h : pt mB mN mC H R) : C mB mN mC H R := by
  refine S_enter (fn := Try.f73) (c := kk0) 21 Try.func73 (by kernel_rfl) (by kernel_rfl) (Nat.le_of_ble_eq_true (by kernel_rfl)) ?_
  intro w0 Q hQ
  unfold pt at h
  refine S_sub [(0, .slice mB mN mC)] (sb (by kernel_rfl)) ?_
  refine S_seq kk1 kk2 (by kernel_rfl) ?_
  refine S_region 0 (Code.ops kk1) (by kernel_rfl) ?_
  refine N_run 1 [(0, .slice mB mN mC)] (fun w => by kernel_rfl) ?_
  refine N_end (by kernel_rfl) ?_
  refine S_then ?_
  refine S_seq kk3 kk4 (by kernel_rfl) ?_
  refine S_region 1 (Code.ops kk3) (by kernel_rfl) ?_
  refine N_run 3 [(0, .slice mB mN mC), (3, .int .i64 (mN : Int))] (fun w => by kernel_rfl) ?_
  refine N_end (by kernel_rfl) ?_
  refine S_then ?_
  refine S_seq kk5 kk6 (by kernel_rfl) ?_
  refine S_block 0 kk7 (by kernel_rfl) ?_
  obtain ⟨I9, m9, i1, i2⟩ := h
  refine S_loop (x := kk8) (σ := Int) (fun s_ => [(0, .slice mB mN mC), (3, .int .i64 s_)]) (fun s_ H => I9 s_ H) (fun s_ H => m9 s_ H) ((mN : Int) : Int) (by kernel_rfl) i1 (sb (by kernel_rfl)) ?_
  rintro nv H1 i3
  have h := i2 nv H1 i3
  refine S_sub [(0, .slice mB mN mC), (3, .int .i64 nv)] (sb (by kernel_rfl)) ?_
  refine S_seq kk9 kk10 (by kernel_rfl) ?_
  refine S_seq kk11 kk12 (by kernel_rfl) ?_
  refine S_region 2 (Code.ops kk11) (by kernel_rfl) ?_
  refine N_run 3 [(0, .slice mB mN mC), (3, .int .i64 nv), (8, .bool (decide (nv > 0)))] (fun w => by kernel_rfl) ?_
  by_cases c4 : nv > 0
  · rw [if_pos c4] at h
    have b5 : (decide (nv > 0)) = true := decide_eq_true c4
    refine N_env [(0, .slice mB mN mC), (3, .int .i64 nv), (8, .bool true)] (by simp only [b5, Bool.not_true, Bool.not_false]) ?_
    clear b5
    refine N_run 3 [(0, .slice mB mN mC), (3, .int .i64 nv), (8, .bool true), (9, .slice mB mN mC), (11, .int .i64 (IntKind.wrap .i64 (nv - 1)))] (fun w => by kernel_rfl) ?_
    obtain ⟨mBA, rfl, h⟩ := h
    obtain ⟨q6, h⟩ := h
    refine N_val (some 12) (indexAtN 40 (.slice (some mBA) mN mC) (.int .i64 (IntKind.wrap .i64 (nv - 1)))) (.pointer (some (mBA.add (Int.toNat (IntKind.wrap .i64 (nv - 1)) * 1)))) (fun w => by kernel_rfl) (fun w _ => indexAt_run (P := Try.prog) (t := 40) (elem := 41) (sz := 1) (a := mBA) (len := mN) (cap := mC) (k := .i64) (i := (IntKind.wrap .i64 (nv - 1))) Try.underlying40 (fun w => by kernel_rfl) q6.1 q6.2 w) [(0, .slice (some mBA) mN mC), (3, .int .i64 nv), (8, .bool true), (12, .pointer (some (mBA.add (Int.toNat (IntKind.wrap .i64 (nv - 1)) * 1))))] (ps (by kernel_rfl)) ?_
    obtain ⟨x, q7, h⟩ := h
    refine N_val (some 13) (loadN 41 (.pointer (some (mBA.add (Int.toNat (IntKind.wrap .i64 (nv - 1)) * 1))))) (.int .u32 x) (fun w => by kernel_rfl) (loadN_run (loadOK_one (fun w => by kernel_rfl) q7)) [(0, .slice (some mBA) mN mC), (3, .int .i64 nv), (8, .bool true), (13, .int .u32 x)] (ps (by kernel_rfl)) ?_
    refine N_run 2 [(0, .slice (some mBA) mN mC), (3, .int .i64 nv), (15, .bool (x == 0))] (fun w => by kernel_rfl) ?_
    refine N_end (by kernel_rfl) ?_
    refine S_then ?_
    by_cases c8 : x = 0
    · rw [if_pos c8] at h
      have b9 : (x == 0) = true := beq_iff_eq.mpr c8
      refine S_env [(0, .slice (some mBA) mN mC), (3, .int .i64 nv), (15, .bool true)] (by simp only [b9, Bool.not_true, Bool.not_false]) ?_
      clear b9
      refine S_condT (.tmp 15) kk13 kk14 (by kernel_rfl) (by kernel_rfl) ?_
      refine S_skip (by kernel_rfl) ?_
      refine S_then ?_
      refine S_block 1 kk15 (by kernel_rfl) ?_
      refine S_region 3 (Code.ops kk15) (by kernel_rfl) ?_
      refine N_run 3 [(0, .slice (some mBA) mN mC), (3, .int .i64 (IntKind.wrap .i64 (nv - 1)))] (fun w => by kernel_rfl) ?_
      refine N_end (by kernel_rfl) ?_
      refine S_blockEnd ?_
      refine S_then ?_
      exact S_round ((IntKind.wrap .i64 (nv - 1)) : Int) (sb (by kernel_rfl)) h
    · rw [if_neg c8] at h
      have b9 : (x == 0) = false := beq_eq_false_iff_ne.mpr c8
      refine S_env [(0, .slice (some mBA) mN mC), (3, .int .i64 nv), (15, .bool false)] (by simp only [b9, Bool.not_true, Bool.not_false]) ?_
      clear b9
      refine S_condF (.tmp 15) kk13 kk14 (by kernel_rfl) (by kernel_rfl) ?_
      refine S_exit 0 (by kernel_rfl) ?_
      refine S_exitThen ?_
      refine S_exitThen ?_
      refine S_exitHere ?_
      refine S_then ?_
      refine S_seq kk16 kk17 (by kernel_rfl) ?_
      refine S_region 4 (Code.ops kk16) (by kernel_rfl) ?_
      refine N_run 2 [(18, .slice (some mBA) mN mC), (19, .int .i64 nv)] (fun w => by kernel_rfl) ?_
      obtain ⟨lo, hi, q10, q11, q12, q13, h⟩ := h
      obtain ⟨sl, e14⟩ : ∃ B, B = (if mC = lo then (some mBA) else Option.map (fun a : Addr => a.add (lo * 1)) (some mBA)) := ⟨_, rfl⟩
      replace h := h sl e14
      refine N_val (some 20) (sliceN 40 (.slice (some mBA) mN mC) none (some (.int .i64 nv)) none) (.slice sl (hi - lo) (mC - lo)) (fun w => by kernel_rfl) (fun w _ => (slice_run (P := Try.prog) (t := 40) (elem := 41) (sz := 1) (a := (some mBA)) (len := mN) (cap := mC) none (some (.int .i64 nv)) lo hi Try.underlying40 (fun w => by kernel_rfl) (.inl ⟨rfl, q10⟩) (.inr ⟨.i64, by rw [q11]⟩) q12 q13 w).trans (by rw [e14]; try rfl)) [(20, .slice sl (hi - lo) (mC - lo))] (ps (by kernel_rfl)) ?_
      refine N_run 1 [(2, .slice sl (hi - lo) (mC - lo))] (fun w => by kernel_rfl) ?_
      refine N_end (by kernel_rfl) ?_
      refine S_then ?_
      refine S_ret (by kernel_rfl) ?_
      show At _ _ _ _ _ (Q .ret)
      exact S_done (fn := Try.f73) [.slice sl (hi - lo) (mC - lo)] hQ (show ResOK _ _ _ [.tmp 2] _ from .tmp (by kernel_rfl) (.nil)) h
  · rw [if_neg c4] at h
    have b5 : (decide (nv > 0)) = false := decide_eq_false c4
    refine N_env [(0, .slice mB mN mC), (3, .int .i64 nv), (8, .bool false)] (by simp only [b5, Bool.not_true, Bool.not_false]) ?_
    clear b5
    refine N_run 7 [(0, .slice mB mN mC), (3, .int .i64 nv), (15, .bool false)] (fun w => by kernel_rfl) ?_
    refine N_end (by kernel_rfl) ?_
    refine S_then ?_
    refine S_condF (.tmp 15) kk13 kk14 (by kernel_rfl) (by kernel_rfl) ?_
    refine S_exit 0 (by kernel_rfl) ?_
    refine S_exitThen ?_
    refine S_exitThen ?_
    refine S_exitHere ?_
    refine S_then ?_
    refine S_seq kk16 kk17 (by kernel_rfl) ?_
    refine S_region 4 (Code.ops kk16) (by kernel_rfl) ?_
    refine N_run 2 [(18, .slice mB mN mC), (19, .int .i64 nv)] (fun w => by kernel_rfl) ?_
    obtain ⟨lo_2, hi_2, q15, q16, q17, q18, h⟩ := h
    obtain ⟨sl_2, e19⟩ : ∃ B, B = (if mC = lo_2 then mB else Option.map (fun a : Addr => a.add (lo_2 * 1)) mB) := ⟨_, rfl⟩
    replace h := h sl_2 e19
    refine N_val (some 20) (sliceN 40 (.slice mB mN mC) none (some (.int .i64 nv)) none) (.slice sl_2 (hi_2 - lo_2) (mC - lo_2)) (fun w => by kernel_rfl) (fun w _ => (slice_run (P := Try.prog) (t := 40) (elem := 41) (sz := 1) (a := mB) (len := mN) (cap := mC) none (some (.int .i64 nv)) lo_2 hi_2 Try.underlying40 (fun w => by kernel_rfl) (.inl ⟨rfl, q15⟩) (.inr ⟨.i64, by rw [q16]⟩) q17 q18 w).trans (by rw [e19]; try rfl)) [(20, .slice sl_2 (hi_2 - lo_2) (mC - lo_2))] (ps (by kernel_rfl)) ?_
    refine N_run 1 [(2, .slice sl_2 (hi_2 - lo_2) (mC - lo_2))] (fun w => by kernel_rfl) ?_
    refine N_end (by kernel_rfl) ?_
    refine S_then ?_
    refine S_ret (by kernel_rfl) ?_
    show At _ _ _ _ _ (Q .ret)
    exact S_done (fn := Try.f73) [.slice sl_2 (hi_2 - lo_2) (mC - lo_2)] hQ (show ResOK _ _ _ [.tmp 2] _ from .tmp (by kernel_rfl) (.nil)) h
end num_trim

end Go.Proofs.Ytfohlkiikppefaa
