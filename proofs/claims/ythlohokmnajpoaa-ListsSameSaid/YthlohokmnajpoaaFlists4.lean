/-
 Written by a program of mine (gen.py): for functions of this translation a predicate transformer over heaps (.pt), and the proof that it is sound for the call (.link).
-/
import Derived.Test.YthlohokmnajpoaaFnsC
set_option linter.unusedSimpArgs false
set_option linter.unusedVariables false
set_option maxHeartbeats 1000000
noncomputable section
namespace Go.Proofs.Ythlohokmnajpoaa
open Go
/-! moraine/lists.table.1 -/
namespace lists_table_1
def kk0 := Func.code Try.f36
def kk1 := Code.fa kk0
def kk2 := Code.fb kk0
def kk3 := Code.fa kk2
def kk4 := Code.fb kk2
end lists_table_1
def lists_table_1.pt (name : ByteArray) (nv : Int) (H : Array Obj) (R : Value → Array Obj → Prop) : Prop :=
 ∀ (b : Nat) (H1 : Array Obj), b = H.size → H1 = H.push (.cells #[.string (ByteArray.mk #[]), .int .i64 0, .int .i64 0] 54) →
 (CanPuts H1 (Addr.mk b 0 none) 0 3) ∧ ∀ H2 : Array Obj, H2 = hputs H1 (Addr.mk b 0 none) [.string name, .int .i64 nv, .int .i64 nv] 0 →
 ∃ rName : ByteArray, ∃ rLeast : Int, ∃ rMost : Int, RowAt H2 (Addr.mk b 0 none) 0 [.string rName, .int .i64 rLeast, .int .i64 rMost] ∧
 R (.agg #[.string rName, .int .i64 rLeast, .int .i64 rMost]) H2
namespace lists_table_1
set_option maxRecDepth 100000 in
theorem link {name : ByteArray} {nv : Int} {H : Array Obj} {R : Value → Array Obj → Prop} (h : pt name nv H R) : C name nv H R := by
 refine S_enter (fn := Try.f36) (c := kk0) 9 Try.func36 (by kernel_rfl) (by kernel_rfl) (Nat.le_of_ble_eq_true (by kernel_rfl)) ?_
 intro w0 Q hQ
 unfold pt at h
 refine S_sub [(0, .string name), (1, .int .i64 nv)] (sb (by kernel_rfl)) ?_
 refine T_sr 0 kk1 kk2 ?_
 refine N_new (some 4) (fun b => .pointer (some (Addr.mk b 0 none))) (.cells #[.string (ByteArray.mk #[]), .int .i64 0, .int .i64 0] 54) (fun _=>by kernel_rfl) ?_
 intro b H1 e1 e2
 replace h := h b H1 e1 e2
 refine ⟨[(0, .string name), (1, .int .i64 nv), (4, .pointer (some (Addr.mk b 0 none)))], ps (by kernel_rfl), ?_⟩
 refine T_e ?_
 refine T_sr 1 kk3 kk4 ?_
 refine N_run 4 [(4, .pointer (some (Addr.mk b 0 none))), (8, .agg #[.string name, .int .i64 nv, .int .i64 nv])] (fun _=>by kernel_rfl) ?_
 obtain ⟨q4, h⟩ := h
 refine N_skipop none (storeN 54 (.pointer (some (Addr.mk b 0 none))) (.agg #[.string name, .int .i64 nv, .int .i64 nv])) (fun Hz => Hz = hputs H1 (Addr.mk b 0 none) [.string name, .int .i64 nv, .int .i64 nv] 0) (fun _=>by kernel_rfl) (ss_store [.string name, .int .i64 nv, .int .i64 nv] 3 (by kernel_rfl) (by kernel_rfl) (fun _=>by kernel_rfl) (by kernel_rfl) q4) ?_
 intro H2 e3
 replace h := h H2 e3
 refine ⟨[(4, .pointer (some (Addr.mk b 0 none)))], ps (by kernel_rfl), ?_⟩
 refine T_e ?_
 refine S_ret (by kernel_rfl) ?_
 show At _ _ _ _ _ (Q .ret)
 obtain ⟨rName, rLeast, rMost, q5, h⟩ := h
 exact S_done (fn := Try.f36) [.agg #[.string rName, .int .i64 rLeast, .int .i64 rMost]] hQ (show ResOK _ _ _ [.cell 4 54] _ from .cell (by kernel_rfl) (loadOK_row (fun _=>by kernel_rfl) (fun _=>by kernel_rfl) q5) (.nil)) h
end lists_table_1

/-! moraine/lists.truth -/
namespace lists_truth
def kk0 := Func.code Try.f38
def kk1 := Code.fa kk0
def kk2 := Code.fb kk0
def kk3 := Code.fa kk2
def kk4 := Code.fb kk2
def kk5 := Code.fa kk3
def kk6 := Code.fb kk3
def kk7 := Code.fa kk6
def kk8 := Code.fb kk6
def kk9 := Code.fa kk7
def kk10 := Code.fb kk7
def kk11 := Code.fa kk4
def kk12 := Code.fb kk4
end lists_truth
def lists_truth.pt (isv : Bool) (H : Array Obj) (R : Value → Array Obj → Prop) : Prop :=
 if isv = true then (
 R (.int .u64 12) H)
 else
 R (.int .u64 4) H
namespace lists_truth
set_option maxRecDepth 100000 in
theorem link {isv : Bool} {H : Array Obj} {R : Value → Array Obj → Prop} (h : pt isv H R) : C isv H R := by
 refine S_enter (fn := Try.f38) (c := kk0) 4 Try.func38 (by kernel_rfl) (by kernel_rfl) (Nat.le_of_ble_eq_true (by kernel_rfl)) ?_
 intro w0 Q hQ
 unfold pt at h
 refine S_sub [(0, .bool isv)] (sb (by kernel_rfl)) ?_
 refine T_sr 0 kk1 kk2 ?_
 refine N_run 1 [(0, .bool isv)] (fun _=>by kernel_rfl) ?_
 refine T_e ?_
 refine S_seq kk3 kk4 (by kernel_rfl) ?_
 refine T_sr 1 kk5 kk6 ?_
 refine N_run 1 [(3, .bool isv)] (fun _=>by kernel_rfl) ?_
 refine T_e ?_
 by_cases c1 : isv = true
 ·rw [if_pos c1] at h
  have b2 : isv = true := c1
  refine S_env [(3, .bool true)] (by simp only [b2, Bool.not_true, Bool.not_false]) ?_
  clear b2
  refine S_condT (.tmp 3) kk7 kk8 (by kernel_rfl) (by kernel_rfl) ?_
  refine T_sr 2 kk9 kk10 ?_
  refine N_run 1 [(2, .int .u64 12)] (fun _=>by kernel_rfl) ?_
  refine T_e ?_
  refine S_ret (by kernel_rfl) ?_
  show At _ _ _ _ _ (Q .ret)
  exact S_done (fn := Try.f38) [.int .u64 12] hQ (show ResOK _ _ _ [.tmp 2] _ from .tmp (by kernel_rfl) (.nil)) h
 ·rw [if_neg c1] at h
  have b2 : isv = false := eq_false_of_ne_true c1
  refine S_env [(3, .bool false)] (by simp only [b2, Bool.not_true, Bool.not_false]) ?_
  clear b2
  refine S_condF (.tmp 3) kk7 kk8 (by kernel_rfl) (by kernel_rfl) ?_
  refine S_skip (by kernel_rfl) ?_
  refine S_then ?_
  refine T_sr 3 kk11 kk12 ?_
  refine N_run 1 [(2, .int .u64 4)] (fun _=>by kernel_rfl) ?_
  refine T_e ?_
  refine S_ret (by kernel_rfl) ?_
  show At _ _ _ _ _ (Q .ret)
  exact S_done (fn := Try.f38) [.int .u64 4] hQ (show ResOK _ _ _ [.tmp 2] _ from .tmp (by kernel_rfl) (.nil)) h
end lists_truth

/-! (*moraine/lists.judge).value -/
namespace lists_judge_value
def kk0 := Func.code Try.f44
def kk1 := Code.fa kk0
def kk2 := Code.fb kk0
def kk3 := Code.fa kk2
def kk4 := Code.fb kk2
def kk5 := Code.fa kk3
def kk6 := Code.fb kk3
def kk7 := Code.fa kk6
def kk8 := Code.fb kk6
def kk9 := Code.fa kk7
def kk10 := Code.fb kk7
def kk11 := Code.fa kk4
def kk12 := Code.fb kk4
def kk13 := Code.fa kk11
def kk14 := Code.fb kk11
def kk15 := Code.fa kk14
def kk16 := Code.fb kk14
def kk17 := Code.fa kk12
def kk18 := Code.fb kk12
def kk19 := Code.fa kk18
def kk20 := Code.fb kk18
def kk21 := Code.fa kk20
def kk22 := Code.fb kk20
def kk23 := Code.fa kk15
def kk24 := Code.fb kk15
end lists_judge_value
def lists_judge_value.pt (j : Option Addr) (a : Int) (b : Int) (H : Array Obj) (R : Value → Array Obj → Prop) : Prop :=
 if a = b then (
 R (.bool true) H)
 else
 ∃ jA : Addr, j = some jA ∧
 ∃ x : Option Addr, hat H jA = some (.pointer x) ∧
 obj_Heap_Type.C x a H (fun v H1 => ∃ x_2 : Int, v = .int .i64 x_2 ∧ 
 if x_2 = 3 then (
 ∃ x_3 : Option Addr, hat H1 jA = some (.pointer x_3) ∧
 obj_Heap_Type.C x_3 b H1 (fun v_2 H2 => ∃ x_4 : Int, v_2 = .int .i64 x_4 ∧ 
 if x_4 = 3 then (
 ∃ x_5 : Option Addr, hat H2 jA = some (.pointer x_5) ∧
 obj_Heap_Num.C x_5 a H2 (fun v_3 H3 => ∃ raNeg : Bool, ∃ raMagB : Option Addr, ∃ raMagN : Nat, ∃ raMagC : Nat, ∃ rb : Int, v_3 = .tuple #[.agg #[.bool raNeg, .slice raMagB raMagN raMagC], .int .i64 rb] ∧ 
 ∀ (b_2 : Nat) (H4 : Array Obj), b_2 = H3.size → H4 = H3.push (.cells #[.bool false, .slice none 0 0] 120) →
 (CanPuts H4 (Addr.mk b_2 0 none) 0 2) ∧ ∀ H5 : Array Obj, H5 = hputs H4 (Addr.mk b_2 0 none) [.bool raNeg, .slice raMagB raMagN raMagC] 0 →
 ∃ x_6 : Option Addr, hat H5 jA = some (.pointer x_6) ∧
 obj_Heap_Num.C x_6 b H5 (fun v_4 H6 => ∃ raNeg_2 : Bool, ∃ raMagB_2 : Option Addr, ∃ raMagN_2 : Nat, ∃ raMagC_2 : Nat, ∃ rb_2 : Int, v_4 = .tuple #[.agg #[.bool raNeg_2, .slice raMagB_2 raMagN_2 raMagC_2], .int .i64 rb_2] ∧ 
 ∀ (b_3 : Nat) (H7 : Array Obj), b_3 = H6.size → H7 = H6.push (.cells #[.bool false, .slice none 0 0] 120) →
 (CanPuts H7 (Addr.mk b_3 0 none) 0 2) ∧ ∀ H8 : Array Obj, H8 = hputs H7 (Addr.mk b_3 0 none) [.bool raNeg_2, .slice raMagB_2 raMagN_2 raMagC_2] 0 →
 if rb = 0 then (
 if rb_2 = 0 then (
 ∃ xNeg : Bool, ∃ xMagB : Option Addr, ∃ xMagN : Nat, ∃ xMagC : Nat, RowAt H8 (Addr.mk b_2 0 none) 0 [.bool xNeg, .slice xMagB xMagN xMagC] ∧
 ∃ xNeg_2 : Bool, ∃ xMagB_2 : Option Addr, ∃ xMagN_2 : Nat, ∃ xMagC_2 : Nat, RowAt H8 (Addr.mk b_3 0 none) 0 [.bool xNeg_2, .slice xMagB_2 xMagN_2 xMagC_2] ∧
 num_Cmp.C xNeg xMagB xMagN xMagC xNeg_2 xMagB_2 xMagN_2 xMagC_2 H8 (fun v_5 H9 => ∃ x_7 : Int, v_5 = .int .i64 x_7 ∧ 
 R (.bool (x_7 == 0)) H9))
 else
 R (.bool false) H8)
 else
 R (.bool false) H8)))
 else
 R (.bool false) H2))
 else
 R (.bool false) H1)
namespace lists_judge_value
set_option maxRecDepth 100000 in
theorem link {j : Option Addr} {a : Int} {b : Int} {H : Array Obj} {R : Value → Array Obj → Prop} (h : pt j a b H R) : C j a b H R := by
 refine S_enter (fn := Try.f44) (c := kk0) 60 Try.func44 (by kernel_rfl) (by kernel_rfl) (Nat.le_of_ble_eq_true (by kernel_rfl)) ?_
 intro w0 Q hQ
 unfold pt at h
 refine S_sub [(0, .pointer j), (1, .int .u64 a), (2, .int .u64 b)] (sb (by kernel_rfl)) ?_
 refine T_sr 0 kk1 kk2 ?_
 refine N_run 1 [(0, .pointer j), (1, .int .u64 a), (2, .int .u64 b)] (fun _=>by kernel_rfl) ?_
 refine T_e ?_
 refine S_seq kk3 kk4 (by kernel_rfl) ?_
 refine T_sr 1 kk5 kk6 ?_
 refine N_run 3 [(0, .pointer j), (1, .int .u64 a), (2, .int .u64 b), (13, .bool (a == b))] (fun _=>by kernel_rfl) ?_
 refine T_e ?_
 by_cases c1 : a = b
 ·rw [if_pos c1] at h
  have b2 : (a == b) = true := beq_iff_eq.mpr c1
  refine S_env [(0, .pointer j), (1, .int .u64 a), (2, .int .u64 b), (13, .bool true)] (by simp only [b2, Bool.not_true, Bool.not_false]) ?_
  clear b2
  refine S_condT (.tmp 13) kk7 kk8 (by kernel_rfl) (by kernel_rfl) ?_
  refine T_sr 2 kk9 kk10 ?_
  refine N_run 1 [(6, .bool true)] (fun _=>by kernel_rfl) ?_
  refine T_e ?_
  refine S_ret (by kernel_rfl) ?_
  show At _ _ _ _ _ (Q .ret)
  exact S_done (fn := Try.f44) [.bool true] hQ (show ResOK _ _ _ [.tmp 6] _ from .tmp (by kernel_rfl) (.nil)) h
 ·rw [if_neg c1] at h
  have b2 : (a == b) = false := beq_eq_false_iff_ne.mpr c1
  refine S_env [(0, .pointer j), (1, .int .u64 a), (2, .int .u64 b), (13, .bool false)] (by simp only [b2, Bool.not_true, Bool.not_false]) ?_
  clear b2
  refine S_condF (.tmp 13) kk7 kk8 (by kernel_rfl) (by kernel_rfl) ?_
  refine S_skip (by kernel_rfl) ?_
  refine S_then ?_
  refine S_seq kk11 kk12 (by kernel_rfl) ?_
  refine T_sr 3 kk13 kk14 ?_
  refine N_run 1 [(0, .pointer j), (1, .int .u64 a), (2, .int .u64 b), (14, .pointer j)] (fun _=>by kernel_rfl) ?_
  obtain ⟨jA, rfl, h⟩ := h
  refine N_run 2 [(0, .pointer (some jA)), (1, .int .u64 a), (2, .int .u64 b), (16, .pointer (some jA))] (fun _=>by kernel_rfl) ?_
  obtain ⟨x, q3, h⟩ := h
  refine N_val (some 17) (loadN 23 (.pointer (some jA))) (.pointer x) (fun _=>by kernel_rfl) (loadN_run (loadOK_one (fun _=>by kernel_rfl) q3)) [(0, .pointer (some jA)), (1, .int .u64 a), (2, .int .u64 b), (17, .pointer x)] (ps (by kernel_rfl)) ?_
  refine N_run 1 [(0, .pointer (some jA)), (1, .int .u64 a), (2, .int .u64 b), (17, .pointer x), (18, .int .u64 a)] (fun _=>by kernel_rfl) ?_
  refine N_call (some 19) 46 #[.pointer x, .int .u64 a] (fun _=>by kernel_rfl) h ?_; clear h
  rintro v H1 ⟨x_2, rfl, h⟩
  refine ⟨[(0, .pointer (some jA)), (1, .int .u64 a), (2, .int .u64 b), (19, .int .i64 x_2)], ps (by kernel_rfl), ?_⟩
  refine N_run 2 [(0, .pointer (some jA)), (1, .int .u64 a), (2, .int .u64 b), (21, .bool (x_2 != 3))] (fun _=>by kernel_rfl) ?_
  by_cases c4 : x_2 = 3
  ·rw [if_pos c4] at h
   have b5 : (x_2 != 3) = false := bne_eq_false_iff_eq.mpr c4
   refine N_env [(0, .pointer (some jA)), (1, .int .u64 a), (2, .int .u64 b), (21, .bool false)] (by simp only [b5, Bool.not_true, Bool.not_false]) ?_
   clear b5
   refine N_run 3 [(0, .pointer (some jA)), (1, .int .u64 a), (2, .int .u64 b), (21, .bool false), (24, .pointer (some jA))] (fun _=>by kernel_rfl) ?_
   obtain ⟨x_3, q6, h⟩ := h
   refine N_val (some 25) (loadN 23 (.pointer (some jA))) (.pointer x_3) (fun _=>by kernel_rfl) (loadN_run (loadOK_one (fun _=>by kernel_rfl) q6)) [(0, .pointer (some jA)), (1, .int .u64 a), (2, .int .u64 b), (21, .bool false), (25, .pointer x_3)] (ps (by kernel_rfl)) ?_
   refine N_run 1 [(0, .pointer (some jA)), (1, .int .u64 a), (2, .int .u64 b), (21, .bool false), (25, .pointer x_3), (26, .int .u64 b)] (fun _=>by kernel_rfl) ?_
   refine N_call (some 27) 46 #[.pointer x_3, .int .u64 b] (fun _=>by kernel_rfl) h ?_; clear h
   rintro v_2 H2 ⟨x_4, rfl, h⟩
   refine ⟨[(0, .pointer (some jA)), (1, .int .u64 a), (2, .int .u64 b), (21, .bool false), (27, .int .i64 x_4)], ps (by kernel_rfl), ?_⟩
   refine N_run 2 [(0, .pointer (some jA)), (1, .int .u64 a), (2, .int .u64 b), (29, .bool (x_4 != 3))] (fun _=>by kernel_rfl) ?_
   refine T_e ?_
   by_cases c7 : x_4 = 3
   ·rw [if_pos c7] at h
    have b8 : (x_4 != 3) = false := bne_eq_false_iff_eq.mpr c7
    refine S_env [(0, .pointer (some jA)), (1, .int .u64 a), (2, .int .u64 b), (29, .bool false)] (by simp only [b8, Bool.not_true, Bool.not_false]) ?_
    clear b8
    refine S_condF (.tmp 29) kk15 kk16 (by kernel_rfl) (by kernel_rfl) ?_
    refine S_skip (by kernel_rfl) ?_
    refine S_then ?_
    refine T_sr 5 kk17 kk18 ?_
    refine N_run 3 [(0, .pointer (some jA)), (1, .int .u64 a), (2, .int .u64 b), (33, .pointer (some jA))] (fun _=>by kernel_rfl) ?_
    obtain ⟨x_5, q9, h⟩ := h
    refine N_val (some 34) (loadN 23 (.pointer (some jA))) (.pointer x_5) (fun _=>by kernel_rfl) (loadN_run (loadOK_one (fun _=>by kernel_rfl) q9)) [(0, .pointer (some jA)), (1, .int .u64 a), (2, .int .u64 b), (34, .pointer x_5)] (ps (by kernel_rfl)) ?_
    refine N_run 1 [(0, .pointer (some jA)), (2, .int .u64 b), (34, .pointer x_5), (35, .int .u64 a)] (fun _=>by kernel_rfl) ?_
    refine N_call (some 36) 62 #[.pointer x_5, .int .u64 a] (fun _=>by kernel_rfl) h ?_; clear h
    rintro v_3 H3 ⟨raNeg, raMagB, raMagN, raMagC, rb, rfl, h⟩
    refine ⟨[(0, .pointer (some jA)), (2, .int .u64 b), (36, .tuple #[.agg #[.bool raNeg, .slice raMagB raMagN raMagC], .int .i64 rb])], ps (by kernel_rfl), ?_⟩
    refine N_run 3 [(0, .pointer (some jA)), (2, .int .u64 b), (37, .agg #[.bool raNeg, .slice raMagB raMagN raMagC]), (38, .int .i64 rb)] (fun _=>by kernel_rfl) ?_
    refine N_new (some 7) (fun b => .pointer (some (Addr.mk b 0 none))) (.cells #[.bool false, .slice none 0 0] 120) (fun _=>by kernel_rfl) ?_
    intro b_2 H4 e10 e11
    replace h := h b_2 H4 e10 e11
    refine ⟨[(0, .pointer (some jA)), (2, .int .u64 b), (7, .pointer (some (Addr.mk b_2 0 none))), (37, .agg #[.bool raNeg, .slice raMagB raMagN raMagC]), (38, .int .i64 rb)], ps (by kernel_rfl), ?_⟩
    obtain ⟨q13, h⟩ := h
    refine N_skipop none (storeN 120 (.pointer (some (Addr.mk b_2 0 none))) (.agg #[.bool raNeg, .slice raMagB raMagN raMagC])) (fun Hz => Hz = hputs H4 (Addr.mk b_2 0 none) [.bool raNeg, .slice raMagB raMagN raMagC] 0) (fun _=>by kernel_rfl) (ss_store [.bool raNeg, .slice raMagB raMagN raMagC] 2 (by kernel_rfl) (by kernel_rfl) (fun _=>by kernel_rfl) (by kernel_rfl) q13) ?_
    intro H5 e12
    replace h := h H5 e12
    refine ⟨[(0, .pointer (some jA)), (2, .int .u64 b), (7, .pointer (some (Addr.mk b_2 0 none))), (38, .int .i64 rb)], ps (by kernel_rfl), ?_⟩
    refine N_run 1 [(0, .pointer (some jA)), (2, .int .u64 b), (7, .pointer (some (Addr.mk b_2 0 none))), (8, .int .i64 rb)] (fun _=>by kernel_rfl) ?_
    refine T_e ?_
    refine T_sr 6 kk19 kk20 ?_
    refine N_run 3 [(2, .int .u64 b), (7, .pointer (some (Addr.mk b_2 0 none))), (8, .int .i64 rb), (42, .pointer (some jA))] (fun _=>by kernel_rfl) ?_
    obtain ⟨x_6, q14, h⟩ := h
    refine N_val (some 43) (loadN 23 (.pointer (some jA))) (.pointer x_6) (fun _=>by kernel_rfl) (loadN_run (loadOK_one (fun _=>by kernel_rfl) q14)) [(2, .int .u64 b), (7, .pointer (some (Addr.mk b_2 0 none))), (8, .int .i64 rb), (43, .pointer x_6)] (ps (by kernel_rfl)) ?_
    refine N_run 1 [(7, .pointer (some (Addr.mk b_2 0 none))), (8, .int .i64 rb), (43, .pointer x_6), (44, .int .u64 b)] (fun _=>by kernel_rfl) ?_
    refine N_call (some 45) 62 #[.pointer x_6, .int .u64 b] (fun _=>by kernel_rfl) h ?_; clear h
    rintro v_4 H6 ⟨raNeg_2, raMagB_2, raMagN_2, raMagC_2, rb_2, rfl, h⟩
    refine ⟨[(7, .pointer (some (Addr.mk b_2 0 none))), (8, .int .i64 rb), (45, .tuple #[.agg #[.bool raNeg_2, .slice raMagB_2 raMagN_2 raMagC_2], .int .i64 rb_2])], ps (by kernel_rfl), ?_⟩
    refine N_run 3 [(7, .pointer (some (Addr.mk b_2 0 none))), (8, .int .i64 rb), (46, .agg #[.bool raNeg_2, .slice raMagB_2 raMagN_2 raMagC_2]), (47, .int .i64 rb_2)] (fun _=>by kernel_rfl) ?_
    refine N_new (some 9) (fun b => .pointer (some (Addr.mk b 0 none))) (.cells #[.bool false, .slice none 0 0] 120) (fun _=>by kernel_rfl) ?_
    intro b_3 H7 e15 e16
    replace h := h b_3 H7 e15 e16
    refine ⟨[(7, .pointer (some (Addr.mk b_2 0 none))), (8, .int .i64 rb), (9, .pointer (some (Addr.mk b_3 0 none))), (46, .agg #[.bool raNeg_2, .slice raMagB_2 raMagN_2 raMagC_2]), (47, .int .i64 rb_2)], ps (by kernel_rfl), ?_⟩
    obtain ⟨q18, h⟩ := h
    refine N_skipop none (storeN 120 (.pointer (some (Addr.mk b_3 0 none))) (.agg #[.bool raNeg_2, .slice raMagB_2 raMagN_2 raMagC_2])) (fun Hz => Hz = hputs H7 (Addr.mk b_3 0 none) [.bool raNeg_2, .slice raMagB_2 raMagN_2 raMagC_2] 0) (fun _=>by kernel_rfl) (ss_store [.bool raNeg_2, .slice raMagB_2 raMagN_2 raMagC_2] 2 (by kernel_rfl) (by kernel_rfl) (fun _=>by kernel_rfl) (by kernel_rfl) q18) ?_
    intro H8 e17
    replace h := h H8 e17
    refine ⟨[(7, .pointer (some (Addr.mk b_2 0 none))), (8, .int .i64 rb), (9, .pointer (some (Addr.mk b_3 0 none))), (47, .int .i64 rb_2)], ps (by kernel_rfl), ?_⟩
    refine N_run 1 [(7, .pointer (some (Addr.mk b_2 0 none))), (8, .int .i64 rb), (9, .pointer (some (Addr.mk b_3 0 none))), (10, .int .i64 rb_2)] (fun _=>by kernel_rfl) ?_
    refine T_e ?_
    refine T_sr 7 kk21 kk22 ?_
    refine N_run 3 [(7, .pointer (some (Addr.mk b_2 0 none))), (9, .pointer (some (Addr.mk b_3 0 none))), (10, .int .i64 rb_2), (50, .bool (rb == 0))] (fun _=>by kernel_rfl) ?_
    by_cases c19 : rb = 0
    ·rw [if_pos c19] at h
     have b20 : (rb == 0) = true := beq_iff_eq.mpr c19
     refine N_env [(7, .pointer (some (Addr.mk b_2 0 none))), (9, .pointer (some (Addr.mk b_3 0 none))), (10, .int .i64 rb_2), (50, .bool true)] (by simp only [b20, Bool.not_true, Bool.not_false]) ?_
     clear b20
     refine N_run 4 [(7, .pointer (some (Addr.mk b_2 0 none))), (9, .pointer (some (Addr.mk b_3 0 none))), (54, .bool (rb_2 == 0))] (fun _=>by kernel_rfl) ?_
     by_cases c21 : rb_2 = 0
     ·rw [if_pos c21] at h
      have b22 : (rb_2 == 0) = true := beq_iff_eq.mpr c21
      refine N_env [(7, .pointer (some (Addr.mk b_2 0 none))), (9, .pointer (some (Addr.mk b_3 0 none))), (54, .bool true)] (by simp only [b22, Bool.not_true, Bool.not_false]) ?_
      clear b22
      obtain ⟨xNeg, xMagB, xMagN, xMagC, q23, h⟩ := h
      refine N_val (some 55) (loadN 120 (.pointer (some (Addr.mk b_2 0 none)))) (.agg #[.bool xNeg, .slice xMagB xMagN xMagC]) (fun _=>by kernel_rfl) (loadN_run (loadOK_row (fun _=>by kernel_rfl) (fun _=>by kernel_rfl) q23)) [(9, .pointer (some (Addr.mk b_3 0 none))), (54, .bool true), (55, .agg #[.bool xNeg, .slice xMagB xMagN xMagC])] (ps (by kernel_rfl)) ?_
      obtain ⟨xNeg_2, xMagB_2, xMagN_2, xMagC_2, q24, h⟩ := h
      refine N_val (some 56) (loadN 120 (.pointer (some (Addr.mk b_3 0 none)))) (.agg #[.bool xNeg_2, .slice xMagB_2 xMagN_2 xMagC_2]) (fun _=>by kernel_rfl) (loadN_run (loadOK_row (fun _=>by kernel_rfl) (fun _=>by kernel_rfl) q24)) [(54, .bool true), (55, .agg #[.bool xNeg, .slice xMagB xMagN xMagC]), (56, .agg #[.bool xNeg_2, .slice xMagB_2 xMagN_2 xMagC_2])] (ps (by kernel_rfl)) ?_
      refine N_call (some 57) 63 #[.agg #[.bool xNeg, .slice xMagB xMagN xMagC], .agg #[.bool xNeg_2, .slice xMagB_2 xMagN_2 xMagC_2]] (fun _=>by kernel_rfl) h ?_; clear h
      rintro v_5 H9 ⟨x_7, rfl, h⟩
      refine ⟨[(54, .bool true), (57, .int .i64 x_7)], ps (by kernel_rfl), ?_⟩
      refine N_run 3 [(6, .bool (x_7 == 0))] (fun _=>by kernel_rfl) ?_
      refine T_e ?_
      refine S_ret (by kernel_rfl) ?_
      show At _ _ _ _ _ (Q .ret)
      exact S_done (fn := Try.f44) [.bool (x_7 == 0)] hQ (show ResOK _ _ _ [.tmp 6] _ from .tmp (by kernel_rfl) (.nil)) h
     ·rw [if_neg c21] at h
      have b22 : (rb_2 == 0) = false := beq_eq_false_iff_ne.mpr c21
      refine N_env [(7, .pointer (some (Addr.mk b_2 0 none))), (9, .pointer (some (Addr.mk b_3 0 none))), (54, .bool false)] (by simp only [b22, Bool.not_true, Bool.not_false]) ?_
      clear b22
      refine N_run 6 [(6, .bool false)] (fun _=>by kernel_rfl) ?_
      refine T_e ?_
      refine S_ret (by kernel_rfl) ?_
      show At _ _ _ _ _ (Q .ret)
      exact S_done (fn := Try.f44) [.bool false] hQ (show ResOK _ _ _ [.tmp 6] _ from .tmp (by kernel_rfl) (.nil)) h
    ·rw [if_neg c19] at h
     have b20 : (rb == 0) = false := beq_eq_false_iff_ne.mpr c19
     refine N_env [(7, .pointer (some (Addr.mk b_2 0 none))), (9, .pointer (some (Addr.mk b_3 0 none))), (10, .int .i64 rb_2), (50, .bool false)] (by simp only [b20, Bool.not_true, Bool.not_false]) ?_
     clear b20
     refine N_run 10 [(6, .bool false)] (fun _=>by kernel_rfl) ?_
     refine T_e ?_
     refine S_ret (by kernel_rfl) ?_
     show At _ _ _ _ _ (Q .ret)
     exact S_done (fn := Try.f44) [.bool false] hQ (show ResOK _ _ _ [.tmp 6] _ from .tmp (by kernel_rfl) (.nil)) h
   ·rw [if_neg c7] at h
    have b8 : (x_4 != 3) = true := bne_iff_ne.mpr c7
    refine S_env [(0, .pointer (some jA)), (1, .int .u64 a), (2, .int .u64 b), (29, .bool true)] (by simp only [b8, Bool.not_true, Bool.not_false]) ?_
    clear b8
    refine S_condT (.tmp 29) kk15 kk16 (by kernel_rfl) (by kernel_rfl) ?_
    refine T_sr 4 kk23 kk24 ?_
    refine N_run 1 [(6, .bool false)] (fun _=>by kernel_rfl) ?_
    refine T_e ?_
    refine S_ret (by kernel_rfl) ?_
    show At _ _ _ _ _ (Q .ret)
    exact S_done (fn := Try.f44) [.bool false] hQ (show ResOK _ _ _ [.tmp 6] _ from .tmp (by kernel_rfl) (.nil)) h
  ·rw [if_neg c4] at h
   have b5 : (x_2 != 3) = true := bne_iff_ne.mpr c4
   refine N_env [(0, .pointer (some jA)), (1, .int .u64 a), (2, .int .u64 b), (21, .bool true)] (by simp only [b5, Bool.not_true, Bool.not_false]) ?_
   clear b5
   refine N_run 8 [(0, .pointer (some jA)), (1, .int .u64 a), (2, .int .u64 b), (29, .bool true)] (fun _=>by kernel_rfl) ?_
   refine T_e ?_
   refine S_condT (.tmp 29) kk15 kk16 (by kernel_rfl) (by kernel_rfl) ?_
   refine T_sr 4 kk23 kk24 ?_
   refine N_run 1 [(6, .bool false)] (fun _=>by kernel_rfl) ?_
   refine T_e ?_
   refine S_ret (by kernel_rfl) ?_
   show At _ _ _ _ _ (Q .ret)
   exact S_done (fn := Try.f44) [.bool false] hQ (show ResOK _ _ _ [.tmp 6] _ from .tmp (by kernel_rfl) (.nil)) h
end lists_judge_value

/-! moraine/lists.pairs.1 -/
namespace lists_pairs_1
def kk0 := Func.code Try.f47
def kk1 := Code.fa kk0
def kk2 := Code.fb kk0
def kk3 := Code.fa kk1
def kk4 := Code.fb kk1
def kk5 := Code.fa kk4
def kk6 := Code.fa kk5
def kk7 := Code.fa kk6
def kk8 := Code.fb kk6
def kk9 := Code.fa kk8
def kk10 := Code.fb kk8
def kk11 := Code.fa kk9
def kk12 := Code.fb kk9
def kk13 := Code.fa kk10
def kk14 := Code.fb kk10
def kk15 := Code.fa kk13
def kk16 := Code.fa kk15
def kk17 := Code.fb kk15
def kk18 := Code.fa kk16
def kk19 := Code.fb kk16
def kk20 := Code.fa kk19
def kk21 := Code.fb kk19
def kk22 := Code.fa kk17
def kk23 := Code.fb kk17
def kk24 := Code.fa kk22
def kk25 := Code.fb kk22
def kk26 := Code.fa kk25
def kk27 := Code.fb kk25
end lists_pairs_1
def lists_pairs_1.pt (yield : Value) (cap0 : Option Addr) (cap1 : Option Addr) (H : Array Obj) (R : Value → Array Obj → Prop) : Prop :=
 ∃ (I7 : Int → Array Obj → Prop) (m7 : Int → Array Obj → Nat), I7 0 H ∧ ∀ (s4 : Int) (H1 : Array Obj), I7 s4 H1 →
 if s4 < 32768 then (
 ∃ cap0A : Addr, cap0 = some cap0A ∧
 ∃ x : Option Addr, hat H1 cap0A = some (.pointer x) ∧
 ∃ cap1A : Addr, cap1 = some cap1A ∧
 ∃ x_2 : Int, hat H1 cap1A = some (.int .u64 x_2) ∧
 obj_Heap_Pair.C x x_2 H1 (fun v H2 => ∃ x_3 : Bool, v = .bool x_3 ∧ 
 if x_3 = true then (
 ∃ x_4 : Int, hat H2 cap1A = some (.int .u64 x_4) ∧
 FC Try.prog yield #[.int .u64 x_4, .bool false] H2 (fun v_2 H3 => ∃ x_5 : Bool, v_2 = .bool x_5 ∧ 
 if x_5 = true then (
 ∃ x_6 : Option Addr, hat H3 cap0A = some (.pointer x_6) ∧
 ∃ x_7 : Int, hat H3 cap1A = some (.int .u64 x_7) ∧
 obj_Heap_Cdr.C x_6 x_7 H3 (fun v_3 H4 => ∃ ra : Int, ∃ rb : Int, v_3 = .tuple #[.int .u64 ra, .int .i64 rb] ∧ 
 (CanPuts H4 cap1A 0 1) ∧ ∀ H5 : Array Obj, H5 = hputs H4 cap1A [.int .u64 ra] 0 →
 (I7 (IntKind.wrap .i64 (s4 + 1)) H5 ∧ m7 (IntKind.wrap .i64 (s4 + 1)) H5 < m7 s4 H1)))
 else
 R (.tuple #[]) H3))
 else
 ∃ x_8 : Int, hat H2 cap1A = some (.int .u64 x_8) ∧
 FC Try.prog yield #[.int .u64 x_8, .bool true] H2 (fun v_4 H6 => ∃ x_9 : Bool, v_4 = .bool x_9 ∧ 
 R (.tuple #[]) H6)))
 else
 ∃ cap1A_2 : Addr, cap1 = some cap1A_2 ∧
 ∃ x_10 : Int, hat H1 cap1A_2 = some (.int .u64 x_10) ∧
 FC Try.prog yield #[.int .u64 x_10, .bool true] H1 (fun v_5 H7 => ∃ x_11 : Bool, v_5 = .bool x_11 ∧ 
 R (.tuple #[]) H7)
namespace lists_pairs_1
set_option maxRecDepth 100000 in
theorem link {yield : Value} {cap0 : Option Addr} {cap1 : Option Addr} {H : Array Obj} {R : Value → Array Obj → Prop} (h : pt yield cap0 cap1 H R) : C yield cap0 cap1 H R := by
 refine S_enter (fn := Try.f47) (c := kk0) 24 Try.func47 (by kernel_rfl) (by kernel_rfl) (Nat.le_of_ble_eq_true (by kernel_rfl)) ?_
 intro w0 Q hQ
 unfold pt at h
 refine S_sub [(0, yield), (1, .pointer cap0), (2, .pointer cap1)] (sb (by kernel_rfl)) ?_
 refine S_seq kk1 kk2 (by kernel_rfl) ?_
 refine T_sr 0 kk3 kk4 ?_
 refine N_run 1 [(0, yield), (1, .pointer cap0), (2, .pointer cap1), (4, .int .i64 0)] (fun _=>by kernel_rfl) ?_
 refine T_e ?_
 refine S_block 0 kk5 (by kernel_rfl) ?_
 obtain ⟨I7, m7, i1, i2⟩ := h
 refine S_loop (x := kk6) (σ := Int) (fun s_ => [(0, yield), (1, .pointer cap0), (2, .pointer cap1), (4, .int .i64 s_)]) (fun s_ H => I7 s_ H) (fun s_ H => m7 s_ H) (0 : Int) (by kernel_rfl) i1 (sb (by kernel_rfl)) ?_
 rintro s4 H1 i3
 have h := i2 s4 H1 i3
 refine S_sub [(0, yield), (1, .pointer cap0), (2, .pointer cap1), (4, .int .i64 s4)] (sb (by kernel_rfl)) ?_
 refine T_sr 1 kk7 kk8 ?_
 refine N_run 1 [(0, yield), (1, .pointer cap0), (2, .pointer cap1), (4, .int .i64 s4), (5, .bool (decide (s4 < 32768)))] (fun _=>by kernel_rfl) ?_
 refine T_e ?_
 refine S_seq kk9 kk10 (by kernel_rfl) ?_
 by_cases c4 : s4 < 32768
 ·rw [if_pos c4] at h
  have b5 : (decide (s4 < 32768)) = true := decide_eq_true c4
  refine S_env [(0, yield), (1, .pointer cap0), (2, .pointer cap1), (4, .int .i64 s4), (5, .bool true)] (by simp only [b5, Bool.not_true, Bool.not_false]) ?_
  clear b5
  refine S_condT (.tmp 5) kk11 kk12 (by kernel_rfl) (by kernel_rfl) ?_
  refine S_skip (by kernel_rfl) ?_
  refine S_then ?_
  refine S_seq kk13 kk14 (by kernel_rfl) ?_
  refine S_block 1 kk15 (by kernel_rfl) ?_
  refine S_seq kk16 kk17 (by kernel_rfl) ?_
  refine T_sr 2 kk18 kk19 ?_
  refine N_sub [(0, yield), (1, .pointer cap0), (2, .pointer cap1), (4, .int .i64 s4)] (sb (by kernel_rfl)) ?_
  obtain ⟨cap0A, rfl, h⟩ := h
  obtain ⟨x, q6, h⟩ := h
  refine N_val (some 6) (loadN 23 (.pointer (some cap0A))) (.pointer x) (fun _=>by kernel_rfl) (loadN_run (loadOK_one (fun _=>by kernel_rfl) q6)) [(0, yield), (1, .pointer (some cap0A)), (2, .pointer cap1), (4, .int .i64 s4), (6, .pointer x)] (ps (by kernel_rfl)) ?_
  obtain ⟨cap1A, rfl, h⟩ := h
  obtain ⟨x_2, q7, h⟩ := h
  refine N_val (some 7) (loadN 31 (.pointer (some cap1A))) (.int .u64 x_2) (fun _=>by kernel_rfl) (loadN_run (loadOK_one (fun _=>by kernel_rfl) q7)) [(0, yield), (1, .pointer (some cap0A)), (2, .pointer (some cap1A)), (4, .int .i64 s4), (6, .pointer x), (7, .int .u64 x_2)] (ps (by kernel_rfl)) ?_
  refine N_call (some 8) 43 #[.pointer x, .int .u64 x_2] (fun _=>by kernel_rfl) h ?_; clear h
  rintro v H2 ⟨x_3, rfl, h⟩
  refine ⟨[(0, yield), (1, .pointer (some cap0A)), (2, .pointer (some cap1A)), (4, .int .i64 s4), (8, .bool x_3)], ps (by kernel_rfl), ?_⟩
  refine N_run 1 [(0, yield), (1, .pointer (some cap0A)), (2, .pointer (some cap1A)), (4, .int .i64 s4), (9, .bool (!x_3))] (fun _=>by kernel_rfl) ?_
  refine T_e ?_
  by_cases c8 : x_3 = true
  ·rw [if_pos c8] at h
   have b9 : (!x_3) = false := congrArg Bool.not (c8)
   have b92 : x_3 = true := c8
   refine S_env [(0, yield), (1, .pointer (some cap0A)), (2, .pointer (some cap1A)), (4, .int .i64 s4), (9, .bool false)] (by simp only [b9, b92, Bool.not_true, Bool.not_false]) ?_
   clear b9 b92
   refine S_condF (.tmp 9) kk20 kk21 (by kernel_rfl) (by kernel_rfl) ?_
   refine S_skip (by kernel_rfl) ?_
   refine S_then ?_
   refine S_seq kk22 kk23 (by kernel_rfl) ?_
   refine T_sr 3 kk24 kk25 ?_
   refine N_run 1 [(0, yield), (1, .pointer (some cap0A)), (2, .pointer (some cap1A)), (4, .int .i64 s4), (10, yield)] (fun _=>by kernel_rfl) ?_
   obtain ⟨x_4, q10, h⟩ := h
   refine N_val (some 11) (loadN 31 (.pointer (some cap1A))) (.int .u64 x_4) (fun _=>by kernel_rfl) (loadN_run (loadOK_one (fun _=>by kernel_rfl) q10)) [(0, yield), (1, .pointer (some cap0A)), (2, .pointer (some cap1A)), (4, .int .i64 s4), (10, yield), (11, .int .u64 x_4)] (ps (by kernel_rfl)) ?_
   refine N_callv (some 12) yield #[.int .u64 x_4, .bool false] (fun _=>by kernel_rfl) h ?_; clear h
   rintro v_2 H3 ⟨x_5, rfl, h⟩
   refine ⟨[(0, yield), (1, .pointer (some cap0A)), (2, .pointer (some cap1A)), (4, .int .i64 s4), (12, .bool x_5)], ps (by kernel_rfl), ?_⟩
   refine N_run 1 [(0, yield), (1, .pointer (some cap0A)), (2, .pointer (some cap1A)), (4, .int .i64 s4), (13, .bool (!x_5))] (fun _=>by kernel_rfl) ?_
   refine T_e ?_
   by_cases c11 : x_5 = true
   ·rw [if_pos c11] at h
    have b12 : (!x_5) = false := congrArg Bool.not (c11)
    have b122 : x_5 = true := c11
    refine S_env [(0, yield), (1, .pointer (some cap0A)), (2, .pointer (some cap1A)), (4, .int .i64 s4), (13, .bool false)] (by simp only [b12, b122, Bool.not_true, Bool.not_false]) ?_
    clear b12 b122
    refine S_condF (.tmp 13) kk26 kk27 (by kernel_rfl) (by kernel_rfl) ?_
    refine S_skip (by kernel_rfl) ?_
    refine S_then ?_
    refine S_region 4 (Code.ops kk23) (by kernel_rfl) ?_
    refine N_sub [(0, yield), (1, .pointer (some cap0A)), (2, .pointer (some cap1A)), (4, .int .i64 s4)] (sb (by kernel_rfl)) ?_
    obtain ⟨x_6, q13, h⟩ := h
    refine N_val (some 15) (loadN 23 (.pointer (some cap0A))) (.pointer x_6) (fun _=>by kernel_rfl) (loadN_run (loadOK_one (fun _=>by kernel_rfl) q13)) [(0, yield), (1, .pointer (some cap0A)), (2, .pointer (some cap1A)), (4, .int .i64 s4), (15, .pointer x_6)] (ps (by kernel_rfl)) ?_
    obtain ⟨x_7, q14, h⟩ := h
    refine N_val (some 16) (loadN 31 (.pointer (some cap1A))) (.int .u64 x_7) (fun _=>by kernel_rfl) (loadN_run (loadOK_one (fun _=>by kernel_rfl) q14)) [(0, yield), (1, .pointer (some cap0A)), (2, .pointer (some cap1A)), (4, .int .i64 s4), (15, .pointer x_6), (16, .int .u64 x_7)] (ps (by kernel_rfl)) ?_
    refine N_call (some 17) 18 #[.pointer x_6, .int .u64 x_7] (fun _=>by kernel_rfl) h ?_; clear h
    rintro v_3 H4 ⟨ra, rb, rfl, h⟩
    refine ⟨[(0, yield), (1, .pointer (some cap0A)), (2, .pointer (some cap1A)), (4, .int .i64 s4), (17, .tuple #[.int .u64 ra, .int .i64 rb])], ps (by kernel_rfl), ?_⟩
    refine N_run 3 [(0, yield), (1, .pointer (some cap0A)), (2, .pointer (some cap1A)), (4, .int .i64 s4), (18, .int .u64 ra)] (fun _=>by kernel_rfl) ?_
    obtain ⟨q16, h⟩ := h
    refine N_skipop none (storeN 31 (.pointer (some cap1A)) (.int .u64 ra)) (fun Hz => Hz = hputs H4 cap1A [.int .u64 ra] 0) (fun _=>by kernel_rfl) (ss_store [.int .u64 ra] 1 (by kernel_rfl) (by kernel_rfl) (fun _=>by kernel_rfl) (by kernel_rfl) q16) ?_
    intro H5 e15
    replace h := h H5 e15
    refine ⟨[(0, yield), (1, .pointer (some cap0A)), (2, .pointer (some cap1A)), (4, .int .i64 s4)], ps (by kernel_rfl), ?_⟩
    refine N_end (by kernel_rfl) ?_
    refine S_blockEnd ?_
    refine S_then ?_
    refine S_region 5 (Code.ops kk14) (by kernel_rfl) ?_
    refine N_run 2 [(0, yield), (1, .pointer (some cap0A)), (2, .pointer (some cap1A)), (4, .int .i64 (IntKind.wrap .i64 (s4 + 1)))] (fun _=>by kernel_rfl) ?_
    refine T_e ?_
    exact S_round ((IntKind.wrap .i64 (s4 + 1)) : Int) (sb (by kernel_rfl)) h
   ·rw [if_neg c11] at h
    have b12 : (!x_5) = true := congrArg Bool.not (eq_false_of_ne_true c11)
    have b122 : x_5 = false := eq_false_of_ne_true c11
    refine S_env [(0, yield), (1, .pointer (some cap0A)), (2, .pointer (some cap1A)), (4, .int .i64 s4), (13, .bool true)] (by simp only [b12, b122, Bool.not_true, Bool.not_false]) ?_
    clear b12 b122
    refine S_condT (.tmp 13) kk26 kk27 (by kernel_rfl) (by kernel_rfl) ?_
    refine S_ret (by kernel_rfl) ?_
    show At _ _ _ _ _ (Q .ret)
    exact S_done (fn := Try.f47) [] hQ (show ResOK _ _ _ [] _ from .nil) h
  ·rw [if_neg c8] at h
   have b9 : (!x_3) = true := congrArg Bool.not (eq_false_of_ne_true c8)
   have b92 : x_3 = false := eq_false_of_ne_true c8
   refine S_env [(0, yield), (1, .pointer (some cap0A)), (2, .pointer (some cap1A)), (4, .int .i64 s4), (9, .bool true)] (by simp only [b9, b92, Bool.not_true, Bool.not_false]) ?_
   clear b9 b92
   refine S_condT (.tmp 9) kk20 kk21 (by kernel_rfl) (by kernel_rfl) ?_
   refine S_exit 0 (by kernel_rfl) ?_
   refine S_exitThen ?_
   refine S_exitPast (by kernel_rfl) ?_
   refine S_exitThen ?_
   refine S_exitThen ?_
   refine S_exitHere ?_
   refine S_then ?_
   refine S_region 6 (Code.ops kk2) (by kernel_rfl) ?_
   refine N_run 1 [(2, .pointer (some cap1A)), (21, yield)] (fun _=>by kernel_rfl) ?_
   obtain ⟨x_8, q17, h⟩ := h
   refine N_val (some 22) (loadN 31 (.pointer (some cap1A))) (.int .u64 x_8) (fun _=>by kernel_rfl) (loadN_run (loadOK_one (fun _=>by kernel_rfl) q17)) [(21, yield), (22, .int .u64 x_8)] (ps (by kernel_rfl)) ?_
   refine N_callv (some 23) yield #[.int .u64 x_8, .bool true] (fun _=>by kernel_rfl) h ?_; clear h
   rintro v_4 H6 ⟨x_9, rfl, h⟩
   refine ⟨[], ps (by kernel_rfl), ?_⟩
   refine N_end (by kernel_rfl) ?_
   exact S_doneN (fn := Try.f47) [] hQ (show ResOK _ _ _ [] _ from .nil) h
 ·rw [if_neg c4] at h
  have b5 : (decide (s4 < 32768)) = false := decide_eq_false c4
  refine S_env [(0, yield), (1, .pointer cap0), (2, .pointer cap1), (4, .int .i64 s4), (5, .bool false)] (by simp only [b5, Bool.not_true, Bool.not_false]) ?_
  clear b5
  refine S_condF (.tmp 5) kk11 kk12 (by kernel_rfl) (by kernel_rfl) ?_
  refine S_exit 0 (by kernel_rfl) ?_
  refine S_exitThen ?_
  refine S_exitThen ?_
  refine S_exitHere ?_
  refine S_then ?_
  refine S_region 6 (Code.ops kk2) (by kernel_rfl) ?_
  refine N_run 1 [(2, .pointer cap1), (21, yield)] (fun _=>by kernel_rfl) ?_
  obtain ⟨cap1A_2, rfl, h⟩ := h
  obtain ⟨x_10, q18, h⟩ := h
  refine N_val (some 22) (loadN 31 (.pointer (some cap1A_2))) (.int .u64 x_10) (fun _=>by kernel_rfl) (loadN_run (loadOK_one (fun _=>by kernel_rfl) q18)) [(21, yield), (22, .int .u64 x_10)] (ps (by kernel_rfl)) ?_
  refine N_callv (some 23) yield #[.int .u64 x_10, .bool true] (fun _=>by kernel_rfl) h ?_; clear h
  rintro v_5 H7 ⟨x_11, rfl, h⟩
  refine ⟨[], ps (by kernel_rfl), ?_⟩
  refine N_end (by kernel_rfl) ?_
  exact S_doneN (fn := Try.f47) [] hQ (show ResOK _ _ _ [] _ from .nil) h
end lists_pairs_1

/-! (*moraine/lists.judge).equal.1 -/
namespace lists_judge_equal_1
def kk0 := Func.code Try.f52
end lists_judge_equal_1
def lists_judge_equal_1.pt (x : Int) (y : Int) (cap0 : Option Addr) (H : Array Obj) (R : Value → Array Obj → Prop) : Prop :=
 ∃ cap0A : Addr, cap0 = some cap0A ∧
 ∃ xB : Option Addr, ∃ xN : Nat, ∃ xC : Nat, hat H cap0A = some (.slice xB xN xC) ∧
 ∀ (b : Nat) (H1 : Array Obj), b = H.size → H1 = H.push (.cells #[.int .u64 x, .int .u64 y] 108) →
 appendK 2 108 16 [.int .u64 0, .int .u64 0] xB xN xC (some (Addr.mk b 0 none)) 1 H1 (fun ap apC H2 =>
 (CanPuts H2 cap0A 0 1) ∧ ∀ H3 : Array Obj, H3 = hputs H2 cap0A [.slice ap (xN + 1) apC] 0 →
 R (.tuple #[]) H3)
namespace lists_judge_equal_1
set_option maxRecDepth 100000 in
theorem link {x : Int} {y : Int} {cap0 : Option Addr} {H : Array Obj} {R : Value → Array Obj → Prop} (h : pt x y cap0 H R) : C x y cap0 H R := by
 refine S_enter (fn := Try.f52) (c := kk0) 11 Try.func52 (by kernel_rfl) (by kernel_rfl) (Nat.le_of_ble_eq_true (by kernel_rfl)) ?_
 intro w0 Q hQ
 unfold pt at h
 refine S_sub [(0, .int .u64 x), (1, .int .u64 y), (2, .pointer cap0)] (sb (by kernel_rfl)) ?_
 refine S_region 0 (Code.ops kk0) (by kernel_rfl) ?_
 obtain ⟨cap0A, rfl, h⟩ := h
 obtain ⟨xB, xN, xC, q1, h⟩ := h
 refine N_val (some 5) (loadN 109 (.pointer (some cap0A))) (.slice xB xN xC) (fun _=>by kernel_rfl) (loadN_run (loadOK_one (fun _=>by kernel_rfl) q1)) [(0, .int .u64 x), (1, .int .u64 y), (2, .pointer (some cap0A)), (5, .slice xB xN xC)] (ps (by kernel_rfl)) ?_
 refine N_run 3 [(2, .pointer (some cap0A)), (5, .slice xB xN xC), (8, .agg #[.int .u64 x, .int .u64 y])] (fun _=>by kernel_rfl) ?_
 refine N_new (some 9) (fun b => .slice (some (Addr.mk b 0 none)) 1 1) (.cells #[.int .u64 x, .int .u64 y] 108) (fun _=>by kernel_rfl) ?_
 intro b H1 e2 e3
 replace h := h b H1 e2 e3
 refine ⟨[(2, .pointer (some cap0A)), (5, .slice xB xN xC), (9, .slice (some (Addr.mk b 0 none)) 1 1)], ps (by kernel_rfl), ?_⟩
 refine N_op (some 10) (appendN #[109, 109] 109 #[.slice xB xN xC, .slice (some (Addr.mk b 0 none)) 1 1]) _ (fun _=>by kernel_rfl) (ss_append (T := 108) (sz := 2) (bytes := 16) (zero := (.agg #[.int .u64 0, .int .u64 0] : Value)) Try.underlying109 Try.underlying109 rfl (show Try.prog.info? 108 = some Try.t108 from by kernel_rfl) (by kernel_rfl) (by kernel_rfl) (by decide) (by kernel_rfl) (by first | exact h | (simpa only [Value.cells, List.toList_toArray] using h))) ?_; clear h
 rintro _ H2 ⟨ap, apC, rfl, h⟩
 refine ⟨[(2, .pointer (some cap0A)), (10, .slice ap (xN + 1) apC)], ps (by kernel_rfl), ?_⟩
 obtain ⟨q5, h⟩ := h
 refine N_skipop none (storeN 109 (.pointer (some cap0A)) (.slice ap (xN + 1) apC)) (fun Hz => Hz = hputs H2 cap0A [.slice ap (xN + 1) apC] 0) (fun _=>by kernel_rfl) (ss_store [.slice ap (xN + 1) apC] 1 (by kernel_rfl) (by kernel_rfl) (fun _=>by kernel_rfl) (by kernel_rfl) q5) ?_
 intro H3 e4
 replace h := h H3 e4
 refine ⟨[], ps (by kernel_rfl), ?_⟩
 refine N_end (by kernel_rfl) ?_
 exact S_doneN (fn := Try.f52) [] hQ (show ResOK _ _ _ [] _ from .nil) h
end lists_judge_equal_1

/-! (*moraine/lists.judge).words -/
end Go.Proofs.Ythlohokmnajpoaa
