/-
 Written by a program of mine (gen.py): for functions of this translation a predicate transformer over heaps (.pt), and the proof that it is sound for the call (.link).
-/
import Derived.Test.YthlohokmnajpoaaGreatFnsC
set_option linter.unusedSimpArgs false
set_option linter.unusedVariables false
set_option maxHeartbeats 1000000
noncomputable section
namespace Go.Proofs.YthlohokmnajpoaaGreat
open Go
/-! moraine/morainelaw22.awake -/
namespace morainelaw22_awake
def kk0 := Func.code Tryz.f4
def kk1 := Code.fa kk0
def kk2 := Code.fb kk0
def kk3 := Code.fa kk2
def kk4 := Code.fb kk2
def kk5 := Code.fa kk4
def kk6 := Code.fb kk4
def kk7 := Code.fa kk5
def kk8 := Code.fb kk5
def kk9 := Code.fa kk8
def kk10 := Code.fb kk8
def kk11 := Code.fa kk9
def kk12 := Code.fb kk9
def kk13 := Code.fa kk6
def kk14 := Code.fb kk6
def kk15 := Code.fa kk14
def kk16 := Code.fb kk14
def kk17 := Code.fa kk16
def kk18 := Code.fb kk16
def kk19 := Code.fa kk18
def kk20 := Code.fb kk18
def kk21 := Code.fa kk20
def kk22 := Code.fb kk20
def kk23 := Code.fa kk22
def kk24 := Code.fb kk22
def kk25 := Code.fa kk24
def kk26 := Code.fb kk24
def kk27 := Code.fa kk26
def kk28 := Code.fb kk26
end morainelaw22_awake
def morainelaw22_awake.pt  (H : Array Obj) (R : Value → Array Obj → Prop) : Prop :=
 obj_New.C 8 H (fun v H1 => ∃ ra : Option Addr, ∃ rb : Int, v = .tuple #[.pointer ra, .int .i64 rb] ∧ 
 if rb = 0 then (
 onPtr ra (
 R (.bool false) H1) (fun raA =>
 ∀ (b : Nat) (H2 : Array Obj), b = H1.size → H2 = H1.push (.cells #[.int .u64 8, .int .u64 16, .int .u64 24] 26) →
 lists_Apply.C (some raA) 12 (some (Addr.mk b 0 none)) 3 3 H2 (fun v_2 H3 => ∃ ra_2 : Int, ∃ rb_2 : Int, v_2 = .tuple #[.int .u64 ra_2, .int .i64 rb_2] ∧ 
 ∀ (b_2 : Nat) (H4 : Array Obj), b_2 = H3.size → H4 = H3.push (.cells #[.int .u64 ra_2] 26) →
 lists_Apply.C (some raA) 13 (some (Addr.mk b_2 0 none)) 1 1 H4 (fun v_3 H5 => ∃ ra_3 : Int, ∃ rb_3 : Int, v_3 = .tuple #[.int .u64 ra_3, .int .i64 rb_3] ∧ 
 ∀ (b_3 : Nat) (H6 : Array Obj), b_3 = H5.size → H6 = H5.push (.cells #[.int .u64 ra_2] 26) →
 lists_Apply.C (some raA) 4 (some (Addr.mk b_3 0 none)) 1 1 H6 (fun v_4 H7 => ∃ ra_4 : Int, ∃ rb_4 : Int, v_4 = .tuple #[.int .u64 ra_4, .int .i64 rb_4] ∧ 
 ∀ (b_4 : Nat) (H8 : Array Obj), b_4 = H7.size → H8 = H7.push (.cells #[.int .u64 ra_2] 26) →
 lists_Apply.C (some raA) 15 (some (Addr.mk b_4 0 none)) 1 1 H8 (fun v_5 H9 => ∃ ra_5 : Int, ∃ rb_5 : Int, v_5 = .tuple #[.int .u64 ra_5, .int .i64 rb_5] ∧ 
 obj_Heap_Car.C (some raA) ra_5 H9 (fun v_6 H10 => ∃ ra_6 : Int, ∃ rb_6 : Int, v_6 = .tuple #[.int .u64 ra_6, .int .i64 rb_6] ∧ 
 ∀ (b_5 : Nat) (H11 : Array Obj), b_5 = H10.size → H11 = H10.push (.cells #[.int .u64 40] 26) →
 lists_Apply.C (some raA) 1 (some (Addr.mk b_5 0 none)) 1 1 H11 (fun v_7 H12 => ∃ ra_7 : Int, ∃ rb_7 : Int, v_7 = .tuple #[.int .u64 ra_7, .int .i64 rb_7] ∧ 
 ∀ (b_6 : Nat) (H13 : Array Obj), b_6 = H12.size → H13 = H12.push (.cells #[.int .u64 8] 26) →
 lists_Apply.C (some raA) 0 (some (Addr.mk b_6 0 none)) 1 1 H13 (fun v_8 H14 => ∃ ra_8 : Int, ∃ rb_8 : Int, v_8 = .tuple #[.int .u64 ra_8, .int .i64 rb_8] ∧ 
 R (.bool ((((((((((rb_2 == 0) && (ra_3 == 24)) && (rb_3 == 0)) && (ra_4 == 16)) && (rb_4 == 0)) && (rb_5 == 0)) && (ra_6 == 24)) && (rb_6 == 0)) && (rb_7 == 3)) && (rb_8 == 5))) H14)))))))))
 else
 R (.bool false) H1)
namespace morainelaw22_awake
set_option maxRecDepth 100000 in
theorem link  {H : Array Obj} {R : Value → Array Obj → Prop} (h : pt  H R) : C  H R := by
 refine S_enter (fn := Tryz.f4) (c := kk0) 110 Tryz.func4 (by kernel_rfl) (by kernel_rfl) (Nat.le_of_ble_eq_true (by kernel_rfl)) ?_
 intro w0 Q hQ
 unfold pt at h
 refine S_sub [] (sb (by kernel_rfl)) ?_
 refine T_sr 0 kk1 kk2 ?_
 refine N_run 1 [] (fun _=>by kernel_rfl) ?_
 refine T_e ?_
 refine T_sr 1 kk3 kk4 ?_
 refine N_call (some 18) 6 #[.int .i64 8] (fun _=>by kernel_rfl) h ?_; clear h
 rintro v H1 ⟨ra, rb, rfl, h⟩
 refine ⟨[(18, .tuple #[.pointer ra, .int .i64 rb])], ps (by kernel_rfl), ?_⟩
 refine N_run 5 [(1, .pointer ra), (2, .int .i64 rb)] (fun _=>by kernel_rfl) ?_
 refine T_e ?_
 refine S_seq kk5 kk6 (by kernel_rfl) ?_
 refine T_sr 2 kk7 kk8 ?_
 refine N_run 3 [(1, .pointer ra), (23, .bool (rb != 0))] (fun _=>by kernel_rfl) ?_
 by_cases c1 : rb = 0
 ·rw [if_pos c1] at h
  have b2 : (rb != 0) = false := bne_eq_false_iff_eq.mpr c1
  refine N_env [(1, .pointer ra), (23, .bool false)] (by simp only [b2, Bool.not_true, Bool.not_false]) ?_
  clear b2
  refine N_run 1 [(1, .pointer ra), (23, .bool false), (24, .pointer ra)] (fun _=>by kernel_rfl) ?_
  rcases ra with _ | raA
  ·rw [onPtr_none] at h
   refine N_run 2 [(1, .pointer none), (26, .bool true)] (fun _=>by kernel_rfl) ?_
   refine T_e ?_
   refine S_condT (.tmp 26) kk9 kk10 (by kernel_rfl) (by kernel_rfl) ?_
   refine T_sr 3 kk11 kk12 ?_
   refine N_run 1 [(0, .bool false)] (fun _=>by kernel_rfl) ?_
   refine T_e ?_
   refine S_ret (by kernel_rfl) ?_
   show At _ _ _ _ _ (Q .ret)
   exact S_done (fn := Tryz.f4) [.bool false] hQ (show ResOK _ _ _ [.tmp 0] _ from .tmp (by kernel_rfl) (.nil)) h
  ·rw [onPtr_some] at h
   refine N_run 2 [(1, .pointer (some raA)), (26, .bool false)] (fun _=>by kernel_rfl) ?_
   refine T_e ?_
   refine S_condF (.tmp 26) kk9 kk10 (by kernel_rfl) (by kernel_rfl) ?_
   refine S_skip (by kernel_rfl) ?_
   refine S_then ?_
   refine T_sr 4 kk13 kk14 ?_
   refine N_run 1 [(1, .pointer (some raA)), (28, .pointer (some raA))] (fun _=>by kernel_rfl) ?_
   refine N_new (some 29) (fun b => .slice (some (Addr.mk b 0 none)) 3 3) (.cells #[.int .u64 8, .int .u64 16, .int .u64 24] 26) (fun _=>by kernel_rfl) ?_
   intro b H2 e3 e4
   replace h := h b H2 e3 e4
   refine ⟨[(1, .pointer (some raA)), (28, .pointer (some raA)), (29, .slice (some (Addr.mk b 0 none)) 3 3)], ps (by kernel_rfl), ?_⟩
   refine N_call (some 30) 5 #[.pointer (some raA), .int .i64 12, .slice (some (Addr.mk b 0 none)) 3 3] (fun _=>by kernel_rfl) h ?_; clear h
   rintro v_2 H3 ⟨ra_2, rb_2, rfl, h⟩
   refine ⟨[(1, .pointer (some raA)), (30, .tuple #[.int .u64 ra_2, .int .i64 rb_2])], ps (by kernel_rfl), ?_⟩
   refine N_run 5 [(1, .pointer (some raA)), (3, .int .u64 ra_2), (4, .int .i64 rb_2)] (fun _=>by kernel_rfl) ?_
   refine T_e ?_
   refine T_sr 5 kk15 kk16 ?_
   refine N_run 2 [(1, .pointer (some raA)), (3, .int .u64 ra_2), (4, .int .i64 rb_2), (34, .pointer (some raA)), (35, .int .u64 ra_2)] (fun _=>by kernel_rfl) ?_
   refine N_new (some 36) (fun b => .slice (some (Addr.mk b 0 none)) 1 1) (.cells #[.int .u64 ra_2] 26) (fun _=>by kernel_rfl) ?_
   intro b_2 H4 e5 e6
   replace h := h b_2 H4 e5 e6
   refine ⟨[(1, .pointer (some raA)), (3, .int .u64 ra_2), (4, .int .i64 rb_2), (34, .pointer (some raA)), (36, .slice (some (Addr.mk b_2 0 none)) 1 1)], ps (by kernel_rfl), ?_⟩
   refine N_call (some 37) 5 #[.pointer (some raA), .int .i64 13, .slice (some (Addr.mk b_2 0 none)) 1 1] (fun _=>by kernel_rfl) h ?_; clear h
   rintro v_3 H5 ⟨ra_3, rb_3, rfl, h⟩
   refine ⟨[(1, .pointer (some raA)), (3, .int .u64 ra_2), (4, .int .i64 rb_2), (37, .tuple #[.int .u64 ra_3, .int .i64 rb_3])], ps (by kernel_rfl), ?_⟩
   refine N_run 5 [(1, .pointer (some raA)), (3, .int .u64 ra_2), (4, .int .i64 rb_2), (5, .int .u64 ra_3), (6, .int .i64 rb_3)] (fun _=>by kernel_rfl) ?_
   refine T_e ?_
   refine T_sr 6 kk17 kk18 ?_
   refine N_run 2 [(1, .pointer (some raA)), (3, .int .u64 ra_2), (4, .int .i64 rb_2), (5, .int .u64 ra_3), (6, .int .i64 rb_3), (41, .pointer (some raA)), (42, .int .u64 ra_2)] (fun _=>by kernel_rfl) ?_
   refine N_new (some 43) (fun b => .slice (some (Addr.mk b 0 none)) 1 1) (.cells #[.int .u64 ra_2] 26) (fun _=>by kernel_rfl) ?_
   intro b_3 H6 e7 e8
   replace h := h b_3 H6 e7 e8
   refine ⟨[(1, .pointer (some raA)), (3, .int .u64 ra_2), (4, .int .i64 rb_2), (5, .int .u64 ra_3), (6, .int .i64 rb_3), (41, .pointer (some raA)), (43, .slice (some (Addr.mk b_3 0 none)) 1 1)], ps (by kernel_rfl), ?_⟩
   refine N_call (some 44) 5 #[.pointer (some raA), .int .i64 4, .slice (some (Addr.mk b_3 0 none)) 1 1] (fun _=>by kernel_rfl) h ?_; clear h
   rintro v_4 H7 ⟨ra_4, rb_4, rfl, h⟩
   refine ⟨[(1, .pointer (some raA)), (3, .int .u64 ra_2), (4, .int .i64 rb_2), (5, .int .u64 ra_3), (6, .int .i64 rb_3), (44, .tuple #[.int .u64 ra_4, .int .i64 rb_4])], ps (by kernel_rfl), ?_⟩
   refine N_run 5 [(1, .pointer (some raA)), (3, .int .u64 ra_2), (4, .int .i64 rb_2), (5, .int .u64 ra_3), (6, .int .i64 rb_3), (7, .int .u64 ra_4), (8, .int .i64 rb_4)] (fun _=>by kernel_rfl) ?_
   refine T_e ?_
   refine T_sr 7 kk19 kk20 ?_
   refine N_run 2 [(1, .pointer (some raA)), (4, .int .i64 rb_2), (5, .int .u64 ra_3), (6, .int .i64 rb_3), (7, .int .u64 ra_4), (8, .int .i64 rb_4), (48, .pointer (some raA)), (49, .int .u64 ra_2)] (fun _=>by kernel_rfl) ?_
   refine N_new (some 50) (fun b => .slice (some (Addr.mk b 0 none)) 1 1) (.cells #[.int .u64 ra_2] 26) (fun _=>by kernel_rfl) ?_
   intro b_4 H8 e9 e10
   replace h := h b_4 H8 e9 e10
   refine ⟨[(1, .pointer (some raA)), (4, .int .i64 rb_2), (5, .int .u64 ra_3), (6, .int .i64 rb_3), (7, .int .u64 ra_4), (8, .int .i64 rb_4), (48, .pointer (some raA)), (50, .slice (some (Addr.mk b_4 0 none)) 1 1)], ps (by kernel_rfl), ?_⟩
   refine N_call (some 51) 5 #[.pointer (some raA), .int .i64 15, .slice (some (Addr.mk b_4 0 none)) 1 1] (fun _=>by kernel_rfl) h ?_; clear h
   rintro v_5 H9 ⟨ra_5, rb_5, rfl, h⟩
   refine ⟨[(1, .pointer (some raA)), (4, .int .i64 rb_2), (5, .int .u64 ra_3), (6, .int .i64 rb_3), (7, .int .u64 ra_4), (8, .int .i64 rb_4), (51, .tuple #[.int .u64 ra_5, .int .i64 rb_5])], ps (by kernel_rfl), ?_⟩
   refine N_run 5 [(1, .pointer (some raA)), (4, .int .i64 rb_2), (5, .int .u64 ra_3), (6, .int .i64 rb_3), (7, .int .u64 ra_4), (8, .int .i64 rb_4), (9, .int .u64 ra_5), (10, .int .i64 rb_5)] (fun _=>by kernel_rfl) ?_
   refine T_e ?_
   refine T_sr 8 kk21 kk22 ?_
   refine N_run 2 [(1, .pointer (some raA)), (4, .int .i64 rb_2), (5, .int .u64 ra_3), (6, .int .i64 rb_3), (7, .int .u64 ra_4), (8, .int .i64 rb_4), (10, .int .i64 rb_5), (55, .pointer (some raA)), (56, .int .u64 ra_5)] (fun _=>by kernel_rfl) ?_
   refine N_call (some 57) 9 #[.pointer (some raA), .int .u64 ra_5] (fun _=>by kernel_rfl) h ?_; clear h
   rintro v_6 H10 ⟨ra_6, rb_6, rfl, h⟩
   refine ⟨[(1, .pointer (some raA)), (4, .int .i64 rb_2), (5, .int .u64 ra_3), (6, .int .i64 rb_3), (7, .int .u64 ra_4), (8, .int .i64 rb_4), (10, .int .i64 rb_5), (57, .tuple #[.int .u64 ra_6, .int .i64 rb_6])], ps (by kernel_rfl), ?_⟩
   refine N_run 5 [(1, .pointer (some raA)), (4, .int .i64 rb_2), (5, .int .u64 ra_3), (6, .int .i64 rb_3), (7, .int .u64 ra_4), (8, .int .i64 rb_4), (10, .int .i64 rb_5), (11, .int .u64 ra_6), (12, .int .i64 rb_6)] (fun _=>by kernel_rfl) ?_
   refine T_e ?_
   refine T_sr 9 kk23 kk24 ?_
   refine N_run 1 [(1, .pointer (some raA)), (4, .int .i64 rb_2), (5, .int .u64 ra_3), (6, .int .i64 rb_3), (7, .int .u64 ra_4), (8, .int .i64 rb_4), (10, .int .i64 rb_5), (11, .int .u64 ra_6), (12, .int .i64 rb_6), (61, .pointer (some raA))] (fun _=>by kernel_rfl) ?_
   refine N_new (some 62) (fun b => .slice (some (Addr.mk b 0 none)) 1 1) (.cells #[.int .u64 40] 26) (fun _=>by kernel_rfl) ?_
   intro b_5 H11 e11 e12
   replace h := h b_5 H11 e11 e12
   refine ⟨[(1, .pointer (some raA)), (4, .int .i64 rb_2), (5, .int .u64 ra_3), (6, .int .i64 rb_3), (7, .int .u64 ra_4), (8, .int .i64 rb_4), (10, .int .i64 rb_5), (11, .int .u64 ra_6), (12, .int .i64 rb_6), (61, .pointer (some raA)), (62, .slice (some (Addr.mk b_5 0 none)) 1 1)], ps (by kernel_rfl), ?_⟩
   refine N_call (some 63) 5 #[.pointer (some raA), .int .i64 1, .slice (some (Addr.mk b_5 0 none)) 1 1] (fun _=>by kernel_rfl) h ?_; clear h
   rintro v_7 H12 ⟨ra_7, rb_7, rfl, h⟩
   refine ⟨[(1, .pointer (some raA)), (4, .int .i64 rb_2), (5, .int .u64 ra_3), (6, .int .i64 rb_3), (7, .int .u64 ra_4), (8, .int .i64 rb_4), (10, .int .i64 rb_5), (11, .int .u64 ra_6), (12, .int .i64 rb_6), (63, .tuple #[.int .u64 ra_7, .int .i64 rb_7])], ps (by kernel_rfl), ?_⟩
   refine N_run 5 [(1, .pointer (some raA)), (4, .int .i64 rb_2), (5, .int .u64 ra_3), (6, .int .i64 rb_3), (7, .int .u64 ra_4), (8, .int .i64 rb_4), (10, .int .i64 rb_5), (11, .int .u64 ra_6), (12, .int .i64 rb_6), (14, .int .i64 rb_7)] (fun _=>by kernel_rfl) ?_
   refine T_e ?_
   refine T_sr 10 kk25 kk26 ?_
   refine N_run 1 [(4, .int .i64 rb_2), (5, .int .u64 ra_3), (6, .int .i64 rb_3), (7, .int .u64 ra_4), (8, .int .i64 rb_4), (10, .int .i64 rb_5), (11, .int .u64 ra_6), (12, .int .i64 rb_6), (14, .int .i64 rb_7), (67, .pointer (some raA))] (fun _=>by kernel_rfl) ?_
   refine N_new (some 68) (fun b => .slice (some (Addr.mk b 0 none)) 1 1) (.cells #[.int .u64 8] 26) (fun _=>by kernel_rfl) ?_
   intro b_6 H13 e13 e14
   replace h := h b_6 H13 e13 e14
   refine ⟨[(4, .int .i64 rb_2), (5, .int .u64 ra_3), (6, .int .i64 rb_3), (7, .int .u64 ra_4), (8, .int .i64 rb_4), (10, .int .i64 rb_5), (11, .int .u64 ra_6), (12, .int .i64 rb_6), (14, .int .i64 rb_7), (67, .pointer (some raA)), (68, .slice (some (Addr.mk b_6 0 none)) 1 1)], ps (by kernel_rfl), ?_⟩
   refine N_call (some 69) 5 #[.pointer (some raA), .int .i64 0, .slice (some (Addr.mk b_6 0 none)) 1 1] (fun _=>by kernel_rfl) h ?_; clear h
   rintro v_8 H14 ⟨ra_8, rb_8, rfl, h⟩
   refine ⟨[(4, .int .i64 rb_2), (5, .int .u64 ra_3), (6, .int .i64 rb_3), (7, .int .u64 ra_4), (8, .int .i64 rb_4), (10, .int .i64 rb_5), (11, .int .u64 ra_6), (12, .int .i64 rb_6), (14, .int .i64 rb_7), (69, .tuple #[.int .u64 ra_8, .int .i64 rb_8])], ps (by kernel_rfl), ?_⟩
   refine N_run 5 [(4, .int .i64 rb_2), (5, .int .u64 ra_3), (6, .int .i64 rb_3), (7, .int .u64 ra_4), (8, .int .i64 rb_4), (10, .int .i64 rb_5), (11, .int .u64 ra_6), (12, .int .i64 rb_6), (14, .int .i64 rb_7), (16, .int .i64 rb_8)] (fun _=>by kernel_rfl) ?_
   refine T_e ?_
   refine T_sr 11 kk27 kk28 ?_
   refine N_cut [(0, .bool ((((((((((rb_2 == 0) && (ra_3 == 24)) && (rb_3 == 0)) && (ra_4 == 16)) && (rb_4 == 0)) && (rb_5 == 0)) && (ra_6 == 24)) && (rb_6 == 0)) && (rb_7 == 3)) && (rb_8 == 5)))] ?_ ?_
   ·refine S_then ?_
    refine S_ret (by kernel_rfl) ?_
    show At _ _ _ _ _ (Q .ret)
    exact S_done (fn := Tryz.f4) [.bool ((((((((((rb_2 == 0) && (ra_3 == 24)) && (rb_3 == 0)) && (ra_4 == 16)) && (rb_4 == 0)) && (rb_5 == 0)) && (ra_6 == 24)) && (rb_6 == 0)) && (rb_7 == 3)) && (rb_8 == 5))] hQ (show ResOK _ _ _ [.tmp 0] _ from .tmp (by kernel_rfl) (.nil)) h
   ·intro hk
    refine N_run 3 [(5, .int .u64 ra_3), (6, .int .i64 rb_3), (7, .int .u64 ra_4), (8, .int .i64 rb_4), (10, .int .i64 rb_5), (11, .int .u64 ra_6), (12, .int .i64 rb_6), (14, .int .i64 rb_7), (16, .int .i64 rb_8), (74, .bool (rb_2 == 0))] (fun _=>by kernel_rfl) ?_
    by_cases c15 : rb_2 = 0
    ·have b16 : (rb_2 == 0) = true := beq_iff_eq.mpr c15
     refine N_env [(5, .int .u64 ra_3), (6, .int .i64 rb_3), (7, .int .u64 ra_4), (8, .int .i64 rb_4), (10, .int .i64 rb_5), (11, .int .u64 ra_6), (12, .int .i64 rb_6), (14, .int .i64 rb_7), (16, .int .i64 rb_8), (74, .bool true)] (by simp only [b16, Bool.not_true, Bool.not_false]) ?_
     refine N_run 4 [(6, .int .i64 rb_3), (7, .int .u64 ra_4), (8, .int .i64 rb_4), (10, .int .i64 rb_5), (11, .int .u64 ra_6), (12, .int .i64 rb_6), (14, .int .i64 rb_7), (16, .int .i64 rb_8), (78, .bool (ra_3 == 24))] (fun _=>by kernel_rfl) ?_
     by_cases c17 : ra_3 = 24
     ·have b18 : (ra_3 == 24) = true := beq_iff_eq.mpr c17
      refine N_env [(6, .int .i64 rb_3), (7, .int .u64 ra_4), (8, .int .i64 rb_4), (10, .int .i64 rb_5), (11, .int .u64 ra_6), (12, .int .i64 rb_6), (14, .int .i64 rb_7), (16, .int .i64 rb_8), (78, .bool true)] (by simp only [b18, Bool.not_true, Bool.not_false]) ?_
      refine N_run 4 [(7, .int .u64 ra_4), (8, .int .i64 rb_4), (10, .int .i64 rb_5), (11, .int .u64 ra_6), (12, .int .i64 rb_6), (14, .int .i64 rb_7), (16, .int .i64 rb_8), (82, .bool (rb_3 == 0))] (fun _=>by kernel_rfl) ?_
      by_cases c19 : rb_3 = 0
      ·have b20 : (rb_3 == 0) = true := beq_iff_eq.mpr c19
       refine N_env [(7, .int .u64 ra_4), (8, .int .i64 rb_4), (10, .int .i64 rb_5), (11, .int .u64 ra_6), (12, .int .i64 rb_6), (14, .int .i64 rb_7), (16, .int .i64 rb_8), (82, .bool true)] (by simp only [b20, Bool.not_true, Bool.not_false]) ?_
       refine N_run 4 [(8, .int .i64 rb_4), (10, .int .i64 rb_5), (11, .int .u64 ra_6), (12, .int .i64 rb_6), (14, .int .i64 rb_7), (16, .int .i64 rb_8), (86, .bool (ra_4 == 16))] (fun _=>by kernel_rfl) ?_
       by_cases c21 : ra_4 = 16
       ·have b22 : (ra_4 == 16) = true := beq_iff_eq.mpr c21
        refine N_env [(8, .int .i64 rb_4), (10, .int .i64 rb_5), (11, .int .u64 ra_6), (12, .int .i64 rb_6), (14, .int .i64 rb_7), (16, .int .i64 rb_8), (86, .bool true)] (by simp only [b22, Bool.not_true, Bool.not_false]) ?_
        refine N_run 4 [(10, .int .i64 rb_5), (11, .int .u64 ra_6), (12, .int .i64 rb_6), (14, .int .i64 rb_7), (16, .int .i64 rb_8), (90, .bool (rb_4 == 0))] (fun _=>by kernel_rfl) ?_
        by_cases c23 : rb_4 = 0
        ·have b24 : (rb_4 == 0) = true := beq_iff_eq.mpr c23
         refine N_env [(10, .int .i64 rb_5), (11, .int .u64 ra_6), (12, .int .i64 rb_6), (14, .int .i64 rb_7), (16, .int .i64 rb_8), (90, .bool true)] (by simp only [b24, Bool.not_true, Bool.not_false]) ?_
         refine N_run 4 [(11, .int .u64 ra_6), (12, .int .i64 rb_6), (14, .int .i64 rb_7), (16, .int .i64 rb_8), (94, .bool (rb_5 == 0))] (fun _=>by kernel_rfl) ?_
         by_cases c25 : rb_5 = 0
         ·have b26 : (rb_5 == 0) = true := beq_iff_eq.mpr c25
          refine N_env [(11, .int .u64 ra_6), (12, .int .i64 rb_6), (14, .int .i64 rb_7), (16, .int .i64 rb_8), (94, .bool true)] (by simp only [b26, Bool.not_true, Bool.not_false]) ?_
          refine N_run 4 [(12, .int .i64 rb_6), (14, .int .i64 rb_7), (16, .int .i64 rb_8), (98, .bool (ra_6 == 24))] (fun _=>by kernel_rfl) ?_
          by_cases c27 : ra_6 = 24
          ·have b28 : (ra_6 == 24) = true := beq_iff_eq.mpr c27
           refine N_env [(12, .int .i64 rb_6), (14, .int .i64 rb_7), (16, .int .i64 rb_8), (98, .bool true)] (by simp only [b28, Bool.not_true, Bool.not_false]) ?_
           refine N_run 4 [(14, .int .i64 rb_7), (16, .int .i64 rb_8), (102, .bool (rb_6 == 0))] (fun _=>by kernel_rfl) ?_
           by_cases c29 : rb_6 = 0
           ·have b30 : (rb_6 == 0) = true := beq_iff_eq.mpr c29
            refine N_env [(14, .int .i64 rb_7), (16, .int .i64 rb_8), (102, .bool true)] (by simp only [b30, Bool.not_true, Bool.not_false]) ?_
            refine N_run 4 [(16, .int .i64 rb_8), (106, .bool (rb_7 == 3))] (fun _=>by kernel_rfl) ?_
            by_cases c31 : rb_7 = 3
            ·have b32 : (rb_7 == 3) = true := beq_iff_eq.mpr c31
             refine N_env [(16, .int .i64 rb_8), (106, .bool true)] (by simp only [b32, Bool.not_true, Bool.not_false]) ?_
             refine N_run 4 [(0, .bool (rb_8 == 5))] (fun _=>by kernel_rfl) ?_
             refine N_end (by kernel_rfl) ?_
             refine S_env [(0, .bool ((((((((((rb_2 == 0) && (ra_3 == 24)) && (rb_3 == 0)) && (ra_4 == 16)) && (rb_4 == 0)) && (rb_5 == 0)) && (ra_6 == 24)) && (rb_6 == 0)) && (rb_7 == 3)) && (rb_8 == 5)))] (by simp only [b16, b18, b20, b22, b24, b26, b28, b30, b32, Bool.true_or, Bool.false_or, Bool.or_true, Bool.or_false, Bool.true_and, Bool.false_and, Bool.and_true, Bool.and_false, Bool.not_true, Bool.not_false, cond_true, cond_false]) ?_
             exact hk
            ·have b32 : (rb_7 == 3) = false := beq_eq_false_iff_ne.mpr c31
             refine N_env [(16, .int .i64 rb_8), (106, .bool false)] (by simp only [b32, Bool.not_true, Bool.not_false]) ?_
             refine N_run 4 [(0, .bool false)] (fun _=>by kernel_rfl) ?_
             refine N_end (by kernel_rfl) ?_
             refine S_env [(0, .bool ((((((((((rb_2 == 0) && (ra_3 == 24)) && (rb_3 == 0)) && (ra_4 == 16)) && (rb_4 == 0)) && (rb_5 == 0)) && (ra_6 == 24)) && (rb_6 == 0)) && (rb_7 == 3)) && (rb_8 == 5)))] (by simp only [b16, b18, b20, b22, b24, b26, b28, b30, b32, Bool.true_or, Bool.false_or, Bool.or_true, Bool.or_false, Bool.true_and, Bool.false_and, Bool.and_true, Bool.and_false, Bool.not_true, Bool.not_false, cond_true, cond_false]) ?_
             exact hk
           ·have b30 : (rb_6 == 0) = false := beq_eq_false_iff_ne.mpr c29
            refine N_env [(14, .int .i64 rb_7), (16, .int .i64 rb_8), (102, .bool false)] (by simp only [b30, Bool.not_true, Bool.not_false]) ?_
            refine N_run 8 [(0, .bool false)] (fun _=>by kernel_rfl) ?_
            refine N_end (by kernel_rfl) ?_
            refine S_env [(0, .bool ((((((((((rb_2 == 0) && (ra_3 == 24)) && (rb_3 == 0)) && (ra_4 == 16)) && (rb_4 == 0)) && (rb_5 == 0)) && (ra_6 == 24)) && (rb_6 == 0)) && (rb_7 == 3)) && (rb_8 == 5)))] (by simp only [b16, b18, b20, b22, b24, b26, b28, b30, Bool.true_or, Bool.false_or, Bool.or_true, Bool.or_false, Bool.true_and, Bool.false_and, Bool.and_true, Bool.and_false, Bool.not_true, Bool.not_false, cond_true, cond_false]) ?_
            exact hk
          ·have b28 : (ra_6 == 24) = false := beq_eq_false_iff_ne.mpr c27
           refine N_env [(12, .int .i64 rb_6), (14, .int .i64 rb_7), (16, .int .i64 rb_8), (98, .bool false)] (by simp only [b28, Bool.not_true, Bool.not_false]) ?_
           refine N_run 12 [(0, .bool false)] (fun _=>by kernel_rfl) ?_
           refine N_end (by kernel_rfl) ?_
           refine S_env [(0, .bool ((((((((((rb_2 == 0) && (ra_3 == 24)) && (rb_3 == 0)) && (ra_4 == 16)) && (rb_4 == 0)) && (rb_5 == 0)) && (ra_6 == 24)) && (rb_6 == 0)) && (rb_7 == 3)) && (rb_8 == 5)))] (by simp only [b16, b18, b20, b22, b24, b26, b28, Bool.true_or, Bool.false_or, Bool.or_true, Bool.or_false, Bool.true_and, Bool.false_and, Bool.and_true, Bool.and_false, Bool.not_true, Bool.not_false, cond_true, cond_false]) ?_
           exact hk
         ·have b26 : (rb_5 == 0) = false := beq_eq_false_iff_ne.mpr c25
          refine N_env [(11, .int .u64 ra_6), (12, .int .i64 rb_6), (14, .int .i64 rb_7), (16, .int .i64 rb_8), (94, .bool false)] (by simp only [b26, Bool.not_true, Bool.not_false]) ?_
          refine N_run 16 [(0, .bool false)] (fun _=>by kernel_rfl) ?_
          refine N_end (by kernel_rfl) ?_
          refine S_env [(0, .bool ((((((((((rb_2 == 0) && (ra_3 == 24)) && (rb_3 == 0)) && (ra_4 == 16)) && (rb_4 == 0)) && (rb_5 == 0)) && (ra_6 == 24)) && (rb_6 == 0)) && (rb_7 == 3)) && (rb_8 == 5)))] (by simp only [b16, b18, b20, b22, b24, b26, Bool.true_or, Bool.false_or, Bool.or_true, Bool.or_false, Bool.true_and, Bool.false_and, Bool.and_true, Bool.and_false, Bool.not_true, Bool.not_false, cond_true, cond_false]) ?_
          exact hk
        ·have b24 : (rb_4 == 0) = false := beq_eq_false_iff_ne.mpr c23
         refine N_env [(10, .int .i64 rb_5), (11, .int .u64 ra_6), (12, .int .i64 rb_6), (14, .int .i64 rb_7), (16, .int .i64 rb_8), (90, .bool false)] (by simp only [b24, Bool.not_true, Bool.not_false]) ?_
         refine N_run 20 [(0, .bool false)] (fun _=>by kernel_rfl) ?_
         refine N_end (by kernel_rfl) ?_
         refine S_env [(0, .bool ((((((((((rb_2 == 0) && (ra_3 == 24)) && (rb_3 == 0)) && (ra_4 == 16)) && (rb_4 == 0)) && (rb_5 == 0)) && (ra_6 == 24)) && (rb_6 == 0)) && (rb_7 == 3)) && (rb_8 == 5)))] (by simp only [b16, b18, b20, b22, b24, Bool.true_or, Bool.false_or, Bool.or_true, Bool.or_false, Bool.true_and, Bool.false_and, Bool.and_true, Bool.and_false, Bool.not_true, Bool.not_false, cond_true, cond_false]) ?_
         exact hk
       ·have b22 : (ra_4 == 16) = false := beq_eq_false_iff_ne.mpr c21
        refine N_env [(8, .int .i64 rb_4), (10, .int .i64 rb_5), (11, .int .u64 ra_6), (12, .int .i64 rb_6), (14, .int .i64 rb_7), (16, .int .i64 rb_8), (86, .bool false)] (by simp only [b22, Bool.not_true, Bool.not_false]) ?_
        refine N_run 24 [(0, .bool false)] (fun _=>by kernel_rfl) ?_
        refine N_end (by kernel_rfl) ?_
        refine S_env [(0, .bool ((((((((((rb_2 == 0) && (ra_3 == 24)) && (rb_3 == 0)) && (ra_4 == 16)) && (rb_4 == 0)) && (rb_5 == 0)) && (ra_6 == 24)) && (rb_6 == 0)) && (rb_7 == 3)) && (rb_8 == 5)))] (by simp only [b16, b18, b20, b22, Bool.true_or, Bool.false_or, Bool.or_true, Bool.or_false, Bool.true_and, Bool.false_and, Bool.and_true, Bool.and_false, Bool.not_true, Bool.not_false, cond_true, cond_false]) ?_
        exact hk
      ·have b20 : (rb_3 == 0) = false := beq_eq_false_iff_ne.mpr c19
       refine N_env [(7, .int .u64 ra_4), (8, .int .i64 rb_4), (10, .int .i64 rb_5), (11, .int .u64 ra_6), (12, .int .i64 rb_6), (14, .int .i64 rb_7), (16, .int .i64 rb_8), (82, .bool false)] (by simp only [b20, Bool.not_true, Bool.not_false]) ?_
       refine N_run 28 [(0, .bool false)] (fun _=>by kernel_rfl) ?_
       refine N_end (by kernel_rfl) ?_
       refine S_env [(0, .bool ((((((((((rb_2 == 0) && (ra_3 == 24)) && (rb_3 == 0)) && (ra_4 == 16)) && (rb_4 == 0)) && (rb_5 == 0)) && (ra_6 == 24)) && (rb_6 == 0)) && (rb_7 == 3)) && (rb_8 == 5)))] (by simp only [b16, b18, b20, Bool.true_or, Bool.false_or, Bool.or_true, Bool.or_false, Bool.true_and, Bool.false_and, Bool.and_true, Bool.and_false, Bool.not_true, Bool.not_false, cond_true, cond_false]) ?_
       exact hk
     ·have b18 : (ra_3 == 24) = false := beq_eq_false_iff_ne.mpr c17
      refine N_env [(6, .int .i64 rb_3), (7, .int .u64 ra_4), (8, .int .i64 rb_4), (10, .int .i64 rb_5), (11, .int .u64 ra_6), (12, .int .i64 rb_6), (14, .int .i64 rb_7), (16, .int .i64 rb_8), (78, .bool false)] (by simp only [b18, Bool.not_true, Bool.not_false]) ?_
      refine N_run 32 [(0, .bool false)] (fun _=>by kernel_rfl) ?_
      refine N_end (by kernel_rfl) ?_
      refine S_env [(0, .bool ((((((((((rb_2 == 0) && (ra_3 == 24)) && (rb_3 == 0)) && (ra_4 == 16)) && (rb_4 == 0)) && (rb_5 == 0)) && (ra_6 == 24)) && (rb_6 == 0)) && (rb_7 == 3)) && (rb_8 == 5)))] (by simp only [b16, b18, Bool.true_or, Bool.false_or, Bool.or_true, Bool.or_false, Bool.true_and, Bool.false_and, Bool.and_true, Bool.and_false, Bool.not_true, Bool.not_false, cond_true, cond_false]) ?_
      exact hk
    ·have b16 : (rb_2 == 0) = false := beq_eq_false_iff_ne.mpr c15
     refine N_env [(5, .int .u64 ra_3), (6, .int .i64 rb_3), (7, .int .u64 ra_4), (8, .int .i64 rb_4), (10, .int .i64 rb_5), (11, .int .u64 ra_6), (12, .int .i64 rb_6), (14, .int .i64 rb_7), (16, .int .i64 rb_8), (74, .bool false)] (by simp only [b16, Bool.not_true, Bool.not_false]) ?_
     refine N_run 36 [(0, .bool false)] (fun _=>by kernel_rfl) ?_
     refine N_end (by kernel_rfl) ?_
     refine S_env [(0, .bool ((((((((((rb_2 == 0) && (ra_3 == 24)) && (rb_3 == 0)) && (ra_4 == 16)) && (rb_4 == 0)) && (rb_5 == 0)) && (ra_6 == 24)) && (rb_6 == 0)) && (rb_7 == 3)) && (rb_8 == 5)))] (by simp only [b16, Bool.true_or, Bool.false_or, Bool.or_true, Bool.or_false, Bool.true_and, Bool.false_and, Bool.and_true, Bool.and_false, Bool.not_true, Bool.not_false, cond_true, cond_false]) ?_
     exact hk
 ·rw [if_neg c1] at h
  have b2 : (rb != 0) = true := bne_iff_ne.mpr c1
  refine N_env [(1, .pointer ra), (23, .bool true)] (by simp only [b2, Bool.not_true, Bool.not_false]) ?_
  clear b2
  refine N_run 3 [(1, .pointer ra), (26, .bool true)] (fun _=>by kernel_rfl) ?_
  refine T_e ?_
  refine S_condT (.tmp 26) kk9 kk10 (by kernel_rfl) (by kernel_rfl) ?_
  refine T_sr 3 kk11 kk12 ?_
  refine N_run 1 [(0, .bool false)] (fun _=>by kernel_rfl) ?_
  refine T_e ?_
  refine S_ret (by kernel_rfl) ?_
  show At _ _ _ _ _ (Q .ret)
  exact S_done (fn := Tryz.f4) [.bool false] hQ (show ResOK _ _ _ [.tmp 0] _ from .tmp (by kernel_rfl) (.nil)) h
end morainelaw22_awake

end Go.Proofs.YthlohokmnajpoaaGreat
