/-
  Written by a program of mine (gen.py): for functions of this translation a predicate transformer over heaps (.pt), and the proof that it is sound for the call (.link).
-/
import Derived.Test.YtfohlkiikppefaaFnsC
set_option linter.unusedSimpArgs false
set_option linter.unusedVariables false
set_option maxHeartbeats 1000000
noncomputable section
namespace Go.Proofs.Ytfohlkiikppefaa
open Go
/-! moraine/morainelaw10.awake -/
namespace morainelaw10_awake
def kk0 := Func.code Try.f24
def kk1 := Code.fa kk0
def kk2 := Code.fb kk0
def kk3 := Code.fa kk2
def kk4 := Code.fb kk2
def kk5 := Code.fa kk4
def kk6 := Code.fb kk4
def kk7 := Code.fa kk5
def kk8 := Code.fb kk5
def kk9 := Code.fa kk8
def kk10 := Code.fb kk8
def kk11 := Code.fa kk9
def kk12 := Code.fb kk9
def kk13 := Code.fa kk6
def kk14 := Code.fb kk6
def kk15 := Code.fa kk14
def kk16 := Code.fb kk14
def kk17 := Code.fa kk16
def kk18 := Code.fb kk16
def kk19 := Code.fa kk18
def kk20 := Code.fb kk18
def kk21 := Code.fa kk20
def kk22 := Code.fb kk20
def kk23 := Code.fa kk22
def kk24 := Code.fb kk22
def kk25 := Code.fa kk24
def kk26 := Code.fb kk24
def kk27 := Code.fa kk26
def kk28 := Code.fb kk26
def kk29 := Code.fa kk28
def kk30 := Code.fb kk28
end morainelaw10_awake
def morainelaw10_awake.pt  (H : Array Obj) (R : Value → Array Obj → Prop) : Prop :=
 obj_New.C 8 H (fun v H1 => ∃ ra : Option Addr, ∃ rb : Int, v = .tuple #[.pointer ra, .int .i64 rb] ∧ 
  if rb = 0 then (
   onPtr ra (
    R (.bool false) H1) (fun raA =>
    obj_Heap_Cons.C (some raA) 8 20 H1 (fun v_2 H2 => ∃ ra_2 : Int, ∃ rb_2 : Int, v_2 = .tuple #[.int .u64 ra_2, .int .i64 rb_2] ∧ 
     obj_Heap_Car.C (some raA) ra_2 H2 (fun v_3 H3 => ∃ ra_3 : Int, ∃ rb_3 : Int, v_3 = .tuple #[.int .u64 ra_3, .int .i64 rb_3] ∧ 
      obj_Heap_Cdr.C (some raA) ra_2 H3 (fun v_4 H4 => ∃ ra_4 : Int, ∃ rb_4 : Int, v_4 = .tuple #[.int .u64 ra_4, .int .i64 rb_4] ∧ 
       obj_Heap_Vector.C (some raA) 3 12 H4 (fun v_5 H5 => ∃ ra_5 : Int, ∃ rb_5 : Int, v_5 = .tuple #[.int .u64 ra_5, .int .i64 rb_5] ∧ 
        obj_Heap_Get.C (some raA) ra_5 1 2 H5 (fun v_6 H6 => ∃ ra_6 : Int, ∃ rb_6 : Int, v_6 = .tuple #[.int .u64 ra_6, .int .i64 rb_6] ∧ 
         obj_Heap_Get.C (some raA) ra_5 1 3 H6 (fun v_7 H7 => ∃ ra_7 : Int, ∃ rb_7 : Int, v_7 = .tuple #[.int .u64 ra_7, .int .i64 rb_7] ∧ 
          obj_Heap_String.C (some raA) (ByteArray.mk #[97, 195, 177]) H7 (fun v_8 H8 => ∃ ra_8 : Int, ∃ rb_8 : Int, v_8 = .tuple #[.int .u64 ra_8, .int .i64 rb_8] ∧ 
           obj_Heap_Text.C (some raA) ra_8 H8 (fun v_9 H9 => ∃ ra_9 : ByteArray, ∃ rb_9 : Int, v_9 = .tuple #[.string ra_9, .int .i64 rb_9] ∧ 
            if ra_2 = 1 then (
             if rb_2 = 0 then (
              if ra_3 = 8 then (
               if rb_3 = 0 then (
                if ra_4 = 20 then (
                 if rb_4 = 0 then (
                  if rb_5 = 0 then (
                   if ra_6 = 12 then (
                    if rb_6 = 0 then (
                     if rb_7 = 4 then (
                      if rb_8 = 0 then (
                       if ra_9.toList = (ByteArray.mk #[97, 195, 177]).toList then (
                        if rb_9 = 0 then (
                         obj_Heap_Len.C (some raA) ra_8 H9 (fun v_10 H10 => ∃ x : Int, v_10 = .int .i64 x ∧ 
                          R (.bool (x == 2)) H10))
                        else
                        R (.bool false) H9)
                       else
                       R (.bool false) H9)
                      else
                      R (.bool false) H9)
                     else
                     R (.bool false) H9)
                    else
                    R (.bool false) H9)
                   else
                   R (.bool false) H9)
                  else
                  R (.bool false) H9)
                 else
                 R (.bool false) H9)
                else
                R (.bool false) H9)
               else
               R (.bool false) H9)
              else
              R (.bool false) H9)
             else
             R (.bool false) H9)
            else
            R (.bool false) H9))))))))))
  else
  R (.bool false) H1)
namespace morainelaw10_awake
set_option maxRecDepth 100000 in
theorem link  {H : Array Obj} {R : Value → Array Obj → Prop} (h : pt  H R) : C  H R := by
  refine S_enter (fn := Try.f24) (c := kk0) 130 Try.func24 (by kernel_rfl) (by kernel_rfl) (Nat.le_of_ble_eq_true (by kernel_rfl)) ?_
  intro w0 Q hQ
  unfold pt at h
  refine S_sub [] (sb (by kernel_rfl)) ?_
  refine S_seq kk1 kk2 (by kernel_rfl) ?_
  refine S_region 0 (Code.ops kk1) (by kernel_rfl) ?_
  refine N_run 1 [] (fun w => by kernel_rfl) ?_
  refine N_end (by kernel_rfl) ?_
  refine S_then ?_
  refine S_seq kk3 kk4 (by kernel_rfl) ?_
  refine S_region 1 (Code.ops kk3) (by kernel_rfl) ?_
  refine N_call (some 20) 11 #[.int .i64 8] (fun w => by kernel_rfl) h ?_; clear h
  rintro v H1 ⟨ra, rb, rfl, h⟩
  refine ⟨[(20, .tuple #[.pointer ra, .int .i64 rb])], ps (by kernel_rfl), ?_⟩
  refine N_run 5 [(1, .pointer ra), (2, .int .i64 rb)] (fun w => by kernel_rfl) ?_
  refine N_end (by kernel_rfl) ?_
  refine S_then ?_
  refine S_seq kk5 kk6 (by kernel_rfl) ?_
  refine S_seq kk7 kk8 (by kernel_rfl) ?_
  refine S_region 2 (Code.ops kk7) (by kernel_rfl) ?_
  refine N_run 3 [(1, .pointer ra), (25, .bool (rb != 0))] (fun w => by kernel_rfl) ?_
  by_cases c1 : rb = 0
  · rw [if_pos c1] at h
    have b2 : (rb != 0) = false := bne_eq_false_iff_eq.mpr c1
    refine N_env [(1, .pointer ra), (25, .bool false)] (by simp only [b2, Bool.not_true, Bool.not_false]) ?_
    clear b2
    refine N_run 1 [(1, .pointer ra), (25, .bool false), (26, .pointer ra)] (fun w => by kernel_rfl) ?_
    rcases ra with _ | raA
    · rw [onPtr_none] at h
      refine N_run 2 [(1, .pointer none), (28, .bool true)] (fun w => by kernel_rfl) ?_
      refine N_end (by kernel_rfl) ?_
      refine S_then ?_
      refine S_condT (.tmp 28) kk9 kk10 (by kernel_rfl) (by kernel_rfl) ?_
      refine S_seq kk11 kk12 (by kernel_rfl) ?_
      refine S_region 3 (Code.ops kk11) (by kernel_rfl) ?_
      refine N_run 1 [(0, .bool false)] (fun w => by kernel_rfl) ?_
      refine N_end (by kernel_rfl) ?_
      refine S_then ?_
      refine S_ret (by kernel_rfl) ?_
      show At _ _ _ _ _ (Q .ret)
      exact S_done (fn := Try.f24) [.bool false] hQ (show ResOK _ _ _ [.tmp 0] _ from .tmp (by kernel_rfl) (.nil)) h
    · rw [onPtr_some] at h
      refine N_run 2 [(1, .pointer (some raA)), (28, .bool false)] (fun w => by kernel_rfl) ?_
      refine N_end (by kernel_rfl) ?_
      refine S_then ?_
      refine S_condF (.tmp 28) kk9 kk10 (by kernel_rfl) (by kernel_rfl) ?_
      refine S_skip (by kernel_rfl) ?_
      refine S_then ?_
      refine S_seq kk13 kk14 (by kernel_rfl) ?_
      refine S_region 4 (Code.ops kk13) (by kernel_rfl) ?_
      refine N_run 1 [(1, .pointer (some raA)), (30, .pointer (some raA))] (fun w => by kernel_rfl) ?_
      refine N_call (some 31) 27 #[.pointer (some raA), .int .u64 8, .int .u64 20] (fun w => by kernel_rfl) h ?_; clear h
      rintro v_2 H2 ⟨ra_2, rb_2, rfl, h⟩
      refine ⟨[(1, .pointer (some raA)), (31, .tuple #[.int .u64 ra_2, .int .i64 rb_2])], ps (by kernel_rfl), ?_⟩
      refine N_run 5 [(1, .pointer (some raA)), (3, .int .u64 ra_2), (4, .int .i64 rb_2)] (fun w => by kernel_rfl) ?_
      refine N_end (by kernel_rfl) ?_
      refine S_then ?_
      refine S_seq kk15 kk16 (by kernel_rfl) ?_
      refine S_region 5 (Code.ops kk15) (by kernel_rfl) ?_
      refine N_run 2 [(1, .pointer (some raA)), (3, .int .u64 ra_2), (4, .int .i64 rb_2), (35, .pointer (some raA)), (36, .int .u64 ra_2)] (fun w => by kernel_rfl) ?_
      refine N_call (some 37) 33 #[.pointer (some raA), .int .u64 ra_2] (fun w => by kernel_rfl) h ?_; clear h
      rintro v_3 H3 ⟨ra_3, rb_3, rfl, h⟩
      refine ⟨[(1, .pointer (some raA)), (3, .int .u64 ra_2), (4, .int .i64 rb_2), (37, .tuple #[.int .u64 ra_3, .int .i64 rb_3])], ps (by kernel_rfl), ?_⟩
      refine N_run 5 [(1, .pointer (some raA)), (3, .int .u64 ra_2), (4, .int .i64 rb_2), (5, .int .u64 ra_3), (6, .int .i64 rb_3)] (fun w => by kernel_rfl) ?_
      refine N_end (by kernel_rfl) ?_
      refine S_then ?_
      refine S_seq kk17 kk18 (by kernel_rfl) ?_
      refine S_region 6 (Code.ops kk17) (by kernel_rfl) ?_
      refine N_run 2 [(1, .pointer (some raA)), (3, .int .u64 ra_2), (4, .int .i64 rb_2), (5, .int .u64 ra_3), (6, .int .i64 rb_3), (41, .pointer (some raA)), (42, .int .u64 ra_2)] (fun w => by kernel_rfl) ?_
      refine N_call (some 43) 34 #[.pointer (some raA), .int .u64 ra_2] (fun w => by kernel_rfl) h ?_; clear h
      rintro v_4 H4 ⟨ra_4, rb_4, rfl, h⟩
      refine ⟨[(1, .pointer (some raA)), (3, .int .u64 ra_2), (4, .int .i64 rb_2), (5, .int .u64 ra_3), (6, .int .i64 rb_3), (43, .tuple #[.int .u64 ra_4, .int .i64 rb_4])], ps (by kernel_rfl), ?_⟩
      refine N_run 5 [(1, .pointer (some raA)), (3, .int .u64 ra_2), (4, .int .i64 rb_2), (5, .int .u64 ra_3), (6, .int .i64 rb_3), (7, .int .u64 ra_4), (8, .int .i64 rb_4)] (fun w => by kernel_rfl) ?_
      refine N_end (by kernel_rfl) ?_
      refine S_then ?_
      refine S_seq kk19 kk20 (by kernel_rfl) ?_
      refine S_region 7 (Code.ops kk19) (by kernel_rfl) ?_
      refine N_run 1 [(1, .pointer (some raA)), (3, .int .u64 ra_2), (4, .int .i64 rb_2), (5, .int .u64 ra_3), (6, .int .i64 rb_3), (7, .int .u64 ra_4), (8, .int .i64 rb_4), (47, .pointer (some raA))] (fun w => by kernel_rfl) ?_
      refine N_call (some 48) 46 #[.pointer (some raA), .int .i64 3, .int .u64 12] (fun w => by kernel_rfl) h ?_; clear h
      rintro v_5 H5 ⟨ra_5, rb_5, rfl, h⟩
      refine ⟨[(1, .pointer (some raA)), (3, .int .u64 ra_2), (4, .int .i64 rb_2), (5, .int .u64 ra_3), (6, .int .i64 rb_3), (7, .int .u64 ra_4), (8, .int .i64 rb_4), (48, .tuple #[.int .u64 ra_5, .int .i64 rb_5])], ps (by kernel_rfl), ?_⟩
      refine N_run 5 [(1, .pointer (some raA)), (3, .int .u64 ra_2), (4, .int .i64 rb_2), (5, .int .u64 ra_3), (6, .int .i64 rb_3), (7, .int .u64 ra_4), (8, .int .i64 rb_4), (9, .int .u64 ra_5), (10, .int .i64 rb_5)] (fun w => by kernel_rfl) ?_
      refine N_end (by kernel_rfl) ?_
      refine S_then ?_
      refine S_seq kk21 kk22 (by kernel_rfl) ?_
      refine S_region 8 (Code.ops kk21) (by kernel_rfl) ?_
      refine N_run 2 [(1, .pointer (some raA)), (3, .int .u64 ra_2), (4, .int .i64 rb_2), (5, .int .u64 ra_3), (6, .int .i64 rb_3), (7, .int .u64 ra_4), (8, .int .i64 rb_4), (9, .int .u64 ra_5), (10, .int .i64 rb_5), (52, .pointer (some raA)), (53, .int .u64 ra_5)] (fun w => by kernel_rfl) ?_
      refine N_call (some 54) 38 #[.pointer (some raA), .int .u64 ra_5, .int .i64 1, .int .i64 2] (fun w => by kernel_rfl) h ?_; clear h
      rintro v_6 H6 ⟨ra_6, rb_6, rfl, h⟩
      refine ⟨[(1, .pointer (some raA)), (3, .int .u64 ra_2), (4, .int .i64 rb_2), (5, .int .u64 ra_3), (6, .int .i64 rb_3), (7, .int .u64 ra_4), (8, .int .i64 rb_4), (9, .int .u64 ra_5), (10, .int .i64 rb_5), (54, .tuple #[.int .u64 ra_6, .int .i64 rb_6])], ps (by kernel_rfl), ?_⟩
      refine N_run 5 [(1, .pointer (some raA)), (3, .int .u64 ra_2), (4, .int .i64 rb_2), (5, .int .u64 ra_3), (6, .int .i64 rb_3), (7, .int .u64 ra_4), (8, .int .i64 rb_4), (9, .int .u64 ra_5), (10, .int .i64 rb_5), (11, .int .u64 ra_6), (12, .int .i64 rb_6)] (fun w => by kernel_rfl) ?_
      refine N_end (by kernel_rfl) ?_
      refine S_then ?_
      refine S_seq kk23 kk24 (by kernel_rfl) ?_
      refine S_region 9 (Code.ops kk23) (by kernel_rfl) ?_
      refine N_run 2 [(1, .pointer (some raA)), (3, .int .u64 ra_2), (4, .int .i64 rb_2), (5, .int .u64 ra_3), (6, .int .i64 rb_3), (7, .int .u64 ra_4), (8, .int .i64 rb_4), (10, .int .i64 rb_5), (11, .int .u64 ra_6), (12, .int .i64 rb_6), (58, .pointer (some raA)), (59, .int .u64 ra_5)] (fun w => by kernel_rfl) ?_
      refine N_call (some 60) 38 #[.pointer (some raA), .int .u64 ra_5, .int .i64 1, .int .i64 3] (fun w => by kernel_rfl) h ?_; clear h
      rintro v_7 H7 ⟨ra_7, rb_7, rfl, h⟩
      refine ⟨[(1, .pointer (some raA)), (3, .int .u64 ra_2), (4, .int .i64 rb_2), (5, .int .u64 ra_3), (6, .int .i64 rb_3), (7, .int .u64 ra_4), (8, .int .i64 rb_4), (10, .int .i64 rb_5), (11, .int .u64 ra_6), (12, .int .i64 rb_6), (60, .tuple #[.int .u64 ra_7, .int .i64 rb_7])], ps (by kernel_rfl), ?_⟩
      refine N_run 5 [(1, .pointer (some raA)), (3, .int .u64 ra_2), (4, .int .i64 rb_2), (5, .int .u64 ra_3), (6, .int .i64 rb_3), (7, .int .u64 ra_4), (8, .int .i64 rb_4), (10, .int .i64 rb_5), (11, .int .u64 ra_6), (12, .int .i64 rb_6), (14, .int .i64 rb_7)] (fun w => by kernel_rfl) ?_
      refine N_end (by kernel_rfl) ?_
      refine S_then ?_
      refine S_seq kk25 kk26 (by kernel_rfl) ?_
      refine S_region 10 (Code.ops kk25) (by kernel_rfl) ?_
      refine N_run 1 [(1, .pointer (some raA)), (3, .int .u64 ra_2), (4, .int .i64 rb_2), (5, .int .u64 ra_3), (6, .int .i64 rb_3), (7, .int .u64 ra_4), (8, .int .i64 rb_4), (10, .int .i64 rb_5), (11, .int .u64 ra_6), (12, .int .i64 rb_6), (14, .int .i64 rb_7), (64, .pointer (some raA))] (fun w => by kernel_rfl) ?_
      refine N_call (some 65) 39 #[.pointer (some raA), .string (ByteArray.mk #[97, 195, 177])] (fun w => by kernel_rfl) h ?_; clear h
      rintro v_8 H8 ⟨ra_8, rb_8, rfl, h⟩
      refine ⟨[(1, .pointer (some raA)), (3, .int .u64 ra_2), (4, .int .i64 rb_2), (5, .int .u64 ra_3), (6, .int .i64 rb_3), (7, .int .u64 ra_4), (8, .int .i64 rb_4), (10, .int .i64 rb_5), (11, .int .u64 ra_6), (12, .int .i64 rb_6), (14, .int .i64 rb_7), (65, .tuple #[.int .u64 ra_8, .int .i64 rb_8])], ps (by kernel_rfl), ?_⟩
      refine N_run 5 [(1, .pointer (some raA)), (3, .int .u64 ra_2), (4, .int .i64 rb_2), (5, .int .u64 ra_3), (6, .int .i64 rb_3), (7, .int .u64 ra_4), (8, .int .i64 rb_4), (10, .int .i64 rb_5), (11, .int .u64 ra_6), (12, .int .i64 rb_6), (14, .int .i64 rb_7), (15, .int .u64 ra_8), (16, .int .i64 rb_8)] (fun w => by kernel_rfl) ?_
      refine N_end (by kernel_rfl) ?_
      refine S_then ?_
      refine S_seq kk27 kk28 (by kernel_rfl) ?_
      refine S_region 11 (Code.ops kk27) (by kernel_rfl) ?_
      refine N_run 2 [(1, .pointer (some raA)), (3, .int .u64 ra_2), (4, .int .i64 rb_2), (5, .int .u64 ra_3), (6, .int .i64 rb_3), (7, .int .u64 ra_4), (8, .int .i64 rb_4), (10, .int .i64 rb_5), (11, .int .u64 ra_6), (12, .int .i64 rb_6), (14, .int .i64 rb_7), (15, .int .u64 ra_8), (16, .int .i64 rb_8), (69, .pointer (some raA)), (70, .int .u64 ra_8)] (fun w => by kernel_rfl) ?_
      refine N_call (some 71) 40 #[.pointer (some raA), .int .u64 ra_8] (fun w => by kernel_rfl) h ?_; clear h
      rintro v_9 H9 ⟨ra_9, rb_9, rfl, h⟩
      refine ⟨[(1, .pointer (some raA)), (3, .int .u64 ra_2), (4, .int .i64 rb_2), (5, .int .u64 ra_3), (6, .int .i64 rb_3), (7, .int .u64 ra_4), (8, .int .i64 rb_4), (10, .int .i64 rb_5), (11, .int .u64 ra_6), (12, .int .i64 rb_6), (14, .int .i64 rb_7), (15, .int .u64 ra_8), (16, .int .i64 rb_8), (71, .tuple #[.string ra_9, .int .i64 rb_9])], ps (by kernel_rfl), ?_⟩
      refine N_run 5 [(1, .pointer (some raA)), (3, .int .u64 ra_2), (4, .int .i64 rb_2), (5, .int .u64 ra_3), (6, .int .i64 rb_3), (7, .int .u64 ra_4), (8, .int .i64 rb_4), (10, .int .i64 rb_5), (11, .int .u64 ra_6), (12, .int .i64 rb_6), (14, .int .i64 rb_7), (15, .int .u64 ra_8), (16, .int .i64 rb_8), (17, .string ra_9), (18, .int .i64 rb_9)] (fun w => by kernel_rfl) ?_
      refine N_end (by kernel_rfl) ?_
      refine S_then ?_
      refine S_seq kk29 kk30 (by kernel_rfl) ?_
      refine S_region 12 (Code.ops kk29) (by kernel_rfl) ?_
      refine N_run 3 [(1, .pointer (some raA)), (4, .int .i64 rb_2), (5, .int .u64 ra_3), (6, .int .i64 rb_3), (7, .int .u64 ra_4), (8, .int .i64 rb_4), (10, .int .i64 rb_5), (11, .int .u64 ra_6), (12, .int .i64 rb_6), (14, .int .i64 rb_7), (15, .int .u64 ra_8), (16, .int .i64 rb_8), (17, .string ra_9), (18, .int .i64 rb_9), (76, .bool (ra_2 == 1))] (fun w => by kernel_rfl) ?_
      by_cases c3 : ra_2 = 1
      · rw [if_pos c3] at h
        have b4 : (ra_2 == 1) = true := beq_iff_eq.mpr c3
        refine N_env [(1, .pointer (some raA)), (4, .int .i64 rb_2), (5, .int .u64 ra_3), (6, .int .i64 rb_3), (7, .int .u64 ra_4), (8, .int .i64 rb_4), (10, .int .i64 rb_5), (11, .int .u64 ra_6), (12, .int .i64 rb_6), (14, .int .i64 rb_7), (15, .int .u64 ra_8), (16, .int .i64 rb_8), (17, .string ra_9), (18, .int .i64 rb_9), (76, .bool true)] (by simp only [b4, Bool.not_true, Bool.not_false]) ?_
        clear b4
        refine N_run 4 [(1, .pointer (some raA)), (5, .int .u64 ra_3), (6, .int .i64 rb_3), (7, .int .u64 ra_4), (8, .int .i64 rb_4), (10, .int .i64 rb_5), (11, .int .u64 ra_6), (12, .int .i64 rb_6), (14, .int .i64 rb_7), (15, .int .u64 ra_8), (16, .int .i64 rb_8), (17, .string ra_9), (18, .int .i64 rb_9), (80, .bool (rb_2 == 0))] (fun w => by kernel_rfl) ?_
        by_cases c5 : rb_2 = 0
        · rw [if_pos c5] at h
          have b6 : (rb_2 == 0) = true := beq_iff_eq.mpr c5
          refine N_env [(1, .pointer (some raA)), (5, .int .u64 ra_3), (6, .int .i64 rb_3), (7, .int .u64 ra_4), (8, .int .i64 rb_4), (10, .int .i64 rb_5), (11, .int .u64 ra_6), (12, .int .i64 rb_6), (14, .int .i64 rb_7), (15, .int .u64 ra_8), (16, .int .i64 rb_8), (17, .string ra_9), (18, .int .i64 rb_9), (80, .bool true)] (by simp only [b6, Bool.not_true, Bool.not_false]) ?_
          clear b6
          refine N_run 4 [(1, .pointer (some raA)), (6, .int .i64 rb_3), (7, .int .u64 ra_4), (8, .int .i64 rb_4), (10, .int .i64 rb_5), (11, .int .u64 ra_6), (12, .int .i64 rb_6), (14, .int .i64 rb_7), (15, .int .u64 ra_8), (16, .int .i64 rb_8), (17, .string ra_9), (18, .int .i64 rb_9), (84, .bool (ra_3 == 8))] (fun w => by kernel_rfl) ?_
          by_cases c7 : ra_3 = 8
          · rw [if_pos c7] at h
            have b8 : (ra_3 == 8) = true := beq_iff_eq.mpr c7
            refine N_env [(1, .pointer (some raA)), (6, .int .i64 rb_3), (7, .int .u64 ra_4), (8, .int .i64 rb_4), (10, .int .i64 rb_5), (11, .int .u64 ra_6), (12, .int .i64 rb_6), (14, .int .i64 rb_7), (15, .int .u64 ra_8), (16, .int .i64 rb_8), (17, .string ra_9), (18, .int .i64 rb_9), (84, .bool true)] (by simp only [b8, Bool.not_true, Bool.not_false]) ?_
            clear b8
            refine N_run 4 [(1, .pointer (some raA)), (7, .int .u64 ra_4), (8, .int .i64 rb_4), (10, .int .i64 rb_5), (11, .int .u64 ra_6), (12, .int .i64 rb_6), (14, .int .i64 rb_7), (15, .int .u64 ra_8), (16, .int .i64 rb_8), (17, .string ra_9), (18, .int .i64 rb_9), (88, .bool (rb_3 == 0))] (fun w => by kernel_rfl) ?_
            by_cases c9 : rb_3 = 0
            · rw [if_pos c9] at h
              have b10 : (rb_3 == 0) = true := beq_iff_eq.mpr c9
              refine N_env [(1, .pointer (some raA)), (7, .int .u64 ra_4), (8, .int .i64 rb_4), (10, .int .i64 rb_5), (11, .int .u64 ra_6), (12, .int .i64 rb_6), (14, .int .i64 rb_7), (15, .int .u64 ra_8), (16, .int .i64 rb_8), (17, .string ra_9), (18, .int .i64 rb_9), (88, .bool true)] (by simp only [b10, Bool.not_true, Bool.not_false]) ?_
              clear b10
              refine N_run 4 [(1, .pointer (some raA)), (8, .int .i64 rb_4), (10, .int .i64 rb_5), (11, .int .u64 ra_6), (12, .int .i64 rb_6), (14, .int .i64 rb_7), (15, .int .u64 ra_8), (16, .int .i64 rb_8), (17, .string ra_9), (18, .int .i64 rb_9), (92, .bool (ra_4 == 20))] (fun w => by kernel_rfl) ?_
              by_cases c11 : ra_4 = 20
              · rw [if_pos c11] at h
                have b12 : (ra_4 == 20) = true := beq_iff_eq.mpr c11
                refine N_env [(1, .pointer (some raA)), (8, .int .i64 rb_4), (10, .int .i64 rb_5), (11, .int .u64 ra_6), (12, .int .i64 rb_6), (14, .int .i64 rb_7), (15, .int .u64 ra_8), (16, .int .i64 rb_8), (17, .string ra_9), (18, .int .i64 rb_9), (92, .bool true)] (by simp only [b12, Bool.not_true, Bool.not_false]) ?_
                clear b12
                refine N_run 4 [(1, .pointer (some raA)), (10, .int .i64 rb_5), (11, .int .u64 ra_6), (12, .int .i64 rb_6), (14, .int .i64 rb_7), (15, .int .u64 ra_8), (16, .int .i64 rb_8), (17, .string ra_9), (18, .int .i64 rb_9), (96, .bool (rb_4 == 0))] (fun w => by kernel_rfl) ?_
                by_cases c13 : rb_4 = 0
                · rw [if_pos c13] at h
                  have b14 : (rb_4 == 0) = true := beq_iff_eq.mpr c13
                  refine N_env [(1, .pointer (some raA)), (10, .int .i64 rb_5), (11, .int .u64 ra_6), (12, .int .i64 rb_6), (14, .int .i64 rb_7), (15, .int .u64 ra_8), (16, .int .i64 rb_8), (17, .string ra_9), (18, .int .i64 rb_9), (96, .bool true)] (by simp only [b14, Bool.not_true, Bool.not_false]) ?_
                  clear b14
                  refine N_run 4 [(1, .pointer (some raA)), (11, .int .u64 ra_6), (12, .int .i64 rb_6), (14, .int .i64 rb_7), (15, .int .u64 ra_8), (16, .int .i64 rb_8), (17, .string ra_9), (18, .int .i64 rb_9), (100, .bool (rb_5 == 0))] (fun w => by kernel_rfl) ?_
                  by_cases c15 : rb_5 = 0
                  · rw [if_pos c15] at h
                    have b16 : (rb_5 == 0) = true := beq_iff_eq.mpr c15
                    refine N_env [(1, .pointer (some raA)), (11, .int .u64 ra_6), (12, .int .i64 rb_6), (14, .int .i64 rb_7), (15, .int .u64 ra_8), (16, .int .i64 rb_8), (17, .string ra_9), (18, .int .i64 rb_9), (100, .bool true)] (by simp only [b16, Bool.not_true, Bool.not_false]) ?_
                    clear b16
                    refine N_run 4 [(1, .pointer (some raA)), (12, .int .i64 rb_6), (14, .int .i64 rb_7), (15, .int .u64 ra_8), (16, .int .i64 rb_8), (17, .string ra_9), (18, .int .i64 rb_9), (104, .bool (ra_6 == 12))] (fun w => by kernel_rfl) ?_
                    by_cases c17 : ra_6 = 12
                    · rw [if_pos c17] at h
                      have b18 : (ra_6 == 12) = true := beq_iff_eq.mpr c17
                      refine N_env [(1, .pointer (some raA)), (12, .int .i64 rb_6), (14, .int .i64 rb_7), (15, .int .u64 ra_8), (16, .int .i64 rb_8), (17, .string ra_9), (18, .int .i64 rb_9), (104, .bool true)] (by simp only [b18, Bool.not_true, Bool.not_false]) ?_
                      clear b18
                      refine N_run 4 [(1, .pointer (some raA)), (14, .int .i64 rb_7), (15, .int .u64 ra_8), (16, .int .i64 rb_8), (17, .string ra_9), (18, .int .i64 rb_9), (108, .bool (rb_6 == 0))] (fun w => by kernel_rfl) ?_
                      by_cases c19 : rb_6 = 0
                      · rw [if_pos c19] at h
                        have b20 : (rb_6 == 0) = true := beq_iff_eq.mpr c19
                        refine N_env [(1, .pointer (some raA)), (14, .int .i64 rb_7), (15, .int .u64 ra_8), (16, .int .i64 rb_8), (17, .string ra_9), (18, .int .i64 rb_9), (108, .bool true)] (by simp only [b20, Bool.not_true, Bool.not_false]) ?_
                        clear b20
                        refine N_run 4 [(1, .pointer (some raA)), (15, .int .u64 ra_8), (16, .int .i64 rb_8), (17, .string ra_9), (18, .int .i64 rb_9), (112, .bool (rb_7 == 4))] (fun w => by kernel_rfl) ?_
                        by_cases c21 : rb_7 = 4
                        · rw [if_pos c21] at h
                          have b22 : (rb_7 == 4) = true := beq_iff_eq.mpr c21
                          refine N_env [(1, .pointer (some raA)), (15, .int .u64 ra_8), (16, .int .i64 rb_8), (17, .string ra_9), (18, .int .i64 rb_9), (112, .bool true)] (by simp only [b22, Bool.not_true, Bool.not_false]) ?_
                          clear b22
                          refine N_run 4 [(1, .pointer (some raA)), (15, .int .u64 ra_8), (17, .string ra_9), (18, .int .i64 rb_9), (116, .bool (rb_8 == 0))] (fun w => by kernel_rfl) ?_
                          by_cases c23 : rb_8 = 0
                          · rw [if_pos c23] at h
                            have b24 : (rb_8 == 0) = true := beq_iff_eq.mpr c23
                            refine N_env [(1, .pointer (some raA)), (15, .int .u64 ra_8), (17, .string ra_9), (18, .int .i64 rb_9), (116, .bool true)] (by simp only [b24, Bool.not_true, Bool.not_false]) ?_
                            clear b24
                            refine N_run 4 [(1, .pointer (some raA)), (15, .int .u64 ra_8), (18, .int .i64 rb_9), (120, .bool (ra_9.toList == (ByteArray.mk #[97, 195, 177]).toList))] (fun w => by kernel_rfl) ?_
                            by_cases c25 : ra_9.toList = (ByteArray.mk #[97, 195, 177]).toList
                            · rw [if_pos c25] at h
                              have b26 : (ra_9.toList == (ByteArray.mk #[97, 195, 177]).toList) = true := beq_iff_eq.mpr c25
                              refine N_env [(1, .pointer (some raA)), (15, .int .u64 ra_8), (18, .int .i64 rb_9), (120, .bool true)] (by simp only [b26, Bool.not_true, Bool.not_false]) ?_
                              clear b26
                              refine N_run 4 [(1, .pointer (some raA)), (15, .int .u64 ra_8), (124, .bool (rb_9 == 0))] (fun w => by kernel_rfl) ?_
                              by_cases c27 : rb_9 = 0
                              · rw [if_pos c27] at h
                                have b28 : (rb_9 == 0) = true := beq_iff_eq.mpr c27
                                refine N_env [(1, .pointer (some raA)), (15, .int .u64 ra_8), (124, .bool true)] (by simp only [b28, Bool.not_true, Bool.not_false]) ?_
                                clear b28
                                refine N_run 2 [(124, .bool true), (125, .pointer (some raA)), (126, .int .u64 ra_8)] (fun w => by kernel_rfl) ?_
                                refine N_call (some 127) 37 #[.pointer (some raA), .int .u64 ra_8] (fun w => by kernel_rfl) h ?_; clear h
                                rintro v_10 H10 ⟨x, rfl, h⟩
                                refine ⟨[(124, .bool true), (127, .int .i64 x)], ps (by kernel_rfl), ?_⟩
                                refine N_run 3 [(0, .bool (x == 2))] (fun w => by kernel_rfl) ?_
                                refine N_end (by kernel_rfl) ?_
                                refine S_then ?_
                                refine S_ret (by kernel_rfl) ?_
                                show At _ _ _ _ _ (Q .ret)
                                exact S_done (fn := Try.f24) [.bool (x == 2)] hQ (show ResOK _ _ _ [.tmp 0] _ from .tmp (by kernel_rfl) (.nil)) h
                              · rw [if_neg c27] at h
                                have b28 : (rb_9 == 0) = false := beq_eq_false_iff_ne.mpr c27
                                refine N_env [(1, .pointer (some raA)), (15, .int .u64 ra_8), (124, .bool false)] (by simp only [b28, Bool.not_true, Bool.not_false]) ?_
                                clear b28
                                refine N_run 6 [(0, .bool false)] (fun w => by kernel_rfl) ?_
                                refine N_end (by kernel_rfl) ?_
                                refine S_then ?_
                                refine S_ret (by kernel_rfl) ?_
                                show At _ _ _ _ _ (Q .ret)
                                exact S_done (fn := Try.f24) [.bool false] hQ (show ResOK _ _ _ [.tmp 0] _ from .tmp (by kernel_rfl) (.nil)) h
                            · rw [if_neg c25] at h
                              have b26 : (ra_9.toList == (ByteArray.mk #[97, 195, 177]).toList) = false := beq_eq_false_iff_ne.mpr c25
                              refine N_env [(1, .pointer (some raA)), (15, .int .u64 ra_8), (18, .int .i64 rb_9), (120, .bool false)] (by simp only [b26, Bool.not_true, Bool.not_false]) ?_
                              clear b26
                              refine N_run 10 [(0, .bool false)] (fun w => by kernel_rfl) ?_
                              refine N_end (by kernel_rfl) ?_
                              refine S_then ?_
                              refine S_ret (by kernel_rfl) ?_
                              show At _ _ _ _ _ (Q .ret)
                              exact S_done (fn := Try.f24) [.bool false] hQ (show ResOK _ _ _ [.tmp 0] _ from .tmp (by kernel_rfl) (.nil)) h
                          · rw [if_neg c23] at h
                            have b24 : (rb_8 == 0) = false := beq_eq_false_iff_ne.mpr c23
                            refine N_env [(1, .pointer (some raA)), (15, .int .u64 ra_8), (17, .string ra_9), (18, .int .i64 rb_9), (116, .bool false)] (by simp only [b24, Bool.not_true, Bool.not_false]) ?_
                            clear b24
                            refine N_run 14 [(0, .bool false)] (fun w => by kernel_rfl) ?_
                            refine N_end (by kernel_rfl) ?_
                            refine S_then ?_
                            refine S_ret (by kernel_rfl) ?_
                            show At _ _ _ _ _ (Q .ret)
                            exact S_done (fn := Try.f24) [.bool false] hQ (show ResOK _ _ _ [.tmp 0] _ from .tmp (by kernel_rfl) (.nil)) h
                        · rw [if_neg c21] at h
                          have b22 : (rb_7 == 4) = false := beq_eq_false_iff_ne.mpr c21
                          refine N_env [(1, .pointer (some raA)), (15, .int .u64 ra_8), (16, .int .i64 rb_8), (17, .string ra_9), (18, .int .i64 rb_9), (112, .bool false)] (by simp only [b22, Bool.not_true, Bool.not_false]) ?_
                          clear b22
                          refine N_run 18 [(0, .bool false)] (fun w => by kernel_rfl) ?_
                          refine N_end (by kernel_rfl) ?_
                          refine S_then ?_
                          refine S_ret (by kernel_rfl) ?_
                          show At _ _ _ _ _ (Q .ret)
                          exact S_done (fn := Try.f24) [.bool false] hQ (show ResOK _ _ _ [.tmp 0] _ from .tmp (by kernel_rfl) (.nil)) h
                      · rw [if_neg c19] at h
                        have b20 : (rb_6 == 0) = false := beq_eq_false_iff_ne.mpr c19
                        refine N_env [(1, .pointer (some raA)), (14, .int .i64 rb_7), (15, .int .u64 ra_8), (16, .int .i64 rb_8), (17, .string ra_9), (18, .int .i64 rb_9), (108, .bool false)] (by simp only [b20, Bool.not_true, Bool.not_false]) ?_
                        clear b20
                        refine N_run 22 [(0, .bool false)] (fun w => by kernel_rfl) ?_
                        refine N_end (by kernel_rfl) ?_
                        refine S_then ?_
                        refine S_ret (by kernel_rfl) ?_
                        show At _ _ _ _ _ (Q .ret)
                        exact S_done (fn := Try.f24) [.bool false] hQ (show ResOK _ _ _ [.tmp 0] _ from .tmp (by kernel_rfl) (.nil)) h
                    · rw [if_neg c17] at h
                      have b18 : (ra_6 == 12) = false := beq_eq_false_iff_ne.mpr c17
                      refine N_env [(1, .pointer (some raA)), (12, .int .i64 rb_6), (14, .int .i64 rb_7), (15, .int .u64 ra_8), (16, .int .i64 rb_8), (17, .string ra_9), (18, .int .i64 rb_9), (104, .bool false)] (by simp only [b18, Bool.not_true, Bool.not_false]) ?_
                      clear b18
                      refine N_run 26 [(0, .bool false)] (fun w => by kernel_rfl) ?_
                      refine N_end (by kernel_rfl) ?_
                      refine S_then ?_
                      refine S_ret (by kernel_rfl) ?_
                      show At _ _ _ _ _ (Q .ret)
                      exact S_done (fn := Try.f24) [.bool false] hQ (show ResOK _ _ _ [.tmp 0] _ from .tmp (by kernel_rfl) (.nil)) h
                  · rw [if_neg c15] at h
                    have b16 : (rb_5 == 0) = false := beq_eq_false_iff_ne.mpr c15
                    refine N_env [(1, .pointer (some raA)), (11, .int .u64 ra_6), (12, .int .i64 rb_6), (14, .int .i64 rb_7), (15, .int .u64 ra_8), (16, .int .i64 rb_8), (17, .string ra_9), (18, .int .i64 rb_9), (100, .bool false)] (by simp only [b16, Bool.not_true, Bool.not_false]) ?_
                    clear b16
                    refine N_run 30 [(0, .bool false)] (fun w => by kernel_rfl) ?_
                    refine N_end (by kernel_rfl) ?_
                    refine S_then ?_
                    refine S_ret (by kernel_rfl) ?_
                    show At _ _ _ _ _ (Q .ret)
                    exact S_done (fn := Try.f24) [.bool false] hQ (show ResOK _ _ _ [.tmp 0] _ from .tmp (by kernel_rfl) (.nil)) h
                · rw [if_neg c13] at h
                  have b14 : (rb_4 == 0) = false := beq_eq_false_iff_ne.mpr c13
                  refine N_env [(1, .pointer (some raA)), (10, .int .i64 rb_5), (11, .int .u64 ra_6), (12, .int .i64 rb_6), (14, .int .i64 rb_7), (15, .int .u64 ra_8), (16, .int .i64 rb_8), (17, .string ra_9), (18, .int .i64 rb_9), (96, .bool false)] (by simp only [b14, Bool.not_true, Bool.not_false]) ?_
                  clear b14
                  refine N_run 34 [(0, .bool false)] (fun w => by kernel_rfl) ?_
                  refine N_end (by kernel_rfl) ?_
                  refine S_then ?_
                  refine S_ret (by kernel_rfl) ?_
                  show At _ _ _ _ _ (Q .ret)
                  exact S_done (fn := Try.f24) [.bool false] hQ (show ResOK _ _ _ [.tmp 0] _ from .tmp (by kernel_rfl) (.nil)) h
              · rw [if_neg c11] at h
                have b12 : (ra_4 == 20) = false := beq_eq_false_iff_ne.mpr c11
                refine N_env [(1, .pointer (some raA)), (8, .int .i64 rb_4), (10, .int .i64 rb_5), (11, .int .u64 ra_6), (12, .int .i64 rb_6), (14, .int .i64 rb_7), (15, .int .u64 ra_8), (16, .int .i64 rb_8), (17, .string ra_9), (18, .int .i64 rb_9), (92, .bool false)] (by simp only [b12, Bool.not_true, Bool.not_false]) ?_
                clear b12
                refine N_run 38 [(0, .bool false)] (fun w => by kernel_rfl) ?_
                refine N_end (by kernel_rfl) ?_
                refine S_then ?_
                refine S_ret (by kernel_rfl) ?_
                show At _ _ _ _ _ (Q .ret)
                exact S_done (fn := Try.f24) [.bool false] hQ (show ResOK _ _ _ [.tmp 0] _ from .tmp (by kernel_rfl) (.nil)) h
            · rw [if_neg c9] at h
              have b10 : (rb_3 == 0) = false := beq_eq_false_iff_ne.mpr c9
              refine N_env [(1, .pointer (some raA)), (7, .int .u64 ra_4), (8, .int .i64 rb_4), (10, .int .i64 rb_5), (11, .int .u64 ra_6), (12, .int .i64 rb_6), (14, .int .i64 rb_7), (15, .int .u64 ra_8), (16, .int .i64 rb_8), (17, .string ra_9), (18, .int .i64 rb_9), (88, .bool false)] (by simp only [b10, Bool.not_true, Bool.not_false]) ?_
              clear b10
              refine N_run 42 [(0, .bool false)] (fun w => by kernel_rfl) ?_
              refine N_end (by kernel_rfl) ?_
              refine S_then ?_
              refine S_ret (by kernel_rfl) ?_
              show At _ _ _ _ _ (Q .ret)
              exact S_done (fn := Try.f24) [.bool false] hQ (show ResOK _ _ _ [.tmp 0] _ from .tmp (by kernel_rfl) (.nil)) h
          · rw [if_neg c7] at h
            have b8 : (ra_3 == 8) = false := beq_eq_false_iff_ne.mpr c7
            refine N_env [(1, .pointer (some raA)), (6, .int .i64 rb_3), (7, .int .u64 ra_4), (8, .int .i64 rb_4), (10, .int .i64 rb_5), (11, .int .u64 ra_6), (12, .int .i64 rb_6), (14, .int .i64 rb_7), (15, .int .u64 ra_8), (16, .int .i64 rb_8), (17, .string ra_9), (18, .int .i64 rb_9), (84, .bool false)] (by simp only [b8, Bool.not_true, Bool.not_false]) ?_
            clear b8
            refine N_run 46 [(0, .bool false)] (fun w => by kernel_rfl) ?_
            refine N_end (by kernel_rfl) ?_
            refine S_then ?_
            refine S_ret (by kernel_rfl) ?_
            show At _ _ _ _ _ (Q .ret)
            exact S_done (fn := Try.f24) [.bool false] hQ (show ResOK _ _ _ [.tmp 0] _ from .tmp (by kernel_rfl) (.nil)) h
        · rw [if_neg c5] at h
          have b6 : (rb_2 == 0) = false := beq_eq_false_iff_ne.mpr c5
          refine N_env [(1, .pointer (some raA)), (5, .int .u64 ra_3), (6, .int .i64 rb_3), (7, .int .u64 ra_4), (8, .int .i64 rb_4), (10, .int .i64 rb_5), (11, .int .u64 ra_6), (12, .int .i64 rb_6), (14, .int .i64 rb_7), (15, .int .u64 ra_8), (16, .int .i64 rb_8), (17, .string ra_9), (18, .int .i64 rb_9), (80, .bool false)] (by simp only [b6, Bool.not_true, Bool.not_false]) ?_
          clear b6
          refine N_run 50 [(0, .bool false)] (fun w => by kernel_rfl) ?_
          refine N_end (by kernel_rfl) ?_
          refine S_then ?_
          refine S_ret (by kernel_rfl) ?_
          show At _ _ _ _ _ (Q .ret)
          exact S_done (fn := Try.f24) [.bool false] hQ (show ResOK _ _ _ [.tmp 0] _ from .tmp (by kernel_rfl) (.nil)) h
      · rw [if_neg c3] at h
        have b4 : (ra_2 == 1) = false := beq_eq_false_iff_ne.mpr c3
        refine N_env [(1, .pointer (some raA)), (4, .int .i64 rb_2), (5, .int .u64 ra_3), (6, .int .i64 rb_3), (7, .int .u64 ra_4), (8, .int .i64 rb_4), (10, .int .i64 rb_5), (11, .int .u64 ra_6), (12, .int .i64 rb_6), (14, .int .i64 rb_7), (15, .int .u64 ra_8), (16, .int .i64 rb_8), (17, .string ra_9), (18, .int .i64 rb_9), (76, .bool false)] (by simp only [b4, Bool.not_true, Bool.not_false]) ?_
        clear b4
        refine N_run 54 [(0, .bool false)] (fun w => by kernel_rfl) ?_
        refine N_end (by kernel_rfl) ?_
        refine S_then ?_
        refine S_ret (by kernel_rfl) ?_
        show At _ _ _ _ _ (Q .ret)
        exact S_done (fn := Try.f24) [.bool false] hQ (show ResOK _ _ _ [.tmp 0] _ from .tmp (by kernel_rfl) (.nil)) h
  · rw [if_neg c1] at h
    have b2 : (rb != 0) = true := bne_iff_ne.mpr c1
    refine N_env [(1, .pointer ra), (25, .bool true)] (by simp only [b2, Bool.not_true, Bool.not_false]) ?_
    clear b2
    refine N_run 3 [(1, .pointer ra), (28, .bool true)] (fun w => by kernel_rfl) ?_
    refine N_end (by kernel_rfl) ?_
    refine S_then ?_
    refine S_condT (.tmp 28) kk9 kk10 (by kernel_rfl) (by kernel_rfl) ?_
    refine S_seq kk11 kk12 (by kernel_rfl) ?_
    refine S_region 3 (Code.ops kk11) (by kernel_rfl) ?_
    refine N_run 1 [(0, .bool false)] (fun w => by kernel_rfl) ?_
    refine N_end (by kernel_rfl) ?_
    refine S_then ?_
    refine S_ret (by kernel_rfl) ?_
    show At _ _ _ _ _ (Q .ret)
    exact S_done (fn := Try.f24) [.bool false] hQ (show ResOK _ _ _ [.tmp 0] _ from .tmp (by kernel_rfl) (.nil)) h
end morainelaw10_awake

end Go.Proofs.Ytfohlkiikppefaa
