/-
  Written by a program of mine (gen.py): for functions of this translation a predicate transformer over heaps (.pt), and the proof that it is sound for the call (.link).
-/
import Derived.Test.YtfohlkiikppefaaFnsC
set_option linter.unusedSimpArgs false
set_option linter.unusedVariables false
set_option maxHeartbeats 1000000
namespace Go.Proofs.Ytfohlkiikppefaa
open Go
/-! moraine/frame.Kind -/
noncomputable def frame_Kind.k0 : Code := Func.code Try.f14
noncomputable def frame_Kind.k1 : Code := Code.fa frame_Kind.k0
noncomputable def frame_Kind.k2 : Code := Code.fb frame_Kind.k0
noncomputable def frame_Kind.k3 : Code := Code.fa frame_Kind.k2
noncomputable def frame_Kind.k4 : Code := Code.fb frame_Kind.k2
noncomputable def frame_Kind.k5 : Code := Code.fa frame_Kind.k4
noncomputable def frame_Kind.k6 : Code := Code.fb frame_Kind.k4
noncomputable def frame_Kind.k7 : Code := Code.fa frame_Kind.k6
noncomputable def frame_Kind.k8 : Code := Code.fb frame_Kind.k6
noncomputable def frame_Kind.k9 : Code := Code.fa frame_Kind.k7
noncomputable def frame_Kind.k10 : Code := Code.fb frame_Kind.k7
noncomputable def frame_Kind.k11 : Code := Code.fa frame_Kind.k10
noncomputable def frame_Kind.k12 : Code := Code.fb frame_Kind.k10
noncomputable def frame_Kind.k13 : Code := Code.fa frame_Kind.k11
noncomputable def frame_Kind.k14 : Code := Code.fb frame_Kind.k11
noncomputable def frame_Kind.k15 : Code := Code.fa frame_Kind.k8
noncomputable def frame_Kind.k16 : Code := Code.fb frame_Kind.k8
def frame_Kind.pt (hv : Option Addr) (f : Int) (H : Array Obj) (R : Value → Array Obj → Prop) : Prop :=
 obj_Heap_Get.C hv f 8 0 H (fun v H1 => ∃ ra : Int, ∃ rb : Int, v = .tuple #[.int .u64 ra, .int .i64 rb] ∧ 
  word_Int.C ra H1 (fun v_2 H2 => ∃ ra_2 : Int, ∃ rb_2 : Bool, v_2 = .tuple #[.int .i64 ra_2, .bool rb_2] ∧ 
   if rb = 0 then (
    if rb_2 = true then (
     if ra_2 < 0 then (
      R (.tuple #[.int .i64 0, .int .i64 3]) H2)
     else
     if ra_2 > 2147483647 then (
      R (.tuple #[.int .i64 0, .int .i64 3]) H2)
     else
     obj_Heap_Len.C hv f H2 (fun v_3 H3 => ∃ x : Int, v_3 = .int .i64 x ∧ 
      if x < 2 then (
       R (.tuple #[.int .i64 0, .int .i64 3]) H3)
      else
      R (.tuple #[.int .i64 ra_2, .int .i64 0]) H3))
    else
    R (.tuple #[.int .i64 0, .int .i64 3]) H2)
   else
   R (.tuple #[.int .i64 0, .int .i64 3]) H2))
set_option maxRecDepth 100000 in
theorem frame_Kind.link {hv : Option Addr} {f : Int} {H : Array Obj} {R : Value → Array Obj → Prop} (h : frame_Kind.pt hv f H R) : frame_Kind.C hv f H R := by
  refine S_enter (fn := Try.f14) (c := frame_Kind.k0) 42 Try.func14 (by kernel_rfl) (by kernel_rfl) (Nat.le_of_ble_eq_true (by kernel_rfl)) ?_
  intro w0 Q hQ
  unfold frame_Kind.pt at h
  refine S_sub [(0, .pointer hv), (1, .int .u64 f)] (sb (by kernel_rfl)) ?_
  refine S_seq frame_Kind.k1 frame_Kind.k2 (by kernel_rfl) ?_
  refine S_region 0 (Code.ops frame_Kind.k1) (by kernel_rfl) ?_
  refine N_run 2 [(0, .pointer hv), (1, .int .u64 f)] (fun w => by kernel_rfl) ?_
  refine N_end (by kernel_rfl) ?_
  refine S_then ?_
  refine S_seq frame_Kind.k3 frame_Kind.k4 (by kernel_rfl) ?_
  refine S_region 1 (Code.ops frame_Kind.k3) (by kernel_rfl) ?_
  refine N_run 2 [(0, .pointer hv), (1, .int .u64 f), (11, .pointer hv), (12, .int .u64 f)] (fun w => by kernel_rfl) ?_
  refine N_call (some 13) 38 #[.pointer hv, .int .u64 f, .int .i64 8, .int .i64 0] (fun w => by kernel_rfl) h ?_; clear h
  rintro v H1 ⟨ra, rb, rfl, h⟩
  refine ⟨[(0, .pointer hv), (1, .int .u64 f), (13, .tuple #[.int .u64 ra, .int .i64 rb])], ps (by kernel_rfl), ?_⟩
  refine N_run 5 [(0, .pointer hv), (1, .int .u64 f), (6, .int .u64 ra), (7, .int .i64 rb)] (fun w => by kernel_rfl) ?_
  refine N_end (by kernel_rfl) ?_
  refine S_then ?_
  refine S_seq frame_Kind.k5 frame_Kind.k6 (by kernel_rfl) ?_
  refine S_region 2 (Code.ops frame_Kind.k5) (by kernel_rfl) ?_
  refine N_run 1 [(0, .pointer hv), (1, .int .u64 f), (7, .int .i64 rb), (17, .int .u64 ra)] (fun w => by kernel_rfl) ?_
  refine N_call (some 18) 55 #[.int .u64 ra] (fun w => by kernel_rfl) h ?_; clear h
  rintro v_2 H2 ⟨ra_2, rb_2, rfl, h⟩
  refine ⟨[(0, .pointer hv), (1, .int .u64 f), (7, .int .i64 rb), (18, .tuple #[.int .i64 ra_2, .bool rb_2])], ps (by kernel_rfl), ?_⟩
  refine N_run 5 [(0, .pointer hv), (1, .int .u64 f), (7, .int .i64 rb), (8, .int .i64 ra_2), (9, .bool rb_2)] (fun w => by kernel_rfl) ?_
  refine N_end (by kernel_rfl) ?_
  refine S_then ?_
  refine S_seq frame_Kind.k7 frame_Kind.k8 (by kernel_rfl) ?_
  refine S_seq frame_Kind.k9 frame_Kind.k10 (by kernel_rfl) ?_
  refine S_region 3 (Code.ops frame_Kind.k9) (by kernel_rfl) ?_
  refine N_run 3 [(0, .pointer hv), (1, .int .u64 f), (8, .int .i64 ra_2), (9, .bool rb_2), (23, .bool (rb != 0))] (fun w => by kernel_rfl) ?_
  by_cases c1 : rb = 0
  · rw [if_pos c1] at h
    have b2 : (rb != 0) = false := bne_eq_false_iff_eq.mpr c1
    refine N_env [(0, .pointer hv), (1, .int .u64 f), (8, .int .i64 ra_2), (9, .bool rb_2), (23, .bool false)] (by simp only [b2, Bool.not_true, Bool.not_false]) ?_
    clear b2
    refine N_run 4 [(0, .pointer hv), (1, .int .u64 f), (8, .int .i64 ra_2), (27, .bool (!rb_2))] (fun w => by kernel_rfl) ?_
    by_cases c3 : rb_2 = true
    · rw [if_pos c3] at h
      have b4 : (!rb_2) = false := congrArg Bool.not (c3)
      have b42 : rb_2 = true := c3
      refine N_env [(0, .pointer hv), (1, .int .u64 f), (8, .int .i64 ra_2), (27, .bool false)] (by simp only [b4, b42, Bool.not_true, Bool.not_false]) ?_
      clear b4 b42
      refine N_run 4 [(0, .pointer hv), (1, .int .u64 f), (8, .int .i64 ra_2), (31, .bool (decide (ra_2 < 0)))] (fun w => by kernel_rfl) ?_
      by_cases c5 : ra_2 < 0
      · rw [if_pos c5] at h
        have b6 : (decide (ra_2 < 0)) = true := decide_eq_true c5
        refine N_env [(0, .pointer hv), (1, .int .u64 f), (8, .int .i64 ra_2), (31, .bool true)] (by simp only [b6, Bool.not_true, Bool.not_false]) ?_
        clear b6
        refine N_run 9 [(8, .int .i64 ra_2), (40, .bool true)] (fun w => by kernel_rfl) ?_
        refine N_end (by kernel_rfl) ?_
        refine S_then ?_
        refine S_condT (.tmp 40) frame_Kind.k11 frame_Kind.k12 (by kernel_rfl) (by kernel_rfl) ?_
        refine S_seq frame_Kind.k13 frame_Kind.k14 (by kernel_rfl) ?_
        refine S_region 4 (Code.ops frame_Kind.k13) (by kernel_rfl) ?_
        refine N_run 2 [(4, .int .i64 0), (5, .int .i64 3)] (fun w => by kernel_rfl) ?_
        refine N_end (by kernel_rfl) ?_
        refine S_then ?_
        refine S_ret (by kernel_rfl) ?_
        show At _ _ _ _ (Q .ret)
        exact S_done (fn := Try.f14) [.int .i64 0, .int .i64 3] hQ (show ResOK _ _ _ [.tmp 4, .tmp 5] _ from .tmp (by kernel_rfl) (.tmp (by kernel_rfl) (.nil))) h
      · rw [if_neg c5] at h
        have b6 : (decide (ra_2 < 0)) = false := decide_eq_false c5
        refine N_env [(0, .pointer hv), (1, .int .u64 f), (8, .int .i64 ra_2), (31, .bool false)] (by simp only [b6, Bool.not_true, Bool.not_false]) ?_
        clear b6
        refine N_run 4 [(0, .pointer hv), (1, .int .u64 f), (8, .int .i64 ra_2), (35, .bool (decide (ra_2 > 2147483647)))] (fun w => by kernel_rfl) ?_
        by_cases c7 : ra_2 > 2147483647
        · rw [if_pos c7] at h
          have b8 : (decide (ra_2 > 2147483647)) = true := decide_eq_true c7
          refine N_env [(0, .pointer hv), (1, .int .u64 f), (8, .int .i64 ra_2), (35, .bool true)] (by simp only [b8, Bool.not_true, Bool.not_false]) ?_
          clear b8
          refine N_run 5 [(8, .int .i64 ra_2), (40, .bool true)] (fun w => by kernel_rfl) ?_
          refine N_end (by kernel_rfl) ?_
          refine S_then ?_
          refine S_condT (.tmp 40) frame_Kind.k11 frame_Kind.k12 (by kernel_rfl) (by kernel_rfl) ?_
          refine S_seq frame_Kind.k13 frame_Kind.k14 (by kernel_rfl) ?_
          refine S_region 4 (Code.ops frame_Kind.k13) (by kernel_rfl) ?_
          refine N_run 2 [(4, .int .i64 0), (5, .int .i64 3)] (fun w => by kernel_rfl) ?_
          refine N_end (by kernel_rfl) ?_
          refine S_then ?_
          refine S_ret (by kernel_rfl) ?_
          show At _ _ _ _ (Q .ret)
          exact S_done (fn := Try.f14) [.int .i64 0, .int .i64 3] hQ (show ResOK _ _ _ [.tmp 4, .tmp 5] _ from .tmp (by kernel_rfl) (.tmp (by kernel_rfl) (.nil))) h
        · rw [if_neg c7] at h
          have b8 : (decide (ra_2 > 2147483647)) = false := decide_eq_false c7
          refine N_env [(0, .pointer hv), (1, .int .u64 f), (8, .int .i64 ra_2), (35, .bool false)] (by simp only [b8, Bool.not_true, Bool.not_false]) ?_
          clear b8
          refine N_run 2 [(8, .int .i64 ra_2), (35, .bool false), (36, .pointer hv), (37, .int .u64 f)] (fun w => by kernel_rfl) ?_
          refine N_call (some 38) 37 #[.pointer hv, .int .u64 f] (fun w => by kernel_rfl) h ?_; clear h
          rintro v_3 H3 ⟨x, rfl, h⟩
          refine ⟨[(8, .int .i64 ra_2), (35, .bool false), (38, .int .i64 x)], ps (by kernel_rfl), ?_⟩
          refine N_run 2 [(8, .int .i64 ra_2), (40, .bool (decide (x < 2)))] (fun w => by kernel_rfl) ?_
          refine N_end (by kernel_rfl) ?_
          refine S_then ?_
          by_cases c9 : x < 2
          · rw [if_pos c9] at h
            have b10 : (decide (x < 2)) = true := decide_eq_true c9
            refine S_env [(8, .int .i64 ra_2), (40, .bool true)] (by simp only [b10, Bool.not_true, Bool.not_false]) ?_
            clear b10
            refine S_condT (.tmp 40) frame_Kind.k11 frame_Kind.k12 (by kernel_rfl) (by kernel_rfl) ?_
            refine S_seq frame_Kind.k13 frame_Kind.k14 (by kernel_rfl) ?_
            refine S_region 4 (Code.ops frame_Kind.k13) (by kernel_rfl) ?_
            refine N_run 2 [(4, .int .i64 0), (5, .int .i64 3)] (fun w => by kernel_rfl) ?_
            refine N_end (by kernel_rfl) ?_
            refine S_then ?_
            refine S_ret (by kernel_rfl) ?_
            show At _ _ _ _ (Q .ret)
            exact S_done (fn := Try.f14) [.int .i64 0, .int .i64 3] hQ (show ResOK _ _ _ [.tmp 4, .tmp 5] _ from .tmp (by kernel_rfl) (.tmp (by kernel_rfl) (.nil))) h
          · rw [if_neg c9] at h
            have b10 : (decide (x < 2)) = false := decide_eq_false c9
            refine S_env [(8, .int .i64 ra_2), (40, .bool false)] (by simp only [b10, Bool.not_true, Bool.not_false]) ?_
            clear b10
            refine S_condF (.tmp 40) frame_Kind.k11 frame_Kind.k12 (by kernel_rfl) (by kernel_rfl) ?_
            refine S_skip (by kernel_rfl) ?_
            refine S_then ?_
            refine S_seq frame_Kind.k15 frame_Kind.k16 (by kernel_rfl) ?_
            refine S_region 5 (Code.ops frame_Kind.k15) (by kernel_rfl) ?_
            refine N_run 3 [(4, .int .i64 ra_2), (5, .int .i64 0)] (fun w => by kernel_rfl) ?_
            refine N_end (by kernel_rfl) ?_
            refine S_then ?_
            refine S_ret (by kernel_rfl) ?_
            show At _ _ _ _ (Q .ret)
            exact S_done (fn := Try.f14) [.int .i64 ra_2, .int .i64 0] hQ (show ResOK _ _ _ [.tmp 4, .tmp 5] _ from .tmp (by kernel_rfl) (.tmp (by kernel_rfl) (.nil))) h
    · rw [if_neg c3] at h
      have b4 : (!rb_2) = true := congrArg Bool.not (eq_false_of_ne_true c3)
      have b42 : rb_2 = false := eq_false_of_ne_true c3
      refine N_env [(0, .pointer hv), (1, .int .u64 f), (8, .int .i64 ra_2), (27, .bool true)] (by simp only [b4, b42, Bool.not_true, Bool.not_false]) ?_
      clear b4 b42
      refine N_run 13 [(8, .int .i64 ra_2), (40, .bool true)] (fun w => by kernel_rfl) ?_
      refine N_end (by kernel_rfl) ?_
      refine S_then ?_
      refine S_condT (.tmp 40) frame_Kind.k11 frame_Kind.k12 (by kernel_rfl) (by kernel_rfl) ?_
      refine S_seq frame_Kind.k13 frame_Kind.k14 (by kernel_rfl) ?_
      refine S_region 4 (Code.ops frame_Kind.k13) (by kernel_rfl) ?_
      refine N_run 2 [(4, .int .i64 0), (5, .int .i64 3)] (fun w => by kernel_rfl) ?_
      refine N_end (by kernel_rfl) ?_
      refine S_then ?_
      refine S_ret (by kernel_rfl) ?_
      show At _ _ _ _ (Q .ret)
      exact S_done (fn := Try.f14) [.int .i64 0, .int .i64 3] hQ (show ResOK _ _ _ [.tmp 4, .tmp 5] _ from .tmp (by kernel_rfl) (.tmp (by kernel_rfl) (.nil))) h
  · rw [if_neg c1] at h
    have b2 : (rb != 0) = true := bne_iff_ne.mpr c1
    refine N_env [(0, .pointer hv), (1, .int .u64 f), (8, .int .i64 ra_2), (9, .bool rb_2), (23, .bool true)] (by simp only [b2, Bool.not_true, Bool.not_false]) ?_
    clear b2
    refine N_run 17 [(8, .int .i64 ra_2), (40, .bool true)] (fun w => by kernel_rfl) ?_
    refine N_end (by kernel_rfl) ?_
    refine S_then ?_
    refine S_condT (.tmp 40) frame_Kind.k11 frame_Kind.k12 (by kernel_rfl) (by kernel_rfl) ?_
    refine S_seq frame_Kind.k13 frame_Kind.k14 (by kernel_rfl) ?_
    refine S_region 4 (Code.ops frame_Kind.k13) (by kernel_rfl) ?_
    refine N_run 2 [(4, .int .i64 0), (5, .int .i64 3)] (fun w => by kernel_rfl) ?_
    refine N_end (by kernel_rfl) ?_
    refine S_then ?_
    refine S_ret (by kernel_rfl) ?_
    show At _ _ _ _ (Q .ret)
    exact S_done (fn := Try.f14) [.int .i64 0, .int .i64 3] hQ (show ResOK _ _ _ [.tmp 4, .tmp 5] _ from .tmp (by kernel_rfl) (.tmp (by kernel_rfl) (.nil))) h

/-! moraine/frame.Next -/
noncomputable def frame_Next.k0 : Code := Func.code Try.f15
noncomputable def frame_Next.k1 : Code := Code.fa frame_Next.k0
noncomputable def frame_Next.k2 : Code := Code.fb frame_Next.k0
noncomputable def frame_Next.k3 : Code := Code.fa frame_Next.k2
noncomputable def frame_Next.k4 : Code := Code.fb frame_Next.k2
noncomputable def frame_Next.k5 : Code := Code.fa frame_Next.k3
noncomputable def frame_Next.k6 : Code := Code.fb frame_Next.k3
noncomputable def frame_Next.k7 : Code := Code.fa frame_Next.k6
noncomputable def frame_Next.k8 : Code := Code.fb frame_Next.k6
noncomputable def frame_Next.k9 : Code := Code.fa frame_Next.k4
noncomputable def frame_Next.k10 : Code := Code.fb frame_Next.k4
noncomputable def frame_Next.k11 : Code := Code.fa frame_Next.k7
noncomputable def frame_Next.k12 : Code := Code.fb frame_Next.k7
def frame_Next.pt (hv : Option Addr) (f : Int) (H : Array Obj) (R : Value → Array Obj → Prop) : Prop :=
 frame_is.C hv f 8 2 H (fun v H1 => ∃ x : Bool, v = .bool x ∧ 
  if x = true then (
   obj_Heap_Get.C hv f 8 1 H1 (fun v_2 H2 => ∃ ra : Int, ∃ rb : Int, v_2 = .tuple #[.int .u64 ra, .int .i64 rb] ∧ 
    R (.tuple #[.int .u64 ra, .int .i64 rb]) H2))
  else
  R (.tuple #[.int .u64 0, .int .i64 3]) H1)
set_option maxRecDepth 100000 in
theorem frame_Next.link {hv : Option Addr} {f : Int} {H : Array Obj} {R : Value → Array Obj → Prop} (h : frame_Next.pt hv f H R) : frame_Next.C hv f H R := by
  refine S_enter (fn := Try.f15) (c := frame_Next.k0) 15 Try.func15 (by kernel_rfl) (by kernel_rfl) (Nat.le_of_ble_eq_true (by kernel_rfl)) ?_
  intro w0 Q hQ
  unfold frame_Next.pt at h
  refine S_sub [(0, .pointer hv), (1, .int .u64 f)] (sb (by kernel_rfl)) ?_
  refine S_seq frame_Next.k1 frame_Next.k2 (by kernel_rfl) ?_
  refine S_region 0 (Code.ops frame_Next.k1) (by kernel_rfl) ?_
  refine N_run 2 [(0, .pointer hv), (1, .int .u64 f)] (fun w => by kernel_rfl) ?_
  refine N_end (by kernel_rfl) ?_
  refine S_then ?_
  refine S_seq frame_Next.k3 frame_Next.k4 (by kernel_rfl) ?_
  refine S_seq frame_Next.k5 frame_Next.k6 (by kernel_rfl) ?_
  refine S_region 1 (Code.ops frame_Next.k5) (by kernel_rfl) ?_
  refine N_run 2 [(0, .pointer hv), (1, .int .u64 f), (6, .pointer hv), (7, .int .u64 f)] (fun w => by kernel_rfl) ?_
  refine N_call (some 8) 56 #[.pointer hv, .int .u64 f, .int .i64 8, .int .i64 2] (fun w => by kernel_rfl) h ?_; clear h
  rintro v H1 ⟨x, rfl, h⟩
  refine ⟨[(0, .pointer hv), (1, .int .u64 f), (8, .bool x)], ps (by kernel_rfl), ?_⟩
  refine N_run 1 [(0, .pointer hv), (1, .int .u64 f), (9, .bool (!x))] (fun w => by kernel_rfl) ?_
  refine N_end (by kernel_rfl) ?_
  refine S_then ?_
  by_cases c1 : x = true
  · rw [if_pos c1] at h
    have b2 : (!x) = false := congrArg Bool.not (c1)
    have b22 : x = true := c1
    refine S_env [(0, .pointer hv), (1, .int .u64 f), (9, .bool false)] (by simp only [b2, b22, Bool.not_true, Bool.not_false]) ?_
    clear b2 b22
    refine S_condF (.tmp 9) frame_Next.k7 frame_Next.k8 (by kernel_rfl) (by kernel_rfl) ?_
    refine S_skip (by kernel_rfl) ?_
    refine S_then ?_
    refine S_seq frame_Next.k9 frame_Next.k10 (by kernel_rfl) ?_
    refine S_region 3 (Code.ops frame_Next.k9) (by kernel_rfl) ?_
    refine N_run 2 [(10, .pointer hv), (11, .int .u64 f)] (fun w => by kernel_rfl) ?_
    refine N_call (some 12) 38 #[.pointer hv, .int .u64 f, .int .i64 8, .int .i64 1] (fun w => by kernel_rfl) h ?_; clear h
    rintro v_2 H2 ⟨ra, rb, rfl, h⟩
    refine ⟨[(12, .tuple #[.int .u64 ra, .int .i64 rb])], ps (by kernel_rfl), ?_⟩
    refine N_run 4 [(4, .int .u64 ra), (5, .int .i64 rb)] (fun w => by kernel_rfl) ?_
    refine N_end (by kernel_rfl) ?_
    refine S_then ?_
    refine S_ret (by kernel_rfl) ?_
    show At _ _ _ _ (Q .ret)
    exact S_done (fn := Try.f15) [.int .u64 ra, .int .i64 rb] hQ (show ResOK _ _ _ [.tmp 4, .tmp 5] _ from .tmp (by kernel_rfl) (.tmp (by kernel_rfl) (.nil))) h
  · rw [if_neg c1] at h
    have b2 : (!x) = true := congrArg Bool.not (eq_false_of_ne_true c1)
    have b22 : x = false := eq_false_of_ne_true c1
    refine S_env [(0, .pointer hv), (1, .int .u64 f), (9, .bool true)] (by simp only [b2, b22, Bool.not_true, Bool.not_false]) ?_
    clear b2 b22
    refine S_condT (.tmp 9) frame_Next.k7 frame_Next.k8 (by kernel_rfl) (by kernel_rfl) ?_
    refine S_seq frame_Next.k11 frame_Next.k12 (by kernel_rfl) ?_
    refine S_region 2 (Code.ops frame_Next.k11) (by kernel_rfl) ?_
    refine N_run 2 [(4, .int .u64 0), (5, .int .i64 3)] (fun w => by kernel_rfl) ?_
    refine N_end (by kernel_rfl) ?_
    refine S_then ?_
    refine S_ret (by kernel_rfl) ?_
    show At _ _ _ _ (Q .ret)
    exact S_done (fn := Try.f15) [.int .u64 0, .int .i64 3] hQ (show ResOK _ _ _ [.tmp 4, .tmp 5] _ from .tmp (by kernel_rfl) (.tmp (by kernel_rfl) (.nil))) h

/-! moraine/frame.Push -/
noncomputable def frame_Push.k0 : Code := Func.code Try.f16
noncomputable def frame_Push.k1 : Code := Code.fa frame_Push.k0
noncomputable def frame_Push.k2 : Code := Code.fb frame_Push.k0
noncomputable def frame_Push.k3 : Code := Code.fa frame_Push.k2
noncomputable def frame_Push.k4 : Code := Code.fb frame_Push.k2
noncomputable def frame_Push.k5 : Code := Code.fa frame_Push.k4
noncomputable def frame_Push.k6 : Code := Code.fb frame_Push.k4
noncomputable def frame_Push.k7 : Code := Code.fa frame_Push.k5
noncomputable def frame_Push.k8 : Code := Code.fa frame_Push.k7
noncomputable def frame_Push.k9 : Code := Code.fb frame_Push.k7
noncomputable def frame_Push.k10 : Code := Code.fa frame_Push.k9
noncomputable def frame_Push.k11 : Code := Code.fb frame_Push.k9
noncomputable def frame_Push.k12 : Code := Code.fa frame_Push.k10
noncomputable def frame_Push.k13 : Code := Code.fb frame_Push.k10
noncomputable def frame_Push.k14 : Code := Code.fa frame_Push.k11
noncomputable def frame_Push.k15 : Code := Code.fb frame_Push.k11
noncomputable def frame_Push.k16 : Code := Code.fa frame_Push.k15
noncomputable def frame_Push.k17 : Code := Code.fb frame_Push.k15
noncomputable def frame_Push.k18 : Code := Code.fa frame_Push.k6
noncomputable def frame_Push.k19 : Code := Code.fb frame_Push.k6
noncomputable def frame_Push.k20 : Code := Code.fa frame_Push.k16
noncomputable def frame_Push.k21 : Code := Code.fb frame_Push.k16
def frame_Push.pt (hv : Option Addr) (kind : Int) (nextv : Int) (fieldsB : Option Addr) (fieldsN : Nat) (fieldsC : Nat) (H : Array Obj) (R : Value → Array Obj → Prop) : Prop :=
 word_Fix.C kind H (fun v H1 => ∃ ra : Int, ∃ rb : Int, v = .tuple #[.int .u64 ra, .int .i64 rb] ∧ 
  if ((decide (kind < 0)) || (decide (kind > 2147483647))) = true then (
   R (.tuple #[.int .u64 0, .int .i64 1]) H1)
  else
  if nextv = 20 then (
   ∀ (b : Nat) (H2 : Array Obj), b = H1.size → H2 = H1.push (.cells #[.int .u64 ra, .int .u64 nextv] 29) →
   appendK 1 29 8 [.int .u64 0] (some (Addr.mk b 0 none)) 2 2 fieldsB fieldsN H2 (fun ap apC H3 =>
    obj_Heap_Make.C hv 8 0 ap (2 + fieldsN) apC H3 (fun v_2 H4 => ∃ ra_2 : Int, ∃ rb_2 : Int, v_2 = .tuple #[.int .u64 ra_2, .int .i64 rb_2] ∧ 
     R (.tuple #[.int .u64 ra_2, .int .i64 rb_2]) H4)))
  else
  obj_Heap_Type.C hv nextv H1 (fun v_3 H5 => ∃ x : Int, v_3 = .int .i64 x ∧ 
   if x = 8 then (
    ∀ (b_2 : Nat) (H6 : Array Obj), b_2 = H5.size → H6 = H5.push (.cells #[.int .u64 ra, .int .u64 nextv] 29) →
    appendK 1 29 8 [.int .u64 0] (some (Addr.mk b_2 0 none)) 2 2 fieldsB fieldsN H6 (fun ap_2 apC_2 H7 =>
     obj_Heap_Make.C hv 8 0 ap_2 (2 + fieldsN) apC_2 H7 (fun v_4 H8 => ∃ ra_3 : Int, ∃ rb_3 : Int, v_4 = .tuple #[.int .u64 ra_3, .int .i64 rb_3] ∧ 
      R (.tuple #[.int .u64 ra_3, .int .i64 rb_3]) H8)))
   else
   R (.tuple #[.int .u64 0, .int .i64 3]) H5))
set_option maxRecDepth 100000 in
theorem frame_Push.link {hv : Option Addr} {kind : Int} {nextv : Int} {fieldsB : Option Addr} {fieldsN : Nat} {fieldsC : Nat} {H : Array Obj} {R : Value → Array Obj → Prop} (h : frame_Push.pt hv kind nextv fieldsB fieldsN fieldsC H R) : frame_Push.C hv kind nextv fieldsB fieldsN fieldsC H R := by
  refine S_enter (fn := Try.f16) (c := frame_Push.k0) 42 Try.func16 (by kernel_rfl) (by kernel_rfl) (Nat.le_of_ble_eq_true (by kernel_rfl)) ?_
  intro w0 Q hQ
  unfold frame_Push.pt at h
  refine S_sub [(0, .pointer hv), (1, .int .i64 kind), (2, .int .u64 nextv), (3, .slice fieldsB fieldsN fieldsC)] (sb (by kernel_rfl)) ?_
  refine S_seq frame_Push.k1 frame_Push.k2 (by kernel_rfl) ?_
  refine S_region 0 (Code.ops frame_Push.k1) (by kernel_rfl) ?_
  refine N_run 2 [(0, .pointer hv), (1, .int .i64 kind), (2, .int .u64 nextv), (3, .slice fieldsB fieldsN fieldsC)] (fun w => by kernel_rfl) ?_
  refine N_end (by kernel_rfl) ?_
  refine S_then ?_
  refine S_seq frame_Push.k3 frame_Push.k4 (by kernel_rfl) ?_
  refine S_region 1 (Code.ops frame_Push.k3) (by kernel_rfl) ?_
  refine N_run 1 [(0, .pointer hv), (1, .int .i64 kind), (2, .int .u64 nextv), (3, .slice fieldsB fieldsN fieldsC), (13, .int .i64 kind)] (fun w => by kernel_rfl) ?_
  refine N_call (some 14) 57 #[.int .i64 kind] (fun w => by kernel_rfl) h ?_; clear h
  rintro v H1 ⟨ra, rb, rfl, h⟩
  refine ⟨[(0, .pointer hv), (1, .int .i64 kind), (2, .int .u64 nextv), (3, .slice fieldsB fieldsN fieldsC), (14, .tuple #[.int .u64 ra, .int .i64 rb])], ps (by kernel_rfl), ?_⟩
  refine N_run 5 [(0, .pointer hv), (1, .int .i64 kind), (2, .int .u64 nextv), (3, .slice fieldsB fieldsN fieldsC), (10, .int .u64 ra)] (fun w => by kernel_rfl) ?_
  refine N_end (by kernel_rfl) ?_
  refine S_then ?_
  refine S_seq frame_Push.k5 frame_Push.k6 (by kernel_rfl) ?_
  refine S_block 0 frame_Push.k7 (by kernel_rfl) ?_
  refine S_seq frame_Push.k8 frame_Push.k9 (by kernel_rfl) ?_
  refine S_region 2 (Code.ops frame_Push.k8) (by kernel_rfl) ?_
  refine N_cut [(0, .pointer hv), (2, .int .u64 nextv), (3, .slice fieldsB fieldsN fieldsC), (10, .int .u64 ra), (17, .bool ((decide (kind < 0)) || (decide (kind > 2147483647))))] ?_ ?_
  · refine S_then ?_
    by_cases c3 : ((decide (kind < 0)) || (decide (kind > 2147483647))) = true
    · rw [if_pos c3] at h
      have b4 : ((decide (kind < 0)) || (decide (kind > 2147483647))) = true := c3
      refine S_env [(0, .pointer hv), (2, .int .u64 nextv), (3, .slice fieldsB fieldsN fieldsC), (10, .int .u64 ra), (17, .bool true)] (by simp only [b4, Bool.not_true, Bool.not_false]) ?_
      clear b4
      refine S_condT (.tmp 17) frame_Push.k10 frame_Push.k11 (by kernel_rfl) (by kernel_rfl) ?_
      refine S_seq frame_Push.k12 frame_Push.k13 (by kernel_rfl) ?_
      refine S_region 3 (Code.ops frame_Push.k12) (by kernel_rfl) ?_
      refine N_run 2 [(8, .int .u64 0), (9, .int .i64 1)] (fun w => by kernel_rfl) ?_
      refine N_end (by kernel_rfl) ?_
      refine S_then ?_
      refine S_ret (by kernel_rfl) ?_
      show At _ _ _ _ (Q .ret)
      exact S_done (fn := Try.f16) [.int .u64 0, .int .i64 1] hQ (show ResOK _ _ _ [.tmp 8, .tmp 9] _ from .tmp (by kernel_rfl) (.tmp (by kernel_rfl) (.nil))) h
    · rw [if_neg c3] at h
      have b4 : ((decide (kind < 0)) || (decide (kind > 2147483647))) = false := eq_false_of_ne_true c3
      refine S_env [(0, .pointer hv), (2, .int .u64 nextv), (3, .slice fieldsB fieldsN fieldsC), (10, .int .u64 ra), (17, .bool false)] (by simp only [b4, Bool.not_true, Bool.not_false]) ?_
      clear b4
      refine S_condF (.tmp 17) frame_Push.k10 frame_Push.k11 (by kernel_rfl) (by kernel_rfl) ?_
      refine S_seq frame_Push.k14 frame_Push.k15 (by kernel_rfl) ?_
      refine S_region 4 (Code.ops frame_Push.k14) (by kernel_rfl) ?_
      refine N_run 3 [(0, .pointer hv), (2, .int .u64 nextv), (3, .slice fieldsB fieldsN fieldsC), (10, .int .u64 ra), (27, .bool (nextv != 20))] (fun w => by kernel_rfl) ?_
      by_cases c5 : nextv = 20
      · rw [if_pos c5] at h
        have b6 : (nextv != 20) = false := bne_eq_false_iff_eq.mpr c5
        refine N_env [(0, .pointer hv), (2, .int .u64 nextv), (3, .slice fieldsB fieldsN fieldsC), (10, .int .u64 ra), (27, .bool false)] (by simp only [b6, Bool.not_true, Bool.not_false]) ?_
        clear b6
        refine N_run 6 [(0, .pointer hv), (2, .int .u64 nextv), (3, .slice fieldsB fieldsN fieldsC), (10, .int .u64 ra), (24, .bool false)] (fun w => by kernel_rfl) ?_
        refine N_end (by kernel_rfl) ?_
        refine S_then ?_
        refine S_condF (.tmp 24) frame_Push.k16 frame_Push.k17 (by kernel_rfl) (by kernel_rfl) ?_
        refine S_skip (by kernel_rfl) ?_
        refine S_blockEnd ?_
        refine S_then ?_
        refine S_seq frame_Push.k18 frame_Push.k19 (by kernel_rfl) ?_
        refine S_region 6 (Code.ops frame_Push.k18) (by kernel_rfl) ?_
        refine N_run 3 [(3, .slice fieldsB fieldsN fieldsC), (33, .pointer hv), (34, .int .u64 ra), (35, .int .u64 nextv)] (fun w => by kernel_rfl) ?_
        refine N_new (some 36) (fun b => .slice (some (Addr.mk b 0 none)) 2 2) (.cells #[.int .u64 ra, .int .u64 nextv] 29) (fun w => by kernel_rfl) ?_
        intro b H2 e7 e8
        replace h := h b H2 e7 e8
        refine ⟨[(3, .slice fieldsB fieldsN fieldsC), (33, .pointer hv), (36, .slice (some (Addr.mk b 0 none)) 2 2)], ps (by kernel_rfl), ?_⟩
        refine N_run 1 [(33, .pointer hv), (36, .slice (some (Addr.mk b 0 none)) 2 2), (37, .slice fieldsB fieldsN fieldsC)] (fun w => by kernel_rfl) ?_
        refine N_op (some 38) (appendN #[39, 39] 39 #[.slice (some (Addr.mk b 0 none)) 2 2, .slice fieldsB fieldsN fieldsC]) _ (fun w => by kernel_rfl) (ss_append (T := 29) (sz := 1) (bytes := 8) (zero := .int .u64 0) Try.underlying39 Try.underlying39 rfl (show Try.prog.info? 29 = some Try.t29 from by kernel_rfl) (by kernel_rfl) (by kernel_rfl) (by decide) (by kernel_rfl) h) ?_
        rintro _ H3 ⟨ap, apC, rfl, h⟩
        refine ⟨[(33, .pointer hv), (38, .slice ap (2 + fieldsN) apC)], ps (by kernel_rfl), ?_⟩
        refine N_call (some 39) 30 #[.pointer hv, .int .i64 8, .int .u64 0, .slice ap (2 + fieldsN) apC] (fun w => by kernel_rfl) h ?_; clear h
        rintro v_2 H4 ⟨ra_2, rb_2, rfl, h⟩
        refine ⟨[(39, .tuple #[.int .u64 ra_2, .int .i64 rb_2])], ps (by kernel_rfl), ?_⟩
        refine N_run 4 [(8, .int .u64 ra_2), (9, .int .i64 rb_2)] (fun w => by kernel_rfl) ?_
        refine N_end (by kernel_rfl) ?_
        refine S_then ?_
        refine S_ret (by kernel_rfl) ?_
        show At _ _ _ _ (Q .ret)
        exact S_done (fn := Try.f16) [.int .u64 ra_2, .int .i64 rb_2] hQ (show ResOK _ _ _ [.tmp 8, .tmp 9] _ from .tmp (by kernel_rfl) (.tmp (by kernel_rfl) (.nil))) h
      · rw [if_neg c5] at h
        have b6 : (nextv != 20) = true := bne_iff_ne.mpr c5
        refine N_env [(0, .pointer hv), (2, .int .u64 nextv), (3, .slice fieldsB fieldsN fieldsC), (10, .int .u64 ra), (27, .bool true)] (by simp only [b6, Bool.not_true, Bool.not_false]) ?_
        clear b6
        refine N_run 2 [(0, .pointer hv), (2, .int .u64 nextv), (3, .slice fieldsB fieldsN fieldsC), (10, .int .u64 ra), (27, .bool true), (28, .pointer hv), (29, .int .u64 nextv)] (fun w => by kernel_rfl) ?_
        refine N_call (some 30) 36 #[.pointer hv, .int .u64 nextv] (fun w => by kernel_rfl) h ?_; clear h
        rintro v_3 H5 ⟨x, rfl, h⟩
        refine ⟨[(0, .pointer hv), (2, .int .u64 nextv), (3, .slice fieldsB fieldsN fieldsC), (10, .int .u64 ra), (27, .bool true), (30, .int .i64 x)], ps (by kernel_rfl), ?_⟩
        refine N_run 3 [(0, .pointer hv), (2, .int .u64 nextv), (3, .slice fieldsB fieldsN fieldsC), (10, .int .u64 ra), (24, .bool (x != 8))] (fun w => by kernel_rfl) ?_
        refine N_end (by kernel_rfl) ?_
        refine S_then ?_
        by_cases c9 : x = 8
        · rw [if_pos c9] at h
          have b10 : (x != 8) = false := bne_eq_false_iff_eq.mpr c9
          refine S_env [(0, .pointer hv), (2, .int .u64 nextv), (3, .slice fieldsB fieldsN fieldsC), (10, .int .u64 ra), (24, .bool false)] (by simp only [b10, Bool.not_true, Bool.not_false]) ?_
          clear b10
          refine S_condF (.tmp 24) frame_Push.k16 frame_Push.k17 (by kernel_rfl) (by kernel_rfl) ?_
          refine S_skip (by kernel_rfl) ?_
          refine S_blockEnd ?_
          refine S_then ?_
          refine S_seq frame_Push.k18 frame_Push.k19 (by kernel_rfl) ?_
          refine S_region 6 (Code.ops frame_Push.k18) (by kernel_rfl) ?_
          refine N_run 3 [(3, .slice fieldsB fieldsN fieldsC), (33, .pointer hv), (34, .int .u64 ra), (35, .int .u64 nextv)] (fun w => by kernel_rfl) ?_
          refine N_new (some 36) (fun b => .slice (some (Addr.mk b 0 none)) 2 2) (.cells #[.int .u64 ra, .int .u64 nextv] 29) (fun w => by kernel_rfl) ?_
          intro b_2 H6 e11 e12
          replace h := h b_2 H6 e11 e12
          refine ⟨[(3, .slice fieldsB fieldsN fieldsC), (33, .pointer hv), (36, .slice (some (Addr.mk b_2 0 none)) 2 2)], ps (by kernel_rfl), ?_⟩
          refine N_run 1 [(33, .pointer hv), (36, .slice (some (Addr.mk b_2 0 none)) 2 2), (37, .slice fieldsB fieldsN fieldsC)] (fun w => by kernel_rfl) ?_
          refine N_op (some 38) (appendN #[39, 39] 39 #[.slice (some (Addr.mk b_2 0 none)) 2 2, .slice fieldsB fieldsN fieldsC]) _ (fun w => by kernel_rfl) (ss_append (T := 29) (sz := 1) (bytes := 8) (zero := .int .u64 0) Try.underlying39 Try.underlying39 rfl (show Try.prog.info? 29 = some Try.t29 from by kernel_rfl) (by kernel_rfl) (by kernel_rfl) (by decide) (by kernel_rfl) h) ?_
          rintro _ H7 ⟨ap_2, apC_2, rfl, h⟩
          refine ⟨[(33, .pointer hv), (38, .slice ap_2 (2 + fieldsN) apC_2)], ps (by kernel_rfl), ?_⟩
          refine N_call (some 39) 30 #[.pointer hv, .int .i64 8, .int .u64 0, .slice ap_2 (2 + fieldsN) apC_2] (fun w => by kernel_rfl) h ?_; clear h
          rintro v_4 H8 ⟨ra_3, rb_3, rfl, h⟩
          refine ⟨[(39, .tuple #[.int .u64 ra_3, .int .i64 rb_3])], ps (by kernel_rfl), ?_⟩
          refine N_run 4 [(8, .int .u64 ra_3), (9, .int .i64 rb_3)] (fun w => by kernel_rfl) ?_
          refine N_end (by kernel_rfl) ?_
          refine S_then ?_
          refine S_ret (by kernel_rfl) ?_
          show At _ _ _ _ (Q .ret)
          exact S_done (fn := Try.f16) [.int .u64 ra_3, .int .i64 rb_3] hQ (show ResOK _ _ _ [.tmp 8, .tmp 9] _ from .tmp (by kernel_rfl) (.tmp (by kernel_rfl) (.nil))) h
        · rw [if_neg c9] at h
          have b10 : (x != 8) = true := bne_iff_ne.mpr c9
          refine S_env [(0, .pointer hv), (2, .int .u64 nextv), (3, .slice fieldsB fieldsN fieldsC), (10, .int .u64 ra), (24, .bool true)] (by simp only [b10, Bool.not_true, Bool.not_false]) ?_
          clear b10
          refine S_condT (.tmp 24) frame_Push.k16 frame_Push.k17 (by kernel_rfl) (by kernel_rfl) ?_
          refine S_seq frame_Push.k20 frame_Push.k21 (by kernel_rfl) ?_
          refine S_region 5 (Code.ops frame_Push.k20) (by kernel_rfl) ?_
          refine N_run 2 [(8, .int .u64 0), (9, .int .i64 3)] (fun w => by kernel_rfl) ?_
          refine N_end (by kernel_rfl) ?_
          refine S_then ?_
          refine S_ret (by kernel_rfl) ?_
          show At _ _ _ _ (Q .ret)
          exact S_done (fn := Try.f16) [.int .u64 0, .int .i64 3] hQ (show ResOK _ _ _ [.tmp 8, .tmp 9] _ from .tmp (by kernel_rfl) (.tmp (by kernel_rfl) (.nil))) h
  · intro hk
    refine N_run 3 [(0, .pointer hv), (1, .int .i64 kind), (2, .int .u64 nextv), (3, .slice fieldsB fieldsN fieldsC), (10, .int .u64 ra), (20, .bool (decide (kind < 0)))] (fun w => by kernel_rfl) ?_
    by_cases c1 : kind < 0
    · have b2 : (decide (kind < 0)) = true := decide_eq_true c1
      refine N_env [(0, .pointer hv), (1, .int .i64 kind), (2, .int .u64 nextv), (3, .slice fieldsB fieldsN fieldsC), (10, .int .u64 ra), (20, .bool true)] (by simp only [b2, Bool.not_true, Bool.not_false]) ?_
      refine N_run 4 [(0, .pointer hv), (2, .int .u64 nextv), (3, .slice fieldsB fieldsN fieldsC), (10, .int .u64 ra), (17, .bool true)] (fun w => by kernel_rfl) ?_
      refine N_end (by kernel_rfl) ?_
      refine S_env [(0, .pointer hv), (2, .int .u64 nextv), (3, .slice fieldsB fieldsN fieldsC), (10, .int .u64 ra), (17, .bool ((decide (kind < 0)) || (decide (kind > 2147483647))))] (by simp only [b2, Bool.true_or, Bool.false_or, Bool.or_true, Bool.or_false, Bool.true_and, Bool.false_and, Bool.and_true, Bool.and_false, Bool.not_true, Bool.not_false, cond_true, cond_false]) ?_
      exact hk
    · have b2 : (decide (kind < 0)) = false := decide_eq_false c1
      refine N_env [(0, .pointer hv), (1, .int .i64 kind), (2, .int .u64 nextv), (3, .slice fieldsB fieldsN fieldsC), (10, .int .u64 ra), (20, .bool false)] (by simp only [b2, Bool.not_true, Bool.not_false]) ?_
      refine N_run 4 [(0, .pointer hv), (2, .int .u64 nextv), (3, .slice fieldsB fieldsN fieldsC), (10, .int .u64 ra), (17, .bool (decide (kind > 2147483647)))] (fun w => by kernel_rfl) ?_
      refine N_end (by kernel_rfl) ?_
      refine S_env [(0, .pointer hv), (2, .int .u64 nextv), (3, .slice fieldsB fieldsN fieldsC), (10, .int .u64 ra), (17, .bool ((decide (kind < 0)) || (decide (kind > 2147483647))))] (by simp only [b2, Bool.true_or, Bool.false_or, Bool.or_true, Bool.or_false, Bool.true_and, Bool.false_and, Bool.and_true, Bool.and_false, Bool.not_true, Bool.not_false, cond_true, cond_false]) ?_
      exact hk

/-! moraine/frame.Fields -/
noncomputable def frame_Fields.k0 : Code := Func.code Try.f17
noncomputable def frame_Fields.k1 : Code := Code.fa frame_Fields.k0
noncomputable def frame_Fields.k2 : Code := Code.fb frame_Fields.k0
noncomputable def frame_Fields.k3 : Code := Code.fa frame_Fields.k2
noncomputable def frame_Fields.k4 : Code := Code.fb frame_Fields.k2
noncomputable def frame_Fields.k5 : Code := Code.fa frame_Fields.k3
noncomputable def frame_Fields.k6 : Code := Code.fb frame_Fields.k3
noncomputable def frame_Fields.k7 : Code := Code.fa frame_Fields.k6
noncomputable def frame_Fields.k8 : Code := Code.fb frame_Fields.k6
noncomputable def frame_Fields.k9 : Code := Code.fa frame_Fields.k4
noncomputable def frame_Fields.k10 : Code := Code.fb frame_Fields.k4
noncomputable def frame_Fields.k11 : Code := Code.fa frame_Fields.k7
noncomputable def frame_Fields.k12 : Code := Code.fb frame_Fields.k7
def frame_Fields.pt (hv : Option Addr) (f : Int) (H : Array Obj) (R : Value → Array Obj → Prop) : Prop :=
 frame_is.C hv f 8 2 H (fun v H1 => ∃ x : Bool, v = .bool x ∧ 
  if x = true then (
   obj_Heap_Len.C hv f H1 (fun v_2 H2 => ∃ x_2 : Int, v_2 = .int .i64 x_2 ∧ 
    R (.int .i64 (IntKind.wrap .i64 (x_2 - 2))) H2))
  else
  R (.int .i64 0) H1)
set_option maxRecDepth 100000 in
theorem frame_Fields.link {hv : Option Addr} {f : Int} {H : Array Obj} {R : Value → Array Obj → Prop} (h : frame_Fields.pt hv f H R) : frame_Fields.C hv f H R := by
  refine S_enter (fn := Try.f17) (c := frame_Fields.k0) 13 Try.func17 (by kernel_rfl) (by kernel_rfl) (Nat.le_of_ble_eq_true (by kernel_rfl)) ?_
  intro w0 Q hQ
  unfold frame_Fields.pt at h
  refine S_sub [(0, .pointer hv), (1, .int .u64 f)] (sb (by kernel_rfl)) ?_
  refine S_seq frame_Fields.k1 frame_Fields.k2 (by kernel_rfl) ?_
  refine S_region 0 (Code.ops frame_Fields.k1) (by kernel_rfl) ?_
  refine N_run 1 [(0, .pointer hv), (1, .int .u64 f)] (fun w => by kernel_rfl) ?_
  refine N_end (by kernel_rfl) ?_
  refine S_then ?_
  refine S_seq frame_Fields.k3 frame_Fields.k4 (by kernel_rfl) ?_
  refine S_seq frame_Fields.k5 frame_Fields.k6 (by kernel_rfl) ?_
  refine S_region 1 (Code.ops frame_Fields.k5) (by kernel_rfl) ?_
  refine N_run 2 [(0, .pointer hv), (1, .int .u64 f), (5, .pointer hv), (6, .int .u64 f)] (fun w => by kernel_rfl) ?_
  refine N_call (some 7) 56 #[.pointer hv, .int .u64 f, .int .i64 8, .int .i64 2] (fun w => by kernel_rfl) h ?_; clear h
  rintro v H1 ⟨x, rfl, h⟩
  refine ⟨[(0, .pointer hv), (1, .int .u64 f), (7, .bool x)], ps (by kernel_rfl), ?_⟩
  refine N_run 1 [(0, .pointer hv), (1, .int .u64 f), (8, .bool (!x))] (fun w => by kernel_rfl) ?_
  refine N_end (by kernel_rfl) ?_
  refine S_then ?_
  by_cases c1 : x = true
  · rw [if_pos c1] at h
    have b2 : (!x) = false := congrArg Bool.not (c1)
    have b22 : x = true := c1
    refine S_env [(0, .pointer hv), (1, .int .u64 f), (8, .bool false)] (by simp only [b2, b22, Bool.not_true, Bool.not_false]) ?_
    clear b2 b22
    refine S_condF (.tmp 8) frame_Fields.k7 frame_Fields.k8 (by kernel_rfl) (by kernel_rfl) ?_
    refine S_skip (by kernel_rfl) ?_
    refine S_then ?_
    refine S_seq frame_Fields.k9 frame_Fields.k10 (by kernel_rfl) ?_
    refine S_region 3 (Code.ops frame_Fields.k9) (by kernel_rfl) ?_
    refine N_run 2 [(9, .pointer hv), (10, .int .u64 f)] (fun w => by kernel_rfl) ?_
    refine N_call (some 11) 37 #[.pointer hv, .int .u64 f] (fun w => by kernel_rfl) h ?_; clear h
    rintro v_2 H2 ⟨x_2, rfl, h⟩
    refine ⟨[(11, .int .i64 x_2)], ps (by kernel_rfl), ?_⟩
    refine N_run 2 [(4, .int .i64 (IntKind.wrap .i64 (x_2 - 2)))] (fun w => by kernel_rfl) ?_
    refine N_end (by kernel_rfl) ?_
    refine S_then ?_
    refine S_ret (by kernel_rfl) ?_
    show At _ _ _ _ (Q .ret)
    exact S_done (fn := Try.f17) [.int .i64 (IntKind.wrap .i64 (x_2 - 2))] hQ (show ResOK _ _ _ [.tmp 4] _ from .tmp (by kernel_rfl) (.nil)) h
  · rw [if_neg c1] at h
    have b2 : (!x) = true := congrArg Bool.not (eq_false_of_ne_true c1)
    have b22 : x = false := eq_false_of_ne_true c1
    refine S_env [(0, .pointer hv), (1, .int .u64 f), (8, .bool true)] (by simp only [b2, b22, Bool.not_true, Bool.not_false]) ?_
    clear b2 b22
    refine S_condT (.tmp 8) frame_Fields.k7 frame_Fields.k8 (by kernel_rfl) (by kernel_rfl) ?_
    refine S_seq frame_Fields.k11 frame_Fields.k12 (by kernel_rfl) ?_
    refine S_region 2 (Code.ops frame_Fields.k11) (by kernel_rfl) ?_
    refine N_run 1 [(4, .int .i64 0)] (fun w => by kernel_rfl) ?_
    refine N_end (by kernel_rfl) ?_
    refine S_then ?_
    refine S_ret (by kernel_rfl) ?_
    show At _ _ _ _ (Q .ret)
    exact S_done (fn := Try.f17) [.int .i64 0] hQ (show ResOK _ _ _ [.tmp 4] _ from .tmp (by kernel_rfl) (.nil)) h

/-! moraine/frame.Field -/
noncomputable def frame_Field.k0 : Code := Func.code Try.f18
noncomputable def frame_Field.k1 : Code := Code.fa frame_Field.k0
noncomputable def frame_Field.k2 : Code := Code.fb frame_Field.k0
noncomputable def frame_Field.k3 : Code := Code.fa frame_Field.k2
noncomputable def frame_Field.k4 : Code := Code.fb frame_Field.k2
noncomputable def frame_Field.k5 : Code := Code.fa frame_Field.k3
noncomputable def frame_Field.k6 : Code := Code.fa frame_Field.k5
noncomputable def frame_Field.k7 : Code := Code.fb frame_Field.k5
noncomputable def frame_Field.k8 : Code := Code.fa frame_Field.k7
noncomputable def frame_Field.k9 : Code := Code.fb frame_Field.k7
noncomputable def frame_Field.k10 : Code := Code.fa frame_Field.k9
noncomputable def frame_Field.k11 : Code := Code.fb frame_Field.k9
noncomputable def frame_Field.k12 : Code := Code.fa frame_Field.k11
noncomputable def frame_Field.k13 : Code := Code.fb frame_Field.k11
noncomputable def frame_Field.k14 : Code := Code.fa frame_Field.k12
noncomputable def frame_Field.k15 : Code := Code.fb frame_Field.k12
noncomputable def frame_Field.k16 : Code := Code.fa frame_Field.k4
noncomputable def frame_Field.k17 : Code := Code.fb frame_Field.k4
noncomputable def frame_Field.k18 : Code := Code.fa frame_Field.k8
noncomputable def frame_Field.k19 : Code := Code.fb frame_Field.k8
def frame_Field.pt (hv : Option Addr) (f : Int) (i : Int) (H : Array Obj) (R : Value → Array Obj → Prop) : Prop :=
 frame_is.C hv f 8 2 H (fun v H1 => ∃ x : Bool, v = .bool x ∧ 
  if x = true then (
   if i < 0 then (
    R (.tuple #[.int .u64 0, .int .i64 4]) H1)
   else
   frame_Fields.C hv f H1 (fun v_2 H2 => ∃ x_2 : Int, v_2 = .int .i64 x_2 ∧ 
    if i ≥ x_2 then (
     R (.tuple #[.int .u64 0, .int .i64 4]) H2)
    else
    obj_Heap_Get.C hv f 8 (IntKind.wrap .i64 (i + 2)) H2 (fun v_3 H3 => ∃ ra : Int, ∃ rb : Int, v_3 = .tuple #[.int .u64 ra, .int .i64 rb] ∧ 
     R (.tuple #[.int .u64 ra, .int .i64 rb]) H3)))
  else
  R (.tuple #[.int .u64 0, .int .i64 3]) H1)
set_option maxRecDepth 100000 in
theorem frame_Field.link {hv : Option Addr} {f : Int} {i : Int} {H : Array Obj} {R : Value → Array Obj → Prop} (h : frame_Field.pt hv f i H R) : frame_Field.C hv f i H R := by
  refine S_enter (fn := Try.f18) (c := frame_Field.k0) 30 Try.func18 (by kernel_rfl) (by kernel_rfl) (Nat.le_of_ble_eq_true (by kernel_rfl)) ?_
  intro w0 Q hQ
  unfold frame_Field.pt at h
  refine S_sub [(0, .pointer hv), (1, .int .u64 f), (2, .int .i64 i)] (sb (by kernel_rfl)) ?_
  refine S_seq frame_Field.k1 frame_Field.k2 (by kernel_rfl) ?_
  refine S_region 0 (Code.ops frame_Field.k1) (by kernel_rfl) ?_
  refine N_run 2 [(0, .pointer hv), (1, .int .u64 f), (2, .int .i64 i)] (fun w => by kernel_rfl) ?_
  refine N_end (by kernel_rfl) ?_
  refine S_then ?_
  refine S_seq frame_Field.k3 frame_Field.k4 (by kernel_rfl) ?_
  refine S_block 0 frame_Field.k5 (by kernel_rfl) ?_
  refine S_seq frame_Field.k6 frame_Field.k7 (by kernel_rfl) ?_
  refine S_region 1 (Code.ops frame_Field.k6) (by kernel_rfl) ?_
  refine N_run 2 [(0, .pointer hv), (1, .int .u64 f), (2, .int .i64 i), (9, .pointer hv), (10, .int .u64 f)] (fun w => by kernel_rfl) ?_
  refine N_call (some 11) 56 #[.pointer hv, .int .u64 f, .int .i64 8, .int .i64 2] (fun w => by kernel_rfl) h ?_; clear h
  rintro v H1 ⟨x, rfl, h⟩
  refine ⟨[(0, .pointer hv), (1, .int .u64 f), (2, .int .i64 i), (11, .bool x)], ps (by kernel_rfl), ?_⟩
  refine N_run 2 [(0, .pointer hv), (1, .int .u64 f), (2, .int .i64 i), (8, .bool (!x))] (fun w => by kernel_rfl) ?_
  refine N_end (by kernel_rfl) ?_
  refine S_then ?_
  by_cases c1 : x = true
  · rw [if_pos c1] at h
    have b2 : (!x) = false := congrArg Bool.not (c1)
    have b22 : x = true := c1
    refine S_env [(0, .pointer hv), (1, .int .u64 f), (2, .int .i64 i), (8, .bool false)] (by simp only [b2, b22, Bool.not_true, Bool.not_false]) ?_
    clear b2 b22
    refine S_condF (.tmp 8) frame_Field.k8 frame_Field.k9 (by kernel_rfl) (by kernel_rfl) ?_
    refine S_seq frame_Field.k10 frame_Field.k11 (by kernel_rfl) ?_
    refine S_region 3 (Code.ops frame_Field.k10) (by kernel_rfl) ?_
    refine N_run 3 [(0, .pointer hv), (1, .int .u64 f), (2, .int .i64 i), (16, .bool (decide (i < 0)))] (fun w => by kernel_rfl) ?_
    by_cases c3 : i < 0
    · rw [if_pos c3] at h
      have b4 : (decide (i < 0)) = true := decide_eq_true c3
      refine N_env [(0, .pointer hv), (1, .int .u64 f), (2, .int .i64 i), (16, .bool true)] (by simp only [b4, Bool.not_true, Bool.not_false]) ?_
      clear b4
      refine N_run 7 [(0, .pointer hv), (1, .int .u64 f), (2, .int .i64 i), (13, .bool true)] (fun w => by kernel_rfl) ?_
      refine N_end (by kernel_rfl) ?_
      refine S_then ?_
      refine S_condT (.tmp 13) frame_Field.k12 frame_Field.k13 (by kernel_rfl) (by kernel_rfl) ?_
      refine S_seq frame_Field.k14 frame_Field.k15 (by kernel_rfl) ?_
      refine S_region 4 (Code.ops frame_Field.k14) (by kernel_rfl) ?_
      refine N_run 2 [(6, .int .u64 0), (7, .int .i64 4)] (fun w => by kernel_rfl) ?_
      refine N_end (by kernel_rfl) ?_
      refine S_then ?_
      refine S_ret (by kernel_rfl) ?_
      show At _ _ _ _ (Q .ret)
      exact S_done (fn := Try.f18) [.int .u64 0, .int .i64 4] hQ (show ResOK _ _ _ [.tmp 6, .tmp 7] _ from .tmp (by kernel_rfl) (.tmp (by kernel_rfl) (.nil))) h
    · rw [if_neg c3] at h
      have b4 : (decide (i < 0)) = false := decide_eq_false c3
      refine N_env [(0, .pointer hv), (1, .int .u64 f), (2, .int .i64 i), (16, .bool false)] (by simp only [b4, Bool.not_true, Bool.not_false]) ?_
      clear b4
      refine N_run 3 [(0, .pointer hv), (1, .int .u64 f), (2, .int .i64 i), (16, .bool false), (17, .int .i64 i), (18, .pointer hv), (19, .int .u64 f)] (fun w => by kernel_rfl) ?_
      refine N_call (some 20) 17 #[.pointer hv, .int .u64 f] (fun w => by kernel_rfl) h ?_; clear h
      rintro v_2 H2 ⟨x_2, rfl, h⟩
      refine ⟨[(0, .pointer hv), (1, .int .u64 f), (2, .int .i64 i), (16, .bool false), (17, .int .i64 i), (20, .int .i64 x_2)], ps (by kernel_rfl), ?_⟩
      refine N_run 3 [(0, .pointer hv), (1, .int .u64 f), (2, .int .i64 i), (13, .bool (decide (i ≥ x_2)))] (fun w => by kernel_rfl) ?_
      refine N_end (by kernel_rfl) ?_
      refine S_then ?_
      by_cases c5 : i ≥ x_2
      · rw [if_pos c5] at h
        have b6 : (decide (i ≥ x_2)) = true := decide_eq_true c5
        refine S_env [(0, .pointer hv), (1, .int .u64 f), (2, .int .i64 i), (13, .bool true)] (by simp only [b6, Bool.not_true, Bool.not_false]) ?_
        clear b6
        refine S_condT (.tmp 13) frame_Field.k12 frame_Field.k13 (by kernel_rfl) (by kernel_rfl) ?_
        refine S_seq frame_Field.k14 frame_Field.k15 (by kernel_rfl) ?_
        refine S_region 4 (Code.ops frame_Field.k14) (by kernel_rfl) ?_
        refine N_run 2 [(6, .int .u64 0), (7, .int .i64 4)] (fun w => by kernel_rfl) ?_
        refine N_end (by kernel_rfl) ?_
        refine S_then ?_
        refine S_ret (by kernel_rfl) ?_
        show At _ _ _ _ (Q .ret)
        exact S_done (fn := Try.f18) [.int .u64 0, .int .i64 4] hQ (show ResOK _ _ _ [.tmp 6, .tmp 7] _ from .tmp (by kernel_rfl) (.tmp (by kernel_rfl) (.nil))) h
      · rw [if_neg c5] at h
        have b6 : (decide (i ≥ x_2)) = false := decide_eq_false c5
        refine S_env [(0, .pointer hv), (1, .int .u64 f), (2, .int .i64 i), (13, .bool false)] (by simp only [b6, Bool.not_true, Bool.not_false]) ?_
        clear b6
        refine S_condF (.tmp 13) frame_Field.k12 frame_Field.k13 (by kernel_rfl) (by kernel_rfl) ?_
        refine S_skip (by kernel_rfl) ?_
        refine S_blockEnd ?_
        refine S_then ?_
        refine S_seq frame_Field.k16 frame_Field.k17 (by kernel_rfl) ?_
        refine S_region 5 (Code.ops frame_Field.k16) (by kernel_rfl) ?_
        refine N_run 4 [(23, .pointer hv), (24, .int .u64 f), (26, .int .i64 (IntKind.wrap .i64 (i + 2)))] (fun w => by kernel_rfl) ?_
        refine N_call (some 27) 38 #[.pointer hv, .int .u64 f, .int .i64 8, .int .i64 (IntKind.wrap .i64 (i + 2))] (fun w => by kernel_rfl) h ?_; clear h
        rintro v_3 H3 ⟨ra, rb, rfl, h⟩
        refine ⟨[(27, .tuple #[.int .u64 ra, .int .i64 rb])], ps (by kernel_rfl), ?_⟩
        refine N_run 4 [(6, .int .u64 ra), (7, .int .i64 rb)] (fun w => by kernel_rfl) ?_
        refine N_end (by kernel_rfl) ?_
        refine S_then ?_
        refine S_ret (by kernel_rfl) ?_
        show At _ _ _ _ (Q .ret)
        exact S_done (fn := Try.f18) [.int .u64 ra, .int .i64 rb] hQ (show ResOK _ _ _ [.tmp 6, .tmp 7] _ from .tmp (by kernel_rfl) (.tmp (by kernel_rfl) (.nil))) h
  · rw [if_neg c1] at h
    have b2 : (!x) = true := congrArg Bool.not (eq_false_of_ne_true c1)
    have b22 : x = false := eq_false_of_ne_true c1
    refine S_env [(0, .pointer hv), (1, .int .u64 f), (2, .int .i64 i), (8, .bool true)] (by simp only [b2, b22, Bool.not_true, Bool.not_false]) ?_
    clear b2 b22
    refine S_condT (.tmp 8) frame_Field.k8 frame_Field.k9 (by kernel_rfl) (by kernel_rfl) ?_
    refine S_seq frame_Field.k18 frame_Field.k19 (by kernel_rfl) ?_
    refine S_region 2 (Code.ops frame_Field.k18) (by kernel_rfl) ?_
    refine N_run 2 [(6, .int .u64 0), (7, .int .i64 3)] (fun w => by kernel_rfl) ?_
    refine N_end (by kernel_rfl) ?_
    refine S_then ?_
    refine S_ret (by kernel_rfl) ?_
    show At _ _ _ _ (Q .ret)
    exact S_done (fn := Try.f18) [.int .u64 0, .int .i64 3] hQ (show ResOK _ _ _ [.tmp 6, .tmp 7] _ from .tmp (by kernel_rfl) (.tmp (by kernel_rfl) (.nil))) h

/-! moraine/frame.Put -/
noncomputable def frame_Put.k0 : Code := Func.code Try.f19
noncomputable def frame_Put.k1 : Code := Code.fa frame_Put.k0
noncomputable def frame_Put.k2 : Code := Code.fb frame_Put.k0
noncomputable def frame_Put.k3 : Code := Code.fa frame_Put.k2
noncomputable def frame_Put.k4 : Code := Code.fb frame_Put.k2
noncomputable def frame_Put.k5 : Code := Code.fa frame_Put.k4
noncomputable def frame_Put.k6 : Code := Code.fb frame_Put.k4
noncomputable def frame_Put.k7 : Code := Code.fa frame_Put.k5
noncomputable def frame_Put.k8 : Code := Code.fa frame_Put.k7
noncomputable def frame_Put.k9 : Code := Code.fb frame_Put.k7
noncomputable def frame_Put.k10 : Code := Code.fa frame_Put.k9
noncomputable def frame_Put.k11 : Code := Code.fb frame_Put.k9
noncomputable def frame_Put.k12 : Code := Code.fa frame_Put.k11
noncomputable def frame_Put.k13 : Code := Code.fb frame_Put.k11
noncomputable def frame_Put.k14 : Code := Code.fa frame_Put.k13
noncomputable def frame_Put.k15 : Code := Code.fb frame_Put.k13
noncomputable def frame_Put.k16 : Code := Code.fa frame_Put.k14
noncomputable def frame_Put.k17 : Code := Code.fb frame_Put.k14
noncomputable def frame_Put.k18 : Code := Code.fa frame_Put.k6
noncomputable def frame_Put.k19 : Code := Code.fb frame_Put.k6
noncomputable def frame_Put.k20 : Code := Code.fa frame_Put.k10
noncomputable def frame_Put.k21 : Code := Code.fb frame_Put.k10
def frame_Put.pt (hv : Option Addr) (env : Int) (upv : Int) (i : Int) (v : Int) (H : Array Obj) (R : Value → Array Obj → Prop) : Prop :=
 frame_above.C hv env upv H (fun v_2 H1 => ∃ ra : Int, ∃ rb : Int, v_2 = .tuple #[.int .u64 ra, .int .i64 rb] ∧ 
  if rb = 0 then (
   if i < 0 then (
    R (.int .i64 4) H1)
   else
   frame_Count.C hv ra H1 (fun v_3 H2 => ∃ x : Int, v_3 = .int .i64 x ∧ 
    if i ≥ x then (
     R (.int .i64 4) H2)
    else
    obj_Heap_Set.C hv ra 7 (IntKind.wrap .i64 (i + 1)) v H2 (fun v_4 H3 => ∃ x_2 : Int, v_4 = .int .i64 x_2 ∧ 
     R (.int .i64 x_2) H3)))
  else
  R (.int .i64 rb) H1)
set_option maxRecDepth 100000 in
theorem frame_Put.link {hv : Option Addr} {env : Int} {upv : Int} {i : Int} {v : Int} {H : Array Obj} {R : Value → Array Obj → Prop} (h : frame_Put.pt hv env upv i v H R) : frame_Put.C hv env upv i v H R := by
  refine S_enter (fn := Try.f19) (c := frame_Put.k0) 40 Try.func19 (by kernel_rfl) (by kernel_rfl) (Nat.le_of_ble_eq_true (by kernel_rfl)) ?_
  intro w0 Q hQ
  unfold frame_Put.pt at h
  refine S_sub [(0, .pointer hv), (1, .int .u64 env), (2, .int .i64 upv), (3, .int .i64 i), (4, .int .u64 v)] (sb (by kernel_rfl)) ?_
  refine S_seq frame_Put.k1 frame_Put.k2 (by kernel_rfl) ?_
  refine S_region 0 (Code.ops frame_Put.k1) (by kernel_rfl) ?_
  refine N_run 1 [(0, .pointer hv), (1, .int .u64 env), (2, .int .i64 upv), (3, .int .i64 i), (4, .int .u64 v)] (fun w => by kernel_rfl) ?_
  refine N_end (by kernel_rfl) ?_
  refine S_then ?_
  refine S_seq frame_Put.k3 frame_Put.k4 (by kernel_rfl) ?_
  refine S_region 1 (Code.ops frame_Put.k3) (by kernel_rfl) ?_
  refine N_run 3 [(0, .pointer hv), (3, .int .i64 i), (4, .int .u64 v), (14, .pointer hv), (15, .int .u64 env), (16, .int .i64 upv)] (fun w => by kernel_rfl) ?_
  refine N_call (some 17) 58 #[.pointer hv, .int .u64 env, .int .i64 upv] (fun w => by kernel_rfl) h ?_; clear h
  rintro v_2 H1 ⟨ra, rb, rfl, h⟩
  refine ⟨[(0, .pointer hv), (3, .int .i64 i), (4, .int .u64 v), (17, .tuple #[.int .u64 ra, .int .i64 rb])], ps (by kernel_rfl), ?_⟩
  refine N_run 5 [(0, .pointer hv), (3, .int .i64 i), (4, .int .u64 v), (11, .int .u64 ra), (12, .int .i64 rb)] (fun w => by kernel_rfl) ?_
  refine N_end (by kernel_rfl) ?_
  refine S_then ?_
  refine S_seq frame_Put.k5 frame_Put.k6 (by kernel_rfl) ?_
  refine S_block 0 frame_Put.k7 (by kernel_rfl) ?_
  refine S_seq frame_Put.k8 frame_Put.k9 (by kernel_rfl) ?_
  refine S_region 2 (Code.ops frame_Put.k8) (by kernel_rfl) ?_
  refine N_run 3 [(0, .pointer hv), (3, .int .i64 i), (4, .int .u64 v), (11, .int .u64 ra), (12, .int .i64 rb), (20, .bool (rb != 0))] (fun w => by kernel_rfl) ?_
  refine N_end (by kernel_rfl) ?_
  refine S_then ?_
  by_cases c1 : rb = 0
  · rw [if_pos c1] at h
    have b2 : (rb != 0) = false := bne_eq_false_iff_eq.mpr c1
    refine S_env [(0, .pointer hv), (3, .int .i64 i), (4, .int .u64 v), (11, .int .u64 ra), (12, .int .i64 rb), (20, .bool false)] (by simp only [b2, Bool.not_true, Bool.not_false]) ?_
    clear b2
    refine S_condF (.tmp 20) frame_Put.k10 frame_Put.k11 (by kernel_rfl) (by kernel_rfl) ?_
    refine S_seq frame_Put.k12 frame_Put.k13 (by kernel_rfl) ?_
    refine S_region 4 (Code.ops frame_Put.k12) (by kernel_rfl) ?_
    refine N_run 3 [(0, .pointer hv), (3, .int .i64 i), (4, .int .u64 v), (11, .int .u64 ra), (27, .bool (decide (i < 0)))] (fun w => by kernel_rfl) ?_
    by_cases c3 : i < 0
    · rw [if_pos c3] at h
      have b4 : (decide (i < 0)) = true := decide_eq_true c3
      refine N_env [(0, .pointer hv), (3, .int .i64 i), (4, .int .u64 v), (11, .int .u64 ra), (27, .bool true)] (by simp only [b4, Bool.not_true, Bool.not_false]) ?_
      clear b4
      refine N_run 7 [(0, .pointer hv), (3, .int .i64 i), (4, .int .u64 v), (11, .int .u64 ra), (24, .bool true)] (fun w => by kernel_rfl) ?_
      refine N_end (by kernel_rfl) ?_
      refine S_then ?_
      refine S_condT (.tmp 24) frame_Put.k14 frame_Put.k15 (by kernel_rfl) (by kernel_rfl) ?_
      refine S_seq frame_Put.k16 frame_Put.k17 (by kernel_rfl) ?_
      refine S_region 5 (Code.ops frame_Put.k16) (by kernel_rfl) ?_
      refine N_run 1 [(10, .int .i64 4)] (fun w => by kernel_rfl) ?_
      refine N_end (by kernel_rfl) ?_
      refine S_then ?_
      refine S_ret (by kernel_rfl) ?_
      show At _ _ _ _ (Q .ret)
      exact S_done (fn := Try.f19) [.int .i64 4] hQ (show ResOK _ _ _ [.tmp 10] _ from .tmp (by kernel_rfl) (.nil)) h
    · rw [if_neg c3] at h
      have b4 : (decide (i < 0)) = false := decide_eq_false c3
      refine N_env [(0, .pointer hv), (3, .int .i64 i), (4, .int .u64 v), (11, .int .u64 ra), (27, .bool false)] (by simp only [b4, Bool.not_true, Bool.not_false]) ?_
      clear b4
      refine N_run 3 [(0, .pointer hv), (3, .int .i64 i), (4, .int .u64 v), (11, .int .u64 ra), (27, .bool false), (28, .int .i64 i), (29, .pointer hv), (30, .int .u64 ra)] (fun w => by kernel_rfl) ?_
      refine N_call (some 31) 22 #[.pointer hv, .int .u64 ra] (fun w => by kernel_rfl) h ?_; clear h
      rintro v_3 H2 ⟨x, rfl, h⟩
      refine ⟨[(0, .pointer hv), (3, .int .i64 i), (4, .int .u64 v), (11, .int .u64 ra), (27, .bool false), (28, .int .i64 i), (31, .int .i64 x)], ps (by kernel_rfl), ?_⟩
      refine N_run 3 [(0, .pointer hv), (3, .int .i64 i), (4, .int .u64 v), (11, .int .u64 ra), (24, .bool (decide (i ≥ x)))] (fun w => by kernel_rfl) ?_
      refine N_end (by kernel_rfl) ?_
      refine S_then ?_
      by_cases c5 : i ≥ x
      · rw [if_pos c5] at h
        have b6 : (decide (i ≥ x)) = true := decide_eq_true c5
        refine S_env [(0, .pointer hv), (3, .int .i64 i), (4, .int .u64 v), (11, .int .u64 ra), (24, .bool true)] (by simp only [b6, Bool.not_true, Bool.not_false]) ?_
        clear b6
        refine S_condT (.tmp 24) frame_Put.k14 frame_Put.k15 (by kernel_rfl) (by kernel_rfl) ?_
        refine S_seq frame_Put.k16 frame_Put.k17 (by kernel_rfl) ?_
        refine S_region 5 (Code.ops frame_Put.k16) (by kernel_rfl) ?_
        refine N_run 1 [(10, .int .i64 4)] (fun w => by kernel_rfl) ?_
        refine N_end (by kernel_rfl) ?_
        refine S_then ?_
        refine S_ret (by kernel_rfl) ?_
        show At _ _ _ _ (Q .ret)
        exact S_done (fn := Try.f19) [.int .i64 4] hQ (show ResOK _ _ _ [.tmp 10] _ from .tmp (by kernel_rfl) (.nil)) h
      · rw [if_neg c5] at h
        have b6 : (decide (i ≥ x)) = false := decide_eq_false c5
        refine S_env [(0, .pointer hv), (3, .int .i64 i), (4, .int .u64 v), (11, .int .u64 ra), (24, .bool false)] (by simp only [b6, Bool.not_true, Bool.not_false]) ?_
        clear b6
        refine S_condF (.tmp 24) frame_Put.k14 frame_Put.k15 (by kernel_rfl) (by kernel_rfl) ?_
        refine S_skip (by kernel_rfl) ?_
        refine S_blockEnd ?_
        refine S_then ?_
        refine S_seq frame_Put.k18 frame_Put.k19 (by kernel_rfl) ?_
        refine S_region 6 (Code.ops frame_Put.k18) (by kernel_rfl) ?_
        refine N_run 5 [(34, .pointer hv), (35, .int .u64 ra), (37, .int .i64 (IntKind.wrap .i64 (i + 1))), (38, .int .u64 v)] (fun w => by kernel_rfl) ?_
        refine N_call (some 39) 32 #[.pointer hv, .int .u64 ra, .int .i64 7, .int .i64 (IntKind.wrap .i64 (i + 1)), .int .u64 v] (fun w => by kernel_rfl) h ?_; clear h
        rintro v_4 H3 ⟨x_2, rfl, h⟩
        refine ⟨[(39, .int .i64 x_2)], ps (by kernel_rfl), ?_⟩
        refine N_run 1 [(10, .int .i64 x_2)] (fun w => by kernel_rfl) ?_
        refine N_end (by kernel_rfl) ?_
        refine S_then ?_
        refine S_ret (by kernel_rfl) ?_
        show At _ _ _ _ (Q .ret)
        exact S_done (fn := Try.f19) [.int .i64 x_2] hQ (show ResOK _ _ _ [.tmp 10] _ from .tmp (by kernel_rfl) (.nil)) h
  · rw [if_neg c1] at h
    have b2 : (rb != 0) = true := bne_iff_ne.mpr c1
    refine S_env [(0, .pointer hv), (3, .int .i64 i), (4, .int .u64 v), (11, .int .u64 ra), (12, .int .i64 rb), (20, .bool true)] (by simp only [b2, Bool.not_true, Bool.not_false]) ?_
    clear b2
    refine S_condT (.tmp 20) frame_Put.k10 frame_Put.k11 (by kernel_rfl) (by kernel_rfl) ?_
    refine S_seq frame_Put.k20 frame_Put.k21 (by kernel_rfl) ?_
    refine S_region 3 (Code.ops frame_Put.k20) (by kernel_rfl) ?_
    refine N_run 2 [(10, .int .i64 rb)] (fun w => by kernel_rfl) ?_
    refine N_end (by kernel_rfl) ?_
    refine S_then ?_
    refine S_ret (by kernel_rfl) ?_
    show At _ _ _ _ (Q .ret)
    exact S_done (fn := Try.f19) [.int .i64 rb] hQ (show ResOK _ _ _ [.tmp 10] _ from .tmp (by kernel_rfl) (.nil)) h

/-! moraine/frame.Extend -/
noncomputable def frame_Extend.k0 : Code := Func.code Try.f20
noncomputable def frame_Extend.k1 : Code := Code.fa frame_Extend.k0
noncomputable def frame_Extend.k2 : Code := Code.fb frame_Extend.k0
noncomputable def frame_Extend.k3 : Code := Code.fa frame_Extend.k2
noncomputable def frame_Extend.k4 : Code := Code.fb frame_Extend.k2
noncomputable def frame_Extend.k5 : Code := Code.fa frame_Extend.k3
noncomputable def frame_Extend.k6 : Code := Code.fb frame_Extend.k3
noncomputable def frame_Extend.k7 : Code := Code.fa frame_Extend.k6
noncomputable def frame_Extend.k8 : Code := Code.fb frame_Extend.k6
noncomputable def frame_Extend.k9 : Code := Code.fa frame_Extend.k4
noncomputable def frame_Extend.k10 : Code := Code.fb frame_Extend.k4
noncomputable def frame_Extend.k11 : Code := Code.fa frame_Extend.k7
noncomputable def frame_Extend.k12 : Code := Code.fb frame_Extend.k7
def frame_Extend.pt (hv : Option Addr) (parent : Int) (valuesB : Option Addr) (valuesN : Nat) (valuesC : Nat) (H : Array Obj) (R : Value → Array Obj → Prop) : Prop :=
 if parent = 20 then (
  ∀ (b : Nat) (H1 : Array Obj), b = H.size → H1 = H.push (.cells #[.int .u64 parent] 29) →
  appendK 1 29 8 [.int .u64 0] (some (Addr.mk b 0 none)) 1 1 valuesB valuesN H1 (fun ap apC H2 =>
   obj_Heap_Make.C hv 7 0 ap (1 + valuesN) apC H2 (fun v H3 => ∃ ra : Int, ∃ rb : Int, v = .tuple #[.int .u64 ra, .int .i64 rb] ∧ 
    R (.tuple #[.int .u64 ra, .int .i64 rb]) H3)))
 else
 obj_Heap_Type.C hv parent H (fun v_2 H4 => ∃ x : Int, v_2 = .int .i64 x ∧ 
  if x = 7 then (
   ∀ (b_2 : Nat) (H5 : Array Obj), b_2 = H4.size → H5 = H4.push (.cells #[.int .u64 parent] 29) →
   appendK 1 29 8 [.int .u64 0] (some (Addr.mk b_2 0 none)) 1 1 valuesB valuesN H5 (fun ap_2 apC_2 H6 =>
    obj_Heap_Make.C hv 7 0 ap_2 (1 + valuesN) apC_2 H6 (fun v_3 H7 => ∃ ra_2 : Int, ∃ rb_2 : Int, v_3 = .tuple #[.int .u64 ra_2, .int .i64 rb_2] ∧ 
     R (.tuple #[.int .u64 ra_2, .int .i64 rb_2]) H7)))
  else
  R (.tuple #[.int .u64 0, .int .i64 3]) H4)
set_option maxRecDepth 100000 in
theorem frame_Extend.link {hv : Option Addr} {parent : Int} {valuesB : Option Addr} {valuesN : Nat} {valuesC : Nat} {H : Array Obj} {R : Value → Array Obj → Prop} (h : frame_Extend.pt hv parent valuesB valuesN valuesC H R) : frame_Extend.C hv parent valuesB valuesN valuesC H R := by
  refine S_enter (fn := Try.f20) (c := frame_Extend.k0) 24 Try.func20 (by kernel_rfl) (by kernel_rfl) (Nat.le_of_ble_eq_true (by kernel_rfl)) ?_
  intro w0 Q hQ
  unfold frame_Extend.pt at h
  refine S_sub [(0, .pointer hv), (1, .int .u64 parent), (2, .slice valuesB valuesN valuesC)] (sb (by kernel_rfl)) ?_
  refine S_seq frame_Extend.k1 frame_Extend.k2 (by kernel_rfl) ?_
  refine S_region 0 (Code.ops frame_Extend.k1) (by kernel_rfl) ?_
  refine N_run 2 [(0, .pointer hv), (1, .int .u64 parent), (2, .slice valuesB valuesN valuesC)] (fun w => by kernel_rfl) ?_
  refine N_end (by kernel_rfl) ?_
  refine S_then ?_
  refine S_seq frame_Extend.k3 frame_Extend.k4 (by kernel_rfl) ?_
  refine S_seq frame_Extend.k5 frame_Extend.k6 (by kernel_rfl) ?_
  refine S_region 1 (Code.ops frame_Extend.k5) (by kernel_rfl) ?_
  refine N_run 3 [(0, .pointer hv), (1, .int .u64 parent), (2, .slice valuesB valuesN valuesC), (10, .bool (parent != 20))] (fun w => by kernel_rfl) ?_
  by_cases c1 : parent = 20
  · rw [if_pos c1] at h
    have b2 : (parent != 20) = false := bne_eq_false_iff_eq.mpr c1
    refine N_env [(0, .pointer hv), (1, .int .u64 parent), (2, .slice valuesB valuesN valuesC), (10, .bool false)] (by simp only [b2, Bool.not_true, Bool.not_false]) ?_
    clear b2
    refine N_run 5 [(0, .pointer hv), (1, .int .u64 parent), (2, .slice valuesB valuesN valuesC), (15, .bool false)] (fun w => by kernel_rfl) ?_
    refine N_end (by kernel_rfl) ?_
    refine S_then ?_
    refine S_condF (.tmp 15) frame_Extend.k7 frame_Extend.k8 (by kernel_rfl) (by kernel_rfl) ?_
    refine S_skip (by kernel_rfl) ?_
    refine S_then ?_
    refine S_seq frame_Extend.k9 frame_Extend.k10 (by kernel_rfl) ?_
    refine S_region 3 (Code.ops frame_Extend.k9) (by kernel_rfl) ?_
    refine N_run 2 [(2, .slice valuesB valuesN valuesC), (16, .pointer hv), (17, .int .u64 parent)] (fun w => by kernel_rfl) ?_
    refine N_new (some 18) (fun b => .slice (some (Addr.mk b 0 none)) 1 1) (.cells #[.int .u64 parent] 29) (fun w => by kernel_rfl) ?_
    intro b H1 e3 e4
    replace h := h b H1 e3 e4
    refine ⟨[(2, .slice valuesB valuesN valuesC), (16, .pointer hv), (18, .slice (some (Addr.mk b 0 none)) 1 1)], ps (by kernel_rfl), ?_⟩
    refine N_run 1 [(16, .pointer hv), (18, .slice (some (Addr.mk b 0 none)) 1 1), (19, .slice valuesB valuesN valuesC)] (fun w => by kernel_rfl) ?_
    refine N_op (some 20) (appendN #[39, 39] 39 #[.slice (some (Addr.mk b 0 none)) 1 1, .slice valuesB valuesN valuesC]) _ (fun w => by kernel_rfl) (ss_append (T := 29) (sz := 1) (bytes := 8) (zero := .int .u64 0) Try.underlying39 Try.underlying39 rfl (show Try.prog.info? 29 = some Try.t29 from by kernel_rfl) (by kernel_rfl) (by kernel_rfl) (by decide) (by kernel_rfl) h) ?_
    rintro _ H2 ⟨ap, apC, rfl, h⟩
    refine ⟨[(16, .pointer hv), (20, .slice ap (1 + valuesN) apC)], ps (by kernel_rfl), ?_⟩
    refine N_call (some 21) 30 #[.pointer hv, .int .i64 7, .int .u64 0, .slice ap (1 + valuesN) apC] (fun w => by kernel_rfl) h ?_; clear h
    rintro v H3 ⟨ra, rb, rfl, h⟩
    refine ⟨[(21, .tuple #[.int .u64 ra, .int .i64 rb])], ps (by kernel_rfl), ?_⟩
    refine N_run 4 [(6, .int .u64 ra), (7, .int .i64 rb)] (fun w => by kernel_rfl) ?_
    refine N_end (by kernel_rfl) ?_
    refine S_then ?_
    refine S_ret (by kernel_rfl) ?_
    show At _ _ _ _ (Q .ret)
    exact S_done (fn := Try.f20) [.int .u64 ra, .int .i64 rb] hQ (show ResOK _ _ _ [.tmp 6, .tmp 7] _ from .tmp (by kernel_rfl) (.tmp (by kernel_rfl) (.nil))) h
  · rw [if_neg c1] at h
    have b2 : (parent != 20) = true := bne_iff_ne.mpr c1
    refine N_env [(0, .pointer hv), (1, .int .u64 parent), (2, .slice valuesB valuesN valuesC), (10, .bool true)] (by simp only [b2, Bool.not_true, Bool.not_false]) ?_
    clear b2
    refine N_run 2 [(0, .pointer hv), (1, .int .u64 parent), (2, .slice valuesB valuesN valuesC), (10, .bool true), (11, .pointer hv), (12, .int .u64 parent)] (fun w => by kernel_rfl) ?_
    refine N_call (some 13) 36 #[.pointer hv, .int .u64 parent] (fun w => by kernel_rfl) h ?_; clear h
    rintro v_2 H4 ⟨x, rfl, h⟩
    refine ⟨[(0, .pointer hv), (1, .int .u64 parent), (2, .slice valuesB valuesN valuesC), (10, .bool true), (13, .int .i64 x)], ps (by kernel_rfl), ?_⟩
    refine N_run 2 [(0, .pointer hv), (1, .int .u64 parent), (2, .slice valuesB valuesN valuesC), (15, .bool (x != 7))] (fun w => by kernel_rfl) ?_
    refine N_end (by kernel_rfl) ?_
    refine S_then ?_
    by_cases c5 : x = 7
    · rw [if_pos c5] at h
      have b6 : (x != 7) = false := bne_eq_false_iff_eq.mpr c5
      refine S_env [(0, .pointer hv), (1, .int .u64 parent), (2, .slice valuesB valuesN valuesC), (15, .bool false)] (by simp only [b6, Bool.not_true, Bool.not_false]) ?_
      clear b6
      refine S_condF (.tmp 15) frame_Extend.k7 frame_Extend.k8 (by kernel_rfl) (by kernel_rfl) ?_
      refine S_skip (by kernel_rfl) ?_
      refine S_then ?_
      refine S_seq frame_Extend.k9 frame_Extend.k10 (by kernel_rfl) ?_
      refine S_region 3 (Code.ops frame_Extend.k9) (by kernel_rfl) ?_
      refine N_run 2 [(2, .slice valuesB valuesN valuesC), (16, .pointer hv), (17, .int .u64 parent)] (fun w => by kernel_rfl) ?_
      refine N_new (some 18) (fun b => .slice (some (Addr.mk b 0 none)) 1 1) (.cells #[.int .u64 parent] 29) (fun w => by kernel_rfl) ?_
      intro b_2 H5 e7 e8
      replace h := h b_2 H5 e7 e8
      refine ⟨[(2, .slice valuesB valuesN valuesC), (16, .pointer hv), (18, .slice (some (Addr.mk b_2 0 none)) 1 1)], ps (by kernel_rfl), ?_⟩
      refine N_run 1 [(16, .pointer hv), (18, .slice (some (Addr.mk b_2 0 none)) 1 1), (19, .slice valuesB valuesN valuesC)] (fun w => by kernel_rfl) ?_
      refine N_op (some 20) (appendN #[39, 39] 39 #[.slice (some (Addr.mk b_2 0 none)) 1 1, .slice valuesB valuesN valuesC]) _ (fun w => by kernel_rfl) (ss_append (T := 29) (sz := 1) (bytes := 8) (zero := .int .u64 0) Try.underlying39 Try.underlying39 rfl (show Try.prog.info? 29 = some Try.t29 from by kernel_rfl) (by kernel_rfl) (by kernel_rfl) (by decide) (by kernel_rfl) h) ?_
      rintro _ H6 ⟨ap_2, apC_2, rfl, h⟩
      refine ⟨[(16, .pointer hv), (20, .slice ap_2 (1 + valuesN) apC_2)], ps (by kernel_rfl), ?_⟩
      refine N_call (some 21) 30 #[.pointer hv, .int .i64 7, .int .u64 0, .slice ap_2 (1 + valuesN) apC_2] (fun w => by kernel_rfl) h ?_; clear h
      rintro v_3 H7 ⟨ra_2, rb_2, rfl, h⟩
      refine ⟨[(21, .tuple #[.int .u64 ra_2, .int .i64 rb_2])], ps (by kernel_rfl), ?_⟩
      refine N_run 4 [(6, .int .u64 ra_2), (7, .int .i64 rb_2)] (fun w => by kernel_rfl) ?_
      refine N_end (by kernel_rfl) ?_
      refine S_then ?_
      refine S_ret (by kernel_rfl) ?_
      show At _ _ _ _ (Q .ret)
      exact S_done (fn := Try.f20) [.int .u64 ra_2, .int .i64 rb_2] hQ (show ResOK _ _ _ [.tmp 6, .tmp 7] _ from .tmp (by kernel_rfl) (.tmp (by kernel_rfl) (.nil))) h
    · rw [if_neg c5] at h
      have b6 : (x != 7) = true := bne_iff_ne.mpr c5
      refine S_env [(0, .pointer hv), (1, .int .u64 parent), (2, .slice valuesB valuesN valuesC), (15, .bool true)] (by simp only [b6, Bool.not_true, Bool.not_false]) ?_
      clear b6
      refine S_condT (.tmp 15) frame_Extend.k7 frame_Extend.k8 (by kernel_rfl) (by kernel_rfl) ?_
      refine S_seq frame_Extend.k11 frame_Extend.k12 (by kernel_rfl) ?_
      refine S_region 2 (Code.ops frame_Extend.k11) (by kernel_rfl) ?_
      refine N_run 2 [(6, .int .u64 0), (7, .int .i64 3)] (fun w => by kernel_rfl) ?_
      refine N_end (by kernel_rfl) ?_
      refine S_then ?_
      refine S_ret (by kernel_rfl) ?_
      show At _ _ _ _ (Q .ret)
      exact S_done (fn := Try.f20) [.int .u64 0, .int .i64 3] hQ (show ResOK _ _ _ [.tmp 6, .tmp 7] _ from .tmp (by kernel_rfl) (.tmp (by kernel_rfl) (.nil))) h

/-! moraine/frame.Get -/
noncomputable def frame_Get.k0 : Code := Func.code Try.f21
noncomputable def frame_Get.k1 : Code := Code.fa frame_Get.k0
noncomputable def frame_Get.k2 : Code := Code.fb frame_Get.k0
noncomputable def frame_Get.k3 : Code := Code.fa frame_Get.k2
noncomputable def frame_Get.k4 : Code := Code.fb frame_Get.k2
noncomputable def frame_Get.k5 : Code := Code.fa frame_Get.k4
noncomputable def frame_Get.k6 : Code := Code.fb frame_Get.k4
noncomputable def frame_Get.k7 : Code := Code.fa frame_Get.k5
noncomputable def frame_Get.k8 : Code := Code.fa frame_Get.k7
noncomputable def frame_Get.k9 : Code := Code.fb frame_Get.k7
noncomputable def frame_Get.k10 : Code := Code.fa frame_Get.k9
noncomputable def frame_Get.k11 : Code := Code.fb frame_Get.k9
noncomputable def frame_Get.k12 : Code := Code.fa frame_Get.k11
noncomputable def frame_Get.k13 : Code := Code.fb frame_Get.k11
noncomputable def frame_Get.k14 : Code := Code.fa frame_Get.k13
noncomputable def frame_Get.k15 : Code := Code.fb frame_Get.k13
noncomputable def frame_Get.k16 : Code := Code.fa frame_Get.k14
noncomputable def frame_Get.k17 : Code := Code.fb frame_Get.k14
noncomputable def frame_Get.k18 : Code := Code.fa frame_Get.k6
noncomputable def frame_Get.k19 : Code := Code.fb frame_Get.k6
noncomputable def frame_Get.k20 : Code := Code.fa frame_Get.k10
noncomputable def frame_Get.k21 : Code := Code.fb frame_Get.k10
def frame_Get.pt (hv : Option Addr) (env : Int) (upv : Int) (i : Int) (H : Array Obj) (R : Value → Array Obj → Prop) : Prop :=
 frame_above.C hv env upv H (fun v H1 => ∃ ra : Int, ∃ rb : Int, v = .tuple #[.int .u64 ra, .int .i64 rb] ∧ 
  if rb = 0 then (
   if i < 0 then (
    R (.tuple #[.int .u64 0, .int .i64 4]) H1)
   else
   frame_Count.C hv ra H1 (fun v_2 H2 => ∃ x : Int, v_2 = .int .i64 x ∧ 
    if i ≥ x then (
     R (.tuple #[.int .u64 0, .int .i64 4]) H2)
    else
    obj_Heap_Get.C hv ra 7 (IntKind.wrap .i64 (i + 1)) H2 (fun v_3 H3 => ∃ ra_2 : Int, ∃ rb_2 : Int, v_3 = .tuple #[.int .u64 ra_2, .int .i64 rb_2] ∧ 
     R (.tuple #[.int .u64 ra_2, .int .i64 rb_2]) H3)))
  else
  R (.tuple #[.int .u64 0, .int .i64 rb]) H1)
set_option maxRecDepth 100000 in
theorem frame_Get.link {hv : Option Addr} {env : Int} {upv : Int} {i : Int} {H : Array Obj} {R : Value → Array Obj → Prop} (h : frame_Get.pt hv env upv i H R) : frame_Get.C hv env upv i H R := by
  refine S_enter (fn := Try.f21) (c := frame_Get.k0) 40 Try.func21 (by kernel_rfl) (by kernel_rfl) (Nat.le_of_ble_eq_true (by kernel_rfl)) ?_
  intro w0 Q hQ
  unfold frame_Get.pt at h
  refine S_sub [(0, .pointer hv), (1, .int .u64 env), (2, .int .i64 upv), (3, .int .i64 i)] (sb (by kernel_rfl)) ?_
  refine S_seq frame_Get.k1 frame_Get.k2 (by kernel_rfl) ?_
  refine S_region 0 (Code.ops frame_Get.k1) (by kernel_rfl) ?_
  refine N_run 2 [(0, .pointer hv), (1, .int .u64 env), (2, .int .i64 upv), (3, .int .i64 i)] (fun w => by kernel_rfl) ?_
  refine N_end (by kernel_rfl) ?_
  refine S_then ?_
  refine S_seq frame_Get.k3 frame_Get.k4 (by kernel_rfl) ?_
  refine S_region 1 (Code.ops frame_Get.k3) (by kernel_rfl) ?_
  refine N_run 3 [(0, .pointer hv), (3, .int .i64 i), (13, .pointer hv), (14, .int .u64 env), (15, .int .i64 upv)] (fun w => by kernel_rfl) ?_
  refine N_call (some 16) 58 #[.pointer hv, .int .u64 env, .int .i64 upv] (fun w => by kernel_rfl) h ?_; clear h
  rintro v H1 ⟨ra, rb, rfl, h⟩
  refine ⟨[(0, .pointer hv), (3, .int .i64 i), (16, .tuple #[.int .u64 ra, .int .i64 rb])], ps (by kernel_rfl), ?_⟩
  refine N_run 5 [(0, .pointer hv), (3, .int .i64 i), (10, .int .u64 ra), (11, .int .i64 rb)] (fun w => by kernel_rfl) ?_
  refine N_end (by kernel_rfl) ?_
  refine S_then ?_
  refine S_seq frame_Get.k5 frame_Get.k6 (by kernel_rfl) ?_
  refine S_block 0 frame_Get.k7 (by kernel_rfl) ?_
  refine S_seq frame_Get.k8 frame_Get.k9 (by kernel_rfl) ?_
  refine S_region 2 (Code.ops frame_Get.k8) (by kernel_rfl) ?_
  refine N_run 3 [(0, .pointer hv), (3, .int .i64 i), (10, .int .u64 ra), (11, .int .i64 rb), (19, .bool (rb != 0))] (fun w => by kernel_rfl) ?_
  refine N_end (by kernel_rfl) ?_
  refine S_then ?_
  by_cases c1 : rb = 0
  · rw [if_pos c1] at h
    have b2 : (rb != 0) = false := bne_eq_false_iff_eq.mpr c1
    refine S_env [(0, .pointer hv), (3, .int .i64 i), (10, .int .u64 ra), (11, .int .i64 rb), (19, .bool false)] (by simp only [b2, Bool.not_true, Bool.not_false]) ?_
    clear b2
    refine S_condF (.tmp 19) frame_Get.k10 frame_Get.k11 (by kernel_rfl) (by kernel_rfl) ?_
    refine S_seq frame_Get.k12 frame_Get.k13 (by kernel_rfl) ?_
    refine S_region 4 (Code.ops frame_Get.k12) (by kernel_rfl) ?_
    refine N_run 3 [(0, .pointer hv), (3, .int .i64 i), (10, .int .u64 ra), (26, .bool (decide (i < 0)))] (fun w => by kernel_rfl) ?_
    by_cases c3 : i < 0
    · rw [if_pos c3] at h
      have b4 : (decide (i < 0)) = true := decide_eq_true c3
      refine N_env [(0, .pointer hv), (3, .int .i64 i), (10, .int .u64 ra), (26, .bool true)] (by simp only [b4, Bool.not_true, Bool.not_false]) ?_
      clear b4
      refine N_run 7 [(0, .pointer hv), (3, .int .i64 i), (10, .int .u64 ra), (23, .bool true)] (fun w => by kernel_rfl) ?_
      refine N_end (by kernel_rfl) ?_
      refine S_then ?_
      refine S_condT (.tmp 23) frame_Get.k14 frame_Get.k15 (by kernel_rfl) (by kernel_rfl) ?_
      refine S_seq frame_Get.k16 frame_Get.k17 (by kernel_rfl) ?_
      refine S_region 5 (Code.ops frame_Get.k16) (by kernel_rfl) ?_
      refine N_run 2 [(8, .int .u64 0), (9, .int .i64 4)] (fun w => by kernel_rfl) ?_
      refine N_end (by kernel_rfl) ?_
      refine S_then ?_
      refine S_ret (by kernel_rfl) ?_
      show At _ _ _ _ (Q .ret)
      exact S_done (fn := Try.f21) [.int .u64 0, .int .i64 4] hQ (show ResOK _ _ _ [.tmp 8, .tmp 9] _ from .tmp (by kernel_rfl) (.tmp (by kernel_rfl) (.nil))) h
    · rw [if_neg c3] at h
      have b4 : (decide (i < 0)) = false := decide_eq_false c3
      refine N_env [(0, .pointer hv), (3, .int .i64 i), (10, .int .u64 ra), (26, .bool false)] (by simp only [b4, Bool.not_true, Bool.not_false]) ?_
      clear b4
      refine N_run 3 [(0, .pointer hv), (3, .int .i64 i), (10, .int .u64 ra), (26, .bool false), (27, .int .i64 i), (28, .pointer hv), (29, .int .u64 ra)] (fun w => by kernel_rfl) ?_
      refine N_call (some 30) 22 #[.pointer hv, .int .u64 ra] (fun w => by kernel_rfl) h ?_; clear h
      rintro v_2 H2 ⟨x, rfl, h⟩
      refine ⟨[(0, .pointer hv), (3, .int .i64 i), (10, .int .u64 ra), (26, .bool false), (27, .int .i64 i), (30, .int .i64 x)], ps (by kernel_rfl), ?_⟩
      refine N_run 3 [(0, .pointer hv), (3, .int .i64 i), (10, .int .u64 ra), (23, .bool (decide (i ≥ x)))] (fun w => by kernel_rfl) ?_
      refine N_end (by kernel_rfl) ?_
      refine S_then ?_
      by_cases c5 : i ≥ x
      · rw [if_pos c5] at h
        have b6 : (decide (i ≥ x)) = true := decide_eq_true c5
        refine S_env [(0, .pointer hv), (3, .int .i64 i), (10, .int .u64 ra), (23, .bool true)] (by simp only [b6, Bool.not_true, Bool.not_false]) ?_
        clear b6
        refine S_condT (.tmp 23) frame_Get.k14 frame_Get.k15 (by kernel_rfl) (by kernel_rfl) ?_
        refine S_seq frame_Get.k16 frame_Get.k17 (by kernel_rfl) ?_
        refine S_region 5 (Code.ops frame_Get.k16) (by kernel_rfl) ?_
        refine N_run 2 [(8, .int .u64 0), (9, .int .i64 4)] (fun w => by kernel_rfl) ?_
        refine N_end (by kernel_rfl) ?_
        refine S_then ?_
        refine S_ret (by kernel_rfl) ?_
        show At _ _ _ _ (Q .ret)
        exact S_done (fn := Try.f21) [.int .u64 0, .int .i64 4] hQ (show ResOK _ _ _ [.tmp 8, .tmp 9] _ from .tmp (by kernel_rfl) (.tmp (by kernel_rfl) (.nil))) h
      · rw [if_neg c5] at h
        have b6 : (decide (i ≥ x)) = false := decide_eq_false c5
        refine S_env [(0, .pointer hv), (3, .int .i64 i), (10, .int .u64 ra), (23, .bool false)] (by simp only [b6, Bool.not_true, Bool.not_false]) ?_
        clear b6
        refine S_condF (.tmp 23) frame_Get.k14 frame_Get.k15 (by kernel_rfl) (by kernel_rfl) ?_
        refine S_skip (by kernel_rfl) ?_
        refine S_blockEnd ?_
        refine S_then ?_
        refine S_seq frame_Get.k18 frame_Get.k19 (by kernel_rfl) ?_
        refine S_region 6 (Code.ops frame_Get.k18) (by kernel_rfl) ?_
        refine N_run 4 [(33, .pointer hv), (34, .int .u64 ra), (36, .int .i64 (IntKind.wrap .i64 (i + 1)))] (fun w => by kernel_rfl) ?_
        refine N_call (some 37) 38 #[.pointer hv, .int .u64 ra, .int .i64 7, .int .i64 (IntKind.wrap .i64 (i + 1))] (fun w => by kernel_rfl) h ?_; clear h
        rintro v_3 H3 ⟨ra_2, rb_2, rfl, h⟩
        refine ⟨[(37, .tuple #[.int .u64 ra_2, .int .i64 rb_2])], ps (by kernel_rfl), ?_⟩
        refine N_run 4 [(8, .int .u64 ra_2), (9, .int .i64 rb_2)] (fun w => by kernel_rfl) ?_
        refine N_end (by kernel_rfl) ?_
        refine S_then ?_
        refine S_ret (by kernel_rfl) ?_
        show At _ _ _ _ (Q .ret)
        exact S_done (fn := Try.f21) [.int .u64 ra_2, .int .i64 rb_2] hQ (show ResOK _ _ _ [.tmp 8, .tmp 9] _ from .tmp (by kernel_rfl) (.tmp (by kernel_rfl) (.nil))) h
  · rw [if_neg c1] at h
    have b2 : (rb != 0) = true := bne_iff_ne.mpr c1
    refine S_env [(0, .pointer hv), (3, .int .i64 i), (10, .int .u64 ra), (11, .int .i64 rb), (19, .bool true)] (by simp only [b2, Bool.not_true, Bool.not_false]) ?_
    clear b2
    refine S_condT (.tmp 19) frame_Get.k10 frame_Get.k11 (by kernel_rfl) (by kernel_rfl) ?_
    refine S_seq frame_Get.k20 frame_Get.k21 (by kernel_rfl) ?_
    refine S_region 3 (Code.ops frame_Get.k20) (by kernel_rfl) ?_
    refine N_run 3 [(8, .int .u64 0), (9, .int .i64 rb)] (fun w => by kernel_rfl) ?_
    refine N_end (by kernel_rfl) ?_
    refine S_then ?_
    refine S_ret (by kernel_rfl) ?_
    show At _ _ _ _ (Q .ret)
    exact S_done (fn := Try.f21) [.int .u64 0, .int .i64 rb] hQ (show ResOK _ _ _ [.tmp 8, .tmp 9] _ from .tmp (by kernel_rfl) (.tmp (by kernel_rfl) (.nil))) h

/-! moraine/frame.Count -/
noncomputable def frame_Count.k0 : Code := Func.code Try.f22
noncomputable def frame_Count.k1 : Code := Code.fa frame_Count.k0
noncomputable def frame_Count.k2 : Code := Code.fb frame_Count.k0
noncomputable def frame_Count.k3 : Code := Code.fa frame_Count.k2
noncomputable def frame_Count.k4 : Code := Code.fb frame_Count.k2
noncomputable def frame_Count.k5 : Code := Code.fa frame_Count.k3
noncomputable def frame_Count.k6 : Code := Code.fb frame_Count.k3
noncomputable def frame_Count.k7 : Code := Code.fa frame_Count.k6
noncomputable def frame_Count.k8 : Code := Code.fb frame_Count.k6
noncomputable def frame_Count.k9 : Code := Code.fa frame_Count.k4
noncomputable def frame_Count.k10 : Code := Code.fb frame_Count.k4
noncomputable def frame_Count.k11 : Code := Code.fa frame_Count.k7
noncomputable def frame_Count.k12 : Code := Code.fb frame_Count.k7
def frame_Count.pt (hv : Option Addr) (env : Int) (H : Array Obj) (R : Value → Array Obj → Prop) : Prop :=
 frame_is.C hv env 7 1 H (fun v H1 => ∃ x : Bool, v = .bool x ∧ 
  if x = true then (
   obj_Heap_Len.C hv env H1 (fun v_2 H2 => ∃ x_2 : Int, v_2 = .int .i64 x_2 ∧ 
    R (.int .i64 (IntKind.wrap .i64 (x_2 - 1))) H2))
  else
  R (.int .i64 0) H1)
set_option maxRecDepth 100000 in
theorem frame_Count.link {hv : Option Addr} {env : Int} {H : Array Obj} {R : Value → Array Obj → Prop} (h : frame_Count.pt hv env H R) : frame_Count.C hv env H R := by
  refine S_enter (fn := Try.f22) (c := frame_Count.k0) 13 Try.func22 (by kernel_rfl) (by kernel_rfl) (Nat.le_of_ble_eq_true (by kernel_rfl)) ?_
  intro w0 Q hQ
  unfold frame_Count.pt at h
  refine S_sub [(0, .pointer hv), (1, .int .u64 env)] (sb (by kernel_rfl)) ?_
  refine S_seq frame_Count.k1 frame_Count.k2 (by kernel_rfl) ?_
  refine S_region 0 (Code.ops frame_Count.k1) (by kernel_rfl) ?_
  refine N_run 1 [(0, .pointer hv), (1, .int .u64 env)] (fun w => by kernel_rfl) ?_
  refine N_end (by kernel_rfl) ?_
  refine S_then ?_
  refine S_seq frame_Count.k3 frame_Count.k4 (by kernel_rfl) ?_
  refine S_seq frame_Count.k5 frame_Count.k6 (by kernel_rfl) ?_
  refine S_region 1 (Code.ops frame_Count.k5) (by kernel_rfl) ?_
  refine N_run 2 [(0, .pointer hv), (1, .int .u64 env), (5, .pointer hv), (6, .int .u64 env)] (fun w => by kernel_rfl) ?_
  refine N_call (some 7) 56 #[.pointer hv, .int .u64 env, .int .i64 7, .int .i64 1] (fun w => by kernel_rfl) h ?_; clear h
  rintro v H1 ⟨x, rfl, h⟩
  refine ⟨[(0, .pointer hv), (1, .int .u64 env), (7, .bool x)], ps (by kernel_rfl), ?_⟩
  refine N_run 1 [(0, .pointer hv), (1, .int .u64 env), (8, .bool (!x))] (fun w => by kernel_rfl) ?_
  refine N_end (by kernel_rfl) ?_
  refine S_then ?_
  by_cases c1 : x = true
  · rw [if_pos c1] at h
    have b2 : (!x) = false := congrArg Bool.not (c1)
    have b22 : x = true := c1
    refine S_env [(0, .pointer hv), (1, .int .u64 env), (8, .bool false)] (by simp only [b2, b22, Bool.not_true, Bool.not_false]) ?_
    clear b2 b22
    refine S_condF (.tmp 8) frame_Count.k7 frame_Count.k8 (by kernel_rfl) (by kernel_rfl) ?_
    refine S_skip (by kernel_rfl) ?_
    refine S_then ?_
    refine S_seq frame_Count.k9 frame_Count.k10 (by kernel_rfl) ?_
    refine S_region 3 (Code.ops frame_Count.k9) (by kernel_rfl) ?_
    refine N_run 2 [(9, .pointer hv), (10, .int .u64 env)] (fun w => by kernel_rfl) ?_
    refine N_call (some 11) 37 #[.pointer hv, .int .u64 env] (fun w => by kernel_rfl) h ?_; clear h
    rintro v_2 H2 ⟨x_2, rfl, h⟩
    refine ⟨[(11, .int .i64 x_2)], ps (by kernel_rfl), ?_⟩
    refine N_run 2 [(4, .int .i64 (IntKind.wrap .i64 (x_2 - 1)))] (fun w => by kernel_rfl) ?_
    refine N_end (by kernel_rfl) ?_
    refine S_then ?_
    refine S_ret (by kernel_rfl) ?_
    show At _ _ _ _ (Q .ret)
    exact S_done (fn := Try.f22) [.int .i64 (IntKind.wrap .i64 (x_2 - 1))] hQ (show ResOK _ _ _ [.tmp 4] _ from .tmp (by kernel_rfl) (.nil)) h
  · rw [if_neg c1] at h
    have b2 : (!x) = true := congrArg Bool.not (eq_false_of_ne_true c1)
    have b22 : x = false := eq_false_of_ne_true c1
    refine S_env [(0, .pointer hv), (1, .int .u64 env), (8, .bool true)] (by simp only [b2, b22, Bool.not_true, Bool.not_false]) ?_
    clear b2 b22
    refine S_condT (.tmp 8) frame_Count.k7 frame_Count.k8 (by kernel_rfl) (by kernel_rfl) ?_
    refine S_seq frame_Count.k11 frame_Count.k12 (by kernel_rfl) ?_
    refine S_region 2 (Code.ops frame_Count.k11) (by kernel_rfl) ?_
    refine N_run 1 [(4, .int .i64 0)] (fun w => by kernel_rfl) ?_
    refine N_end (by kernel_rfl) ?_
    refine S_then ?_
    refine S_ret (by kernel_rfl) ?_
    show At _ _ _ _ (Q .ret)
    exact S_done (fn := Try.f22) [.int .i64 0] hQ (show ResOK _ _ _ [.tmp 4] _ from .tmp (by kernel_rfl) (.nil)) h

/-! moraine/frame.is -/
noncomputable def frame_is.k0 : Code := Func.code Try.f56
noncomputable def frame_is.k1 : Code := Code.fa frame_is.k0
noncomputable def frame_is.k2 : Code := Code.fb frame_is.k0
noncomputable def frame_is.k3 : Code := Code.fa frame_is.k2
noncomputable def frame_is.k4 : Code := Code.fb frame_is.k2
def frame_is.pt (hv : Option Addr) (wv : Int) (kind : Int) (least : Int) (H : Array Obj) (R : Value → Array Obj → Prop) : Prop :=
 obj_Heap_Type.C hv wv H (fun v H1 => ∃ x : Int, v = .int .i64 x ∧ 
  if x = kind then (
   obj_Heap_Len.C hv wv H1 (fun v_2 H2 => ∃ x_2 : Int, v_2 = .int .i64 x_2 ∧ 
    R (.bool (decide (x_2 ≥ least))) H2))
  else
  R (.bool false) H1)
set_option maxRecDepth 100000 in
theorem frame_is.link {hv : Option Addr} {wv : Int} {kind : Int} {least : Int} {H : Array Obj} {R : Value → Array Obj → Prop} (h : frame_is.pt hv wv kind least H R) : frame_is.C hv wv kind least H R := by
  refine S_enter (fn := Try.f56) (c := frame_is.k0) 21 Try.func56 (by kernel_rfl) (by kernel_rfl) (Nat.le_of_ble_eq_true (by kernel_rfl)) ?_
  intro w0 Q hQ
  unfold frame_is.pt at h
  refine S_sub [(0, .pointer hv), (1, .int .u64 wv), (2, .int .i64 kind), (3, .int .i64 least)] (sb (by kernel_rfl)) ?_
  refine S_seq frame_is.k1 frame_is.k2 (by kernel_rfl) ?_
  refine S_region 0 (Code.ops frame_is.k1) (by kernel_rfl) ?_
  refine N_run 1 [(0, .pointer hv), (1, .int .u64 wv), (2, .int .i64 kind), (3, .int .i64 least)] (fun w => by kernel_rfl) ?_
  refine N_end (by kernel_rfl) ?_
  refine S_then ?_
  refine S_seq frame_is.k3 frame_is.k4 (by kernel_rfl) ?_
  refine S_region 1 (Code.ops frame_is.k3) (by kernel_rfl) ?_
  refine N_run 2 [(0, .pointer hv), (1, .int .u64 wv), (2, .int .i64 kind), (3, .int .i64 least), (9, .pointer hv), (10, .int .u64 wv)] (fun w => by kernel_rfl) ?_
  refine N_call (some 11) 36 #[.pointer hv, .int .u64 wv] (fun w => by kernel_rfl) h ?_; clear h
  rintro v H1 ⟨x, rfl, h⟩
  refine ⟨[(0, .pointer hv), (1, .int .u64 wv), (2, .int .i64 kind), (3, .int .i64 least), (11, .int .i64 x)], ps (by kernel_rfl), ?_⟩
  refine N_run 3 [(0, .pointer hv), (1, .int .u64 wv), (3, .int .i64 least), (14, .bool (x == kind))] (fun w => by kernel_rfl) ?_
  by_cases c1 : x = kind
  · rw [if_pos c1] at h
    have b2 : (x == kind) = true := beq_iff_eq.mpr c1
    refine N_env [(0, .pointer hv), (1, .int .u64 wv), (3, .int .i64 least), (14, .bool true)] (by simp only [b2, Bool.not_true, Bool.not_false]) ?_
    clear b2
    refine N_run 2 [(3, .int .i64 least), (14, .bool true), (15, .pointer hv), (16, .int .u64 wv)] (fun w => by kernel_rfl) ?_
    refine N_call (some 17) 37 #[.pointer hv, .int .u64 wv] (fun w => by kernel_rfl) h ?_; clear h
    rintro v_2 H2 ⟨x_2, rfl, h⟩
    refine ⟨[(3, .int .i64 least), (14, .bool true), (17, .int .i64 x_2)], ps (by kernel_rfl), ?_⟩
    refine N_run 4 [(8, .bool (decide (x_2 ≥ least)))] (fun w => by kernel_rfl) ?_
    refine N_end (by kernel_rfl) ?_
    refine S_then ?_
    refine S_ret (by kernel_rfl) ?_
    show At _ _ _ _ (Q .ret)
    exact S_done (fn := Try.f56) [.bool (decide (x_2 ≥ least))] hQ (show ResOK _ _ _ [.tmp 8] _ from .tmp (by kernel_rfl) (.nil)) h
  · rw [if_neg c1] at h
    have b2 : (x == kind) = false := beq_eq_false_iff_ne.mpr c1
    refine N_env [(0, .pointer hv), (1, .int .u64 wv), (3, .int .i64 least), (14, .bool false)] (by simp only [b2, Bool.not_true, Bool.not_false]) ?_
    clear b2
    refine N_run 7 [(8, .bool false)] (fun w => by kernel_rfl) ?_
    refine N_end (by kernel_rfl) ?_
    refine S_then ?_
    refine S_ret (by kernel_rfl) ?_
    show At _ _ _ _ (Q .ret)
    exact S_done (fn := Try.f56) [.bool false] hQ (show ResOK _ _ _ [.tmp 8] _ from .tmp (by kernel_rfl) (.nil)) h

/-! moraine/frame.above -/
noncomputable def frame_above.k0 : Code := Func.code Try.f58
noncomputable def frame_above.k1 : Code := Code.fa frame_above.k0
noncomputable def frame_above.k2 : Code := Code.fb frame_above.k0
noncomputable def frame_above.k3 : Code := Code.fa frame_above.k2
noncomputable def frame_above.k4 : Code := Code.fb frame_above.k2
noncomputable def frame_above.k5 : Code := Code.fa frame_above.k3
noncomputable def frame_above.k6 : Code := Code.fb frame_above.k3
noncomputable def frame_above.k7 : Code := Code.fa frame_above.k6
noncomputable def frame_above.k8 : Code := Code.fb frame_above.k6
noncomputable def frame_above.k9 : Code := Code.fa frame_above.k7
noncomputable def frame_above.k10 : Code := Code.fb frame_above.k7
noncomputable def frame_above.k11 : Code := Code.fa frame_above.k4
noncomputable def frame_above.k12 : Code := Code.fb frame_above.k4
noncomputable def frame_above.k13 : Code := Code.fa frame_above.k12
noncomputable def frame_above.k14 : Code := Code.fb frame_above.k12
noncomputable def frame_above.k15 : Code := Code.fa frame_above.k13
noncomputable def frame_above.k16 : Code := Code.fb frame_above.k13
noncomputable def frame_above.k17 : Code := Code.fa frame_above.k16
noncomputable def frame_above.k18 : Code := Code.fa frame_above.k17
noncomputable def frame_above.k19 : Code := Code.fa frame_above.k18
noncomputable def frame_above.k20 : Code := Code.fb frame_above.k18
noncomputable def frame_above.k21 : Code := Code.fa frame_above.k20
noncomputable def frame_above.k22 : Code := Code.fb frame_above.k20
noncomputable def frame_above.k23 : Code := Code.fa frame_above.k21
noncomputable def frame_above.k24 : Code := Code.fb frame_above.k21
noncomputable def frame_above.k25 : Code := Code.fa frame_above.k22
noncomputable def frame_above.k26 : Code := Code.fb frame_above.k22
noncomputable def frame_above.k27 : Code := Code.fa frame_above.k25
noncomputable def frame_above.k28 : Code := Code.fa frame_above.k27
noncomputable def frame_above.k29 : Code := Code.fb frame_above.k27
noncomputable def frame_above.k30 : Code := Code.fa frame_above.k29
noncomputable def frame_above.k31 : Code := Code.fb frame_above.k29
noncomputable def frame_above.k32 : Code := Code.fa frame_above.k31
noncomputable def frame_above.k33 : Code := Code.fb frame_above.k31
noncomputable def frame_above.k34 : Code := Code.fa frame_above.k32
noncomputable def frame_above.k35 : Code := Code.fb frame_above.k32
noncomputable def frame_above.k36 : Code := Code.fa frame_above.k14
noncomputable def frame_above.k37 : Code := Code.fb frame_above.k14
noncomputable def frame_above.k38 : Code := Code.fa frame_above.k36
noncomputable def frame_above.k39 : Code := Code.fb frame_above.k36
noncomputable def frame_above.k40 : Code := Code.fa frame_above.k39
noncomputable def frame_above.k41 : Code := Code.fb frame_above.k39
noncomputable def frame_above.k42 : Code := Code.fa frame_above.k37
noncomputable def frame_above.k43 : Code := Code.fb frame_above.k37
noncomputable def frame_above.k44 : Code := Code.fa frame_above.k40
noncomputable def frame_above.k45 : Code := Code.fb frame_above.k40
def frame_above.pt (hv : Option Addr) (env : Int) (upv : Int) (H : Array Obj) (R : Value → Array Obj → Prop) : Prop :=
 if ((decide (upv < 0)) || (decide (upv > 65536))) = true then (
  R (.tuple #[.int .u64 0, .int .i64 4]) H)
 else
 ∃ (I19 : Int → Int → Array Obj → Prop) (m19 : Int → Int → Array Obj → Nat), I19 env 0 H ∧ ∀ (wv : Int) (s16 : Int) (H1 : Array Obj), I19 wv s16 H1 →
 if s16 < upv then (
  obj_Heap_Get.C hv wv 7 0 H1 (fun v H2 => ∃ ra : Int, ∃ rb : Int, v = .tuple #[.int .u64 ra, .int .i64 rb] ∧ 
   if rb = 0 then (
    (I19 ra (IntKind.wrap .i64 (s16 + 1)) H2 ∧ m19 ra (IntKind.wrap .i64 (s16 + 1)) H2 < m19 wv s16 H1))
   else
   R (.tuple #[.int .u64 0, .int .i64 3]) H2))
 else
 frame_is.C hv wv 7 1 H1 (fun v_2 H3 => ∃ x : Bool, v_2 = .bool x ∧ 
  if x = true then (
   R (.tuple #[.int .u64 wv, .int .i64 0]) H3)
  else
  R (.tuple #[.int .u64 0, .int .i64 3]) H3)
set_option maxRecDepth 100000 in
theorem frame_above.link {hv : Option Addr} {env : Int} {upv : Int} {H : Array Obj} {R : Value → Array Obj → Prop} (h : frame_above.pt hv env upv H R) : frame_above.C hv env upv H R := by
  refine S_enter (fn := Try.f58) (c := frame_above.k0) 32 Try.func58 (by kernel_rfl) (by kernel_rfl) (Nat.le_of_ble_eq_true (by kernel_rfl)) ?_
  intro w0 Q hQ
  unfold frame_above.pt at h
  refine S_sub [(0, .pointer hv), (1, .int .u64 env), (2, .int .i64 upv)] (sb (by kernel_rfl)) ?_
  refine S_seq frame_above.k1 frame_above.k2 (by kernel_rfl) ?_
  refine S_region 0 (Code.ops frame_above.k1) (by kernel_rfl) ?_
  refine N_run 2 [(0, .pointer hv), (1, .int .u64 env), (2, .int .i64 upv)] (fun w => by kernel_rfl) ?_
  refine N_end (by kernel_rfl) ?_
  refine S_then ?_
  refine S_seq frame_above.k3 frame_above.k4 (by kernel_rfl) ?_
  refine S_seq frame_above.k5 frame_above.k6 (by kernel_rfl) ?_
  refine S_region 1 (Code.ops frame_above.k5) (by kernel_rfl) ?_
  refine N_cut [(0, .pointer hv), (1, .int .u64 env), (2, .int .i64 upv), (13, .bool ((decide (upv < 0)) || (decide (upv > 65536))))] ?_ ?_
  · refine S_then ?_
    by_cases c3 : ((decide (upv < 0)) || (decide (upv > 65536))) = true
    · rw [if_pos c3] at h
      have b4 : ((decide (upv < 0)) || (decide (upv > 65536))) = true := c3
      refine S_env [(0, .pointer hv), (1, .int .u64 env), (2, .int .i64 upv), (13, .bool true)] (by simp only [b4, Bool.not_true, Bool.not_false]) ?_
      clear b4
      refine S_condT (.tmp 13) frame_above.k7 frame_above.k8 (by kernel_rfl) (by kernel_rfl) ?_
      refine S_seq frame_above.k9 frame_above.k10 (by kernel_rfl) ?_
      refine S_region 2 (Code.ops frame_above.k9) (by kernel_rfl) ?_
      refine N_run 2 [(6, .int .u64 0), (7, .int .i64 4)] (fun w => by kernel_rfl) ?_
      refine N_end (by kernel_rfl) ?_
      refine S_then ?_
      refine S_ret (by kernel_rfl) ?_
      show At _ _ _ _ (Q .ret)
      exact S_done (fn := Try.f58) [.int .u64 0, .int .i64 4] hQ (show ResOK _ _ _ [.tmp 6, .tmp 7] _ from .tmp (by kernel_rfl) (.tmp (by kernel_rfl) (.nil))) h
    · rw [if_neg c3] at h
      have b4 : ((decide (upv < 0)) || (decide (upv > 65536))) = false := eq_false_of_ne_true c3
      refine S_env [(0, .pointer hv), (1, .int .u64 env), (2, .int .i64 upv), (13, .bool false)] (by simp only [b4, Bool.not_true, Bool.not_false]) ?_
      clear b4
      refine S_condF (.tmp 13) frame_above.k7 frame_above.k8 (by kernel_rfl) (by kernel_rfl) ?_
      refine S_skip (by kernel_rfl) ?_
      refine S_then ?_
      refine S_seq frame_above.k11 frame_above.k12 (by kernel_rfl) ?_
      refine S_region 3 (Code.ops frame_above.k11) (by kernel_rfl) ?_
      refine N_run 2 [(0, .pointer hv), (2, .int .i64 upv), (6, .int .u64 env)] (fun w => by kernel_rfl) ?_
      refine N_end (by kernel_rfl) ?_
      refine S_then ?_
      refine S_seq frame_above.k13 frame_above.k14 (by kernel_rfl) ?_
      refine S_seq frame_above.k15 frame_above.k16 (by kernel_rfl) ?_
      refine S_region 4 (Code.ops frame_above.k15) (by kernel_rfl) ?_
      refine N_run 2 [(0, .pointer hv), (6, .int .u64 env), (15, .int .i64 upv), (16, .int .i64 0)] (fun w => by kernel_rfl) ?_
      refine N_end (by kernel_rfl) ?_
      refine S_then ?_
      refine S_block 0 frame_above.k17 (by kernel_rfl) ?_
      obtain ⟨I19, m19, i5, i6⟩ := h
      refine S_loop (x := frame_above.k18) (σ := Int × Int) (fun s_ => [(0, .pointer hv), (6, .int .u64 s_.1), (15, .int .i64 upv), (16, .int .i64 s_.2)]) (fun s_ H => I19 s_.1 s_.2 H) (fun s_ H => m19 s_.1 s_.2 H) ((env, 0) : Int × Int) (by kernel_rfl) i5 (sb (by kernel_rfl)) ?_
      rintro ⟨wv, s16⟩ H1 i7
      have h := i6 wv s16 H1 i7
      refine S_sub [(0, .pointer hv), (6, .int .u64 wv), (15, .int .i64 upv), (16, .int .i64 s16)] (sb (by kernel_rfl)) ?_
      refine S_seq frame_above.k19 frame_above.k20 (by kernel_rfl) ?_
      refine S_region 5 (Code.ops frame_above.k19) (by kernel_rfl) ?_
      refine N_run 1 [(0, .pointer hv), (6, .int .u64 wv), (15, .int .i64 upv), (16, .int .i64 s16), (17, .bool (decide (s16 < upv)))] (fun w => by kernel_rfl) ?_
      refine N_end (by kernel_rfl) ?_
      refine S_then ?_
      refine S_seq frame_above.k21 frame_above.k22 (by kernel_rfl) ?_
      by_cases c8 : s16 < upv
      · rw [if_pos c8] at h
        have b9 : (decide (s16 < upv)) = true := decide_eq_true c8
        refine S_env [(0, .pointer hv), (6, .int .u64 wv), (15, .int .i64 upv), (16, .int .i64 s16), (17, .bool true)] (by simp only [b9, Bool.not_true, Bool.not_false]) ?_
        clear b9
        refine S_condT (.tmp 17) frame_above.k23 frame_above.k24 (by kernel_rfl) (by kernel_rfl) ?_
        refine S_skip (by kernel_rfl) ?_
        refine S_then ?_
        refine S_seq frame_above.k25 frame_above.k26 (by kernel_rfl) ?_
        refine S_block 1 frame_above.k27 (by kernel_rfl) ?_
        refine S_seq frame_above.k28 frame_above.k29 (by kernel_rfl) ?_
        refine S_region 6 (Code.ops frame_above.k28) (by kernel_rfl) ?_
        refine N_run 2 [(0, .pointer hv), (15, .int .i64 upv), (16, .int .i64 s16), (19, .pointer hv), (20, .int .u64 wv)] (fun w => by kernel_rfl) ?_
        refine N_call (some 21) 38 #[.pointer hv, .int .u64 wv, .int .i64 7, .int .i64 0] (fun w => by kernel_rfl) h ?_; clear h
        rintro v H2 ⟨ra, rb, rfl, h⟩
        refine ⟨[(0, .pointer hv), (15, .int .i64 upv), (16, .int .i64 s16), (21, .tuple #[.int .u64 ra, .int .i64 rb])], ps (by kernel_rfl), ?_⟩
        refine N_run 5 [(0, .pointer hv), (6, .int .u64 ra), (7, .int .i64 rb), (15, .int .i64 upv), (16, .int .i64 s16)] (fun w => by kernel_rfl) ?_
        refine N_end (by kernel_rfl) ?_
        refine S_then ?_
        refine S_seq frame_above.k30 frame_above.k31 (by kernel_rfl) ?_
        refine S_region 7 (Code.ops frame_above.k30) (by kernel_rfl) ?_
        refine N_run 2 [(0, .pointer hv), (6, .int .u64 ra), (15, .int .i64 upv), (16, .int .i64 s16), (25, .bool (rb != 0))] (fun w => by kernel_rfl) ?_
        refine N_end (by kernel_rfl) ?_
        refine S_then ?_
        by_cases c10 : rb = 0
        · rw [if_pos c10] at h
          have b11 : (rb != 0) = false := bne_eq_false_iff_eq.mpr c10
          refine S_env [(0, .pointer hv), (6, .int .u64 ra), (15, .int .i64 upv), (16, .int .i64 s16), (25, .bool false)] (by simp only [b11, Bool.not_true, Bool.not_false]) ?_
          clear b11
          refine S_condF (.tmp 25) frame_above.k32 frame_above.k33 (by kernel_rfl) (by kernel_rfl) ?_
          refine S_skip (by kernel_rfl) ?_
          refine S_blockEnd ?_
          refine S_then ?_
          refine S_region 9 (Code.ops frame_above.k26) (by kernel_rfl) ?_
          refine N_run 2 [(0, .pointer hv), (6, .int .u64 ra), (15, .int .i64 upv), (16, .int .i64 (IntKind.wrap .i64 (s16 + 1)))] (fun w => by kernel_rfl) ?_
          refine N_end (by kernel_rfl) ?_
          refine S_then ?_
          exact S_round ((ra, (IntKind.wrap .i64 (s16 + 1))) : Int × Int) (sb (by kernel_rfl)) h
        · rw [if_neg c10] at h
          have b11 : (rb != 0) = true := bne_iff_ne.mpr c10
          refine S_env [(0, .pointer hv), (6, .int .u64 ra), (15, .int .i64 upv), (16, .int .i64 s16), (25, .bool true)] (by simp only [b11, Bool.not_true, Bool.not_false]) ?_
          clear b11
          refine S_condT (.tmp 25) frame_above.k32 frame_above.k33 (by kernel_rfl) (by kernel_rfl) ?_
          refine S_seq frame_above.k34 frame_above.k35 (by kernel_rfl) ?_
          refine S_region 8 (Code.ops frame_above.k34) (by kernel_rfl) ?_
          refine N_run 2 [(6, .int .u64 0), (7, .int .i64 3)] (fun w => by kernel_rfl) ?_
          refine N_end (by kernel_rfl) ?_
          refine S_then ?_
          refine S_ret (by kernel_rfl) ?_
          show At _ _ _ _ (Q .ret)
          exact S_done (fn := Try.f58) [.int .u64 0, .int .i64 3] hQ (show ResOK _ _ _ [.tmp 6, .tmp 7] _ from .tmp (by kernel_rfl) (.tmp (by kernel_rfl) (.nil))) h
      · rw [if_neg c8] at h
        have b9 : (decide (s16 < upv)) = false := decide_eq_false c8
        refine S_env [(0, .pointer hv), (6, .int .u64 wv), (15, .int .i64 upv), (16, .int .i64 s16), (17, .bool false)] (by simp only [b9, Bool.not_true, Bool.not_false]) ?_
        clear b9
        refine S_condF (.tmp 17) frame_above.k23 frame_above.k24 (by kernel_rfl) (by kernel_rfl) ?_
        refine S_exit 0 (by kernel_rfl) ?_
        refine S_exitThen ?_
        refine S_exitThen ?_
        refine S_exitHere ?_
        refine S_then ?_
        refine S_seq frame_above.k36 frame_above.k37 (by kernel_rfl) ?_
        refine S_seq frame_above.k38 frame_above.k39 (by kernel_rfl) ?_
        refine S_region 10 (Code.ops frame_above.k38) (by kernel_rfl) ?_
        refine N_run 2 [(6, .int .u64 wv), (27, .pointer hv), (28, .int .u64 wv)] (fun w => by kernel_rfl) ?_
        refine N_call (some 29) 56 #[.pointer hv, .int .u64 wv, .int .i64 7, .int .i64 1] (fun w => by kernel_rfl) h ?_; clear h
        rintro v_2 H3 ⟨x, rfl, h⟩
        refine ⟨[(6, .int .u64 wv), (29, .bool x)], ps (by kernel_rfl), ?_⟩
        refine N_run 1 [(6, .int .u64 wv), (30, .bool (!x))] (fun w => by kernel_rfl) ?_
        refine N_end (by kernel_rfl) ?_
        refine S_then ?_
        by_cases c12 : x = true
        · rw [if_pos c12] at h
          have b13 : (!x) = false := congrArg Bool.not (c12)
          have b132 : x = true := c12
          refine S_env [(6, .int .u64 wv), (30, .bool false)] (by simp only [b13, b132, Bool.not_true, Bool.not_false]) ?_
          clear b13 b132
          refine S_condF (.tmp 30) frame_above.k40 frame_above.k41 (by kernel_rfl) (by kernel_rfl) ?_
          refine S_skip (by kernel_rfl) ?_
          refine S_then ?_
          refine S_seq frame_above.k42 frame_above.k43 (by kernel_rfl) ?_
          refine S_region 12 (Code.ops frame_above.k42) (by kernel_rfl) ?_
          refine N_run 3 [(6, .int .u64 wv), (7, .int .i64 0)] (fun w => by kernel_rfl) ?_
          refine N_end (by kernel_rfl) ?_
          refine S_then ?_
          refine S_ret (by kernel_rfl) ?_
          show At _ _ _ _ (Q .ret)
          exact S_done (fn := Try.f58) [.int .u64 wv, .int .i64 0] hQ (show ResOK _ _ _ [.tmp 6, .tmp 7] _ from .tmp (by kernel_rfl) (.tmp (by kernel_rfl) (.nil))) h
        · rw [if_neg c12] at h
          have b13 : (!x) = true := congrArg Bool.not (eq_false_of_ne_true c12)
          have b132 : x = false := eq_false_of_ne_true c12
          refine S_env [(6, .int .u64 wv), (30, .bool true)] (by simp only [b13, b132, Bool.not_true, Bool.not_false]) ?_
          clear b13 b132
          refine S_condT (.tmp 30) frame_above.k40 frame_above.k41 (by kernel_rfl) (by kernel_rfl) ?_
          refine S_seq frame_above.k44 frame_above.k45 (by kernel_rfl) ?_
          refine S_region 11 (Code.ops frame_above.k44) (by kernel_rfl) ?_
          refine N_run 2 [(6, .int .u64 0), (7, .int .i64 3)] (fun w => by kernel_rfl) ?_
          refine N_end (by kernel_rfl) ?_
          refine S_then ?_
          refine S_ret (by kernel_rfl) ?_
          show At _ _ _ _ (Q .ret)
          exact S_done (fn := Try.f58) [.int .u64 0, .int .i64 3] hQ (show ResOK _ _ _ [.tmp 6, .tmp 7] _ from .tmp (by kernel_rfl) (.tmp (by kernel_rfl) (.nil))) h
  · intro hk
    refine N_run 3 [(0, .pointer hv), (1, .int .u64 env), (2, .int .i64 upv), (10, .bool (decide (upv < 0)))] (fun w => by kernel_rfl) ?_
    by_cases c1 : upv < 0
    · have b2 : (decide (upv < 0)) = true := decide_eq_true c1
      refine N_env [(0, .pointer hv), (1, .int .u64 env), (2, .int .i64 upv), (10, .bool true)] (by simp only [b2, Bool.not_true, Bool.not_false]) ?_
      refine N_run 3 [(0, .pointer hv), (1, .int .u64 env), (2, .int .i64 upv), (13, .bool true)] (fun w => by kernel_rfl) ?_
      refine N_end (by kernel_rfl) ?_
      refine S_env [(0, .pointer hv), (1, .int .u64 env), (2, .int .i64 upv), (13, .bool ((decide (upv < 0)) || (decide (upv > 65536))))] (by simp only [b2, Bool.true_or, Bool.false_or, Bool.or_true, Bool.or_false, Bool.true_and, Bool.false_and, Bool.and_true, Bool.and_false, Bool.not_true, Bool.not_false, cond_true, cond_false]) ?_
      exact hk
    · have b2 : (decide (upv < 0)) = false := decide_eq_false c1
      refine N_env [(0, .pointer hv), (1, .int .u64 env), (2, .int .i64 upv), (10, .bool false)] (by simp only [b2, Bool.not_true, Bool.not_false]) ?_
      refine N_run 3 [(0, .pointer hv), (1, .int .u64 env), (2, .int .i64 upv), (13, .bool (decide (upv > 65536)))] (fun w => by kernel_rfl) ?_
      refine N_end (by kernel_rfl) ?_
      refine S_env [(0, .pointer hv), (1, .int .u64 env), (2, .int .i64 upv), (13, .bool ((decide (upv < 0)) || (decide (upv > 65536))))] (by simp only [b2, Bool.true_or, Bool.false_or, Bool.or_true, Bool.or_false, Bool.true_and, Bool.false_and, Bool.and_true, Bool.and_false, Bool.not_true, Bool.not_false, cond_true, cond_false]) ?_
      exact hk

end Go.Proofs.Ytfohlkiikppefaa
