/-
  Written by a program of mine (gen.py): for functions of this translation a predicate transformer over heaps (.pt), and the proof that it is sound for the call (.link).
-/
import Derived.Test.YtgofbcapgikboaaFnsC
set_option linter.unusedSimpArgs false
set_option linter.unusedVariables false
namespace Go.Proofs.Ytgofbcapgikboaa
open Go
/-! moraine/morainelaw01.WordFixes -/
noncomputable def morainelaw01_WordFixes.k0 : Code := Func.code Try.f3
noncomputable def morainelaw01_WordFixes.k1 : Code := Code.fa morainelaw01_WordFixes.k0
noncomputable def morainelaw01_WordFixes.k2 : Code := Code.fb morainelaw01_WordFixes.k0
noncomputable def morainelaw01_WordFixes.k3 : Code := Code.fa morainelaw01_WordFixes.k2
noncomputable def morainelaw01_WordFixes.k4 : Code := Code.fb morainelaw01_WordFixes.k2
noncomputable def morainelaw01_WordFixes.k5 : Code := Code.fa morainelaw01_WordFixes.k4
noncomputable def morainelaw01_WordFixes.k6 : Code := Code.fb morainelaw01_WordFixes.k4
noncomputable def morainelaw01_WordFixes.k7 : Code := Code.fa morainelaw01_WordFixes.k5
noncomputable def morainelaw01_WordFixes.k8 : Code := Code.fb morainelaw01_WordFixes.k5
noncomputable def morainelaw01_WordFixes.k9 : Code := Code.fa morainelaw01_WordFixes.k8
noncomputable def morainelaw01_WordFixes.k10 : Code := Code.fb morainelaw01_WordFixes.k8
noncomputable def morainelaw01_WordFixes.k11 : Code := Code.fa morainelaw01_WordFixes.k6
noncomputable def morainelaw01_WordFixes.k12 : Code := Code.fb morainelaw01_WordFixes.k6
noncomputable def morainelaw01_WordFixes.k13 : Code := Code.fa morainelaw01_WordFixes.k12
noncomputable def morainelaw01_WordFixes.k14 : Code := Code.fb morainelaw01_WordFixes.k12
noncomputable def morainelaw01_WordFixes.k15 : Code := Code.fa morainelaw01_WordFixes.k13
noncomputable def morainelaw01_WordFixes.k16 : Code := Code.fb morainelaw01_WordFixes.k13
noncomputable def morainelaw01_WordFixes.k17 : Code := Code.fa morainelaw01_WordFixes.k16
noncomputable def morainelaw01_WordFixes.k18 : Code := Code.fb morainelaw01_WordFixes.k16
noncomputable def morainelaw01_WordFixes.k19 : Code := Code.fa morainelaw01_WordFixes.k14
noncomputable def morainelaw01_WordFixes.k20 : Code := Code.fb morainelaw01_WordFixes.k14
noncomputable def morainelaw01_WordFixes.k21 : Code := Code.fa morainelaw01_WordFixes.k17
noncomputable def morainelaw01_WordFixes.k22 : Code := Code.fb morainelaw01_WordFixes.k17
noncomputable def morainelaw01_WordFixes.k23 : Code := Code.fa morainelaw01_WordFixes.k10
noncomputable def morainelaw01_WordFixes.k24 : Code := Code.fb morainelaw01_WordFixes.k10
noncomputable def morainelaw01_WordFixes.k25 : Code := Code.fa morainelaw01_WordFixes.k24
noncomputable def morainelaw01_WordFixes.k26 : Code := Code.fb morainelaw01_WordFixes.k24
noncomputable def morainelaw01_WordFixes.k27 : Code := Code.fa morainelaw01_WordFixes.k25
noncomputable def morainelaw01_WordFixes.k28 : Code := Code.fb morainelaw01_WordFixes.k25
noncomputable def morainelaw01_WordFixes.k29 : Code := Code.fa morainelaw01_WordFixes.k9
noncomputable def morainelaw01_WordFixes.k30 : Code := Code.fb morainelaw01_WordFixes.k9
noncomputable def morainelaw01_WordFixes.k31 : Code := Code.fa morainelaw01_WordFixes.k30
noncomputable def morainelaw01_WordFixes.k32 : Code := Code.fb morainelaw01_WordFixes.k30
noncomputable def morainelaw01_WordFixes.k33 : Code := Code.fa morainelaw01_WordFixes.k31
noncomputable def morainelaw01_WordFixes.k34 : Code := Code.fb morainelaw01_WordFixes.k31
def morainelaw01_WordFixes.pt (x : Int) (c : Int) (H : Array Obj) (R : Value → Array Obj → Prop) : Prop :=
 word_Fix.C x H (fun v H1 => ∃ ra : Int, ∃ rb : Int, v = .tuple #[.int .u64 ra, .int .i64 rb] ∧ 
  moraineref01_Fixes.C x H1 (fun v_2 H2 => ∃ x_2 : Bool, v_2 = .bool x_2 ∧ 
   ∃ J : Array Obj → Prop, (
    if x_2 = true then (
     if rb = 0 then (
      moraineref01_Word.C 1 0 0 x 0 H2 (fun v_8 H9 => ∃ x_7 : Int, v_8 = .int .u64 x_7 ∧ 
       if ra = x_7 then (
        J H9)
       else
       R (.bool false) H9))
     else
     R (.bool false) H2)
    else
    if ((rb != 4) || (ra != 0)) = true then (
     R (.bool false) H2)
    else
    J H2) ∧ ∀ (H3 : Array Obj), J H3 →
   word_Char.C c H3 (fun v_3 H4 => ∃ ra_2 : Int, ∃ rb_2 : Int, v_3 = .tuple #[.int .u64 ra_2, .int .i64 rb_2] ∧ 
    moraineref01_Letter.C c H4 (fun v_4 H5 => ∃ x_3 : Bool, v_4 = .bool x_3 ∧ 
     if x_3 = true then (
      if rb_2 = 0 then (
       moraineref01_Word.C 4 0 (IntKind.wrap .i64 c) 0 0 H5 (fun v_5 H6 => ∃ x_4 : Int, v_5 = .int .u64 x_4 ∧ 
        if ra_2 = x_4 then (
         morainelaw01_awake.C  H6 (fun v_6 H7 => ∃ x_5 : Bool, v_6 = .bool x_5 ∧ 
          R (.bool x_5) H7))
        else
        R (.bool false) H6))
      else
      R (.bool false) H5)
     else
     if rb_2 = 4 then (
      if ra_2 = 0 then (
       morainelaw01_awake.C  H5 (fun v_7 H8 => ∃ x_6 : Bool, v_7 = .bool x_6 ∧ 
        R (.bool x_6) H8))
      else
      R (.bool false) H5)
     else
     R (.bool false) H5))))
set_option maxRecDepth 100000 in
theorem morainelaw01_WordFixes.link {x : Int} {c : Int} {H : Array Obj} {R : Value → Array Obj → Prop} (h : morainelaw01_WordFixes.pt x c H R) : morainelaw01_WordFixes.C x c H R := by
  refine S_enter (fn := Try.f3) (c := morainelaw01_WordFixes.k0) 60 Try.func3 (by kernel_rfl) (by kernel_rfl) (Nat.le_of_ble_eq_true (by kernel_rfl)) ?_
  intro w0 Q hQ
  unfold morainelaw01_WordFixes.pt at h
  refine S_sub [(0, .int .i64 x), (1, .int .i32 c)] (sb (by kernel_rfl)) ?_
  refine S_seq morainelaw01_WordFixes.k1 morainelaw01_WordFixes.k2 (by kernel_rfl) ?_
  refine S_region 0 (Code.ops morainelaw01_WordFixes.k1) (by kernel_rfl) ?_
  refine N_run 1 [(0, .int .i64 x), (1, .int .i32 c)] (fun w => by kernel_rfl) ?_
  refine N_end (by kernel_rfl) ?_
  refine S_then ?_
  refine S_seq morainelaw01_WordFixes.k3 morainelaw01_WordFixes.k4 (by kernel_rfl) ?_
  refine S_region 1 (Code.ops morainelaw01_WordFixes.k3) (by kernel_rfl) ?_
  refine N_run 1 [(0, .int .i64 x), (1, .int .i32 c), (8, .int .i64 x)] (fun w => by kernel_rfl) ?_
  refine N_call (some 9) 9 #[.int .i64 x] (fun w => by kernel_rfl) h ?_
  rintro v H1 ⟨ra, rb, rfl, h⟩
  refine ⟨[(0, .int .i64 x), (1, .int .i32 c), (9, .tuple #[.int .u64 ra, .int .i64 rb])], ps (by kernel_rfl), ?_⟩
  refine N_run 5 [(0, .int .i64 x), (1, .int .i32 c), (5, .int .u64 ra), (6, .int .i64 rb)] (fun w => by kernel_rfl) ?_
  refine N_end (by kernel_rfl) ?_
  refine S_then ?_
  refine S_seq morainelaw01_WordFixes.k5 morainelaw01_WordFixes.k6 (by kernel_rfl) ?_
  refine S_seq morainelaw01_WordFixes.k7 morainelaw01_WordFixes.k8 (by kernel_rfl) ?_
  refine S_region 2 (Code.ops morainelaw01_WordFixes.k7) (by kernel_rfl) ?_
  refine N_run 1 [(0, .int .i64 x), (1, .int .i32 c), (5, .int .u64 ra), (6, .int .i64 rb), (12, .int .i64 x)] (fun w => by kernel_rfl) ?_
  refine N_call (some 13) 10 #[.int .i64 x] (fun w => by kernel_rfl) h ?_
  rintro v_2 H2 ⟨x_2, rfl, h⟩
  refine ⟨[(0, .int .i64 x), (1, .int .i32 c), (5, .int .u64 ra), (6, .int .i64 rb), (13, .bool x_2)], ps (by kernel_rfl), ?_⟩
  refine N_run 1 [(0, .int .i64 x), (1, .int .i32 c), (5, .int .u64 ra), (6, .int .i64 rb), (14, .bool (!x_2))] (fun w => by kernel_rfl) ?_
  refine N_end (by kernel_rfl) ?_
  refine S_then ?_
  obtain ⟨J, h, j2⟩ := h
  refine S_join (σ := Unit) (fun s => [(1, .int .i32 c)]) (fun s H => J  H) ?_ ?_
  · rintro _ H3 j3
    replace h := j2 H3 j3
    refine S_sub [(1, .int .i32 c)] (sb (by kernel_rfl)) ?_
    refine S_then ?_
    refine S_seq morainelaw01_WordFixes.k11 morainelaw01_WordFixes.k12 (by kernel_rfl) ?_
    refine S_region 7 (Code.ops morainelaw01_WordFixes.k11) (by kernel_rfl) ?_
    refine N_run 1 [(1, .int .i32 c), (31, .int .i32 c)] (fun w => by kernel_rfl) ?_
    refine N_call (some 32) 12 #[.int .i32 c] (fun w => by kernel_rfl) h ?_
    rintro v_3 H4 ⟨ra_2, rb_2, rfl, h⟩
    refine ⟨[(1, .int .i32 c), (32, .tuple #[.int .u64 ra_2, .int .i64 rb_2])], ps (by kernel_rfl), ?_⟩
    refine N_run 5 [(1, .int .i32 c), (5, .int .u64 ra_2), (6, .int .i64 rb_2)] (fun w => by kernel_rfl) ?_
    refine N_end (by kernel_rfl) ?_
    refine S_then ?_
    refine S_seq morainelaw01_WordFixes.k13 morainelaw01_WordFixes.k14 (by kernel_rfl) ?_
    refine S_seq morainelaw01_WordFixes.k15 morainelaw01_WordFixes.k16 (by kernel_rfl) ?_
    refine S_region 8 (Code.ops morainelaw01_WordFixes.k15) (by kernel_rfl) ?_
    refine N_run 1 [(1, .int .i32 c), (5, .int .u64 ra_2), (6, .int .i64 rb_2), (35, .int .i32 c)] (fun w => by kernel_rfl) ?_
    refine N_call (some 36) 13 #[.int .i32 c] (fun w => by kernel_rfl) h ?_
    rintro v_4 H5 ⟨x_3, rfl, h⟩
    refine ⟨[(1, .int .i32 c), (5, .int .u64 ra_2), (6, .int .i64 rb_2), (36, .bool x_3)], ps (by kernel_rfl), ?_⟩
    refine N_run 1 [(1, .int .i32 c), (5, .int .u64 ra_2), (6, .int .i64 rb_2), (37, .bool (!x_3))] (fun w => by kernel_rfl) ?_
    refine N_end (by kernel_rfl) ?_
    refine S_then ?_
    by_cases c4 : x_3 = true
    · rw [if_pos c4] at h
      have b5 : (!x_3) = false := congrArg Bool.not (c4)
      refine S_env [(1, .int .i32 c), (5, .int .u64 ra_2), (6, .int .i64 rb_2), (37, .bool false)] (by simp only [b5, Bool.not_true, Bool.not_false]) ?_
      clear b5
      refine S_condF (.tmp 37) morainelaw01_WordFixes.k17 morainelaw01_WordFixes.k18 (by kernel_rfl) (by kernel_rfl) ?_
      refine S_skip (by kernel_rfl) ?_
      refine S_then ?_
      refine S_seq morainelaw01_WordFixes.k19 morainelaw01_WordFixes.k20 (by kernel_rfl) ?_
      refine S_region 10 (Code.ops morainelaw01_WordFixes.k19) (by kernel_rfl) ?_
      refine N_run 3 [(1, .int .i32 c), (5, .int .u64 ra_2), (49, .bool (rb_2 == 0))] (fun w => by kernel_rfl) ?_
      by_cases c6 : rb_2 = 0
      · rw [if_pos c6] at h
        have b7 : (rb_2 == 0) = true := beq_iff_eq.mpr c6
        refine N_env [(1, .int .i32 c), (5, .int .u64 ra_2), (49, .bool true)] (by simp only [b7, Bool.not_true, Bool.not_false]) ?_
        clear b7
        refine N_run 4 [(49, .bool true), (50, .int .u64 ra_2), (53, .agg #[.int .i64 4, .int .i64 0, .int .i64 (IntKind.wrap .i64 c), .int .i64 0, .int .u64 0])] (fun w => by kernel_rfl) ?_
        refine N_call (some 54) 11 #[.agg #[.int .i64 4, .int .i64 0, .int .i64 (IntKind.wrap .i64 c), .int .i64 0, .int .u64 0]] (fun w => by kernel_rfl) h ?_
        rintro v_5 H6 ⟨x_4, rfl, h⟩
        refine ⟨[(49, .bool true), (50, .int .u64 ra_2), (54, .int .u64 x_4)], ps (by kernel_rfl), ?_⟩
        refine N_run 3 [(57, .bool (ra_2 == x_4))] (fun w => by kernel_rfl) ?_
        by_cases c8 : ra_2 = x_4
        · rw [if_pos c8] at h
          have b9 : (ra_2 == x_4) = true := beq_iff_eq.mpr c8
          refine N_env [(57, .bool true)] (by simp only [b9, Bool.not_true, Bool.not_false]) ?_
          clear b9
          refine N_call (some 58) 14 #[] (fun w => by kernel_rfl) h ?_
          rintro v_6 H7 ⟨x_5, rfl, h⟩
          refine ⟨[(57, .bool true), (58, .bool x_5)], ps (by kernel_rfl), ?_⟩
          refine N_run 2 [(4, .bool x_5)] (fun w => by kernel_rfl) ?_
          refine N_end (by kernel_rfl) ?_
          refine S_then ?_
          refine S_ret (by kernel_rfl) ?_
          show At _ _ _ _ (Q .ret)
          exact S_done (fn := Try.f3) [.bool x_5] hQ (show ResOK _ _ _ [.tmp 4] _ from .tmp (by kernel_rfl) (.nil)) h
        · rw [if_neg c8] at h
          have b9 : (ra_2 == x_4) = false := beq_eq_false_iff_ne.mpr c8
          refine N_env [(57, .bool false)] (by simp only [b9, Bool.not_true, Bool.not_false]) ?_
          clear b9
          refine N_run 3 [(4, .bool false)] (fun w => by kernel_rfl) ?_
          refine N_end (by kernel_rfl) ?_
          refine S_then ?_
          refine S_ret (by kernel_rfl) ?_
          show At _ _ _ _ (Q .ret)
          exact S_done (fn := Try.f3) [.bool false] hQ (show ResOK _ _ _ [.tmp 4] _ from .tmp (by kernel_rfl) (.nil)) h
      · rw [if_neg c6] at h
        have b7 : (rb_2 == 0) = false := beq_eq_false_iff_ne.mpr c6
        refine N_env [(1, .int .i32 c), (5, .int .u64 ra_2), (49, .bool false)] (by simp only [b7, Bool.not_true, Bool.not_false]) ?_
        clear b7
        refine N_run 11 [(4, .bool false)] (fun w => by kernel_rfl) ?_
        refine N_end (by kernel_rfl) ?_
        refine S_then ?_
        refine S_ret (by kernel_rfl) ?_
        show At _ _ _ _ (Q .ret)
        exact S_done (fn := Try.f3) [.bool false] hQ (show ResOK _ _ _ [.tmp 4] _ from .tmp (by kernel_rfl) (.nil)) h
    · rw [if_neg c4] at h
      have b5 : (!x_3) = true := congrArg Bool.not (eq_false_of_ne_true c4)
      refine S_env [(1, .int .i32 c), (5, .int .u64 ra_2), (6, .int .i64 rb_2), (37, .bool true)] (by simp only [b5, Bool.not_true, Bool.not_false]) ?_
      clear b5
      refine S_condT (.tmp 37) morainelaw01_WordFixes.k17 morainelaw01_WordFixes.k18 (by kernel_rfl) (by kernel_rfl) ?_
      refine S_seq morainelaw01_WordFixes.k21 morainelaw01_WordFixes.k22 (by kernel_rfl) ?_
      refine S_region 9 (Code.ops morainelaw01_WordFixes.k21) (by kernel_rfl) ?_
      refine N_run 3 [(5, .int .u64 ra_2), (40, .bool (rb_2 == 4))] (fun w => by kernel_rfl) ?_
      by_cases c10 : rb_2 = 4
      · rw [if_pos c10] at h
        have b11 : (rb_2 == 4) = true := beq_iff_eq.mpr c10
        refine N_env [(5, .int .u64 ra_2), (40, .bool true)] (by simp only [b11, Bool.not_true, Bool.not_false]) ?_
        clear b11
        refine N_run 4 [(44, .bool (ra_2 == 0))] (fun w => by kernel_rfl) ?_
        by_cases c12 : ra_2 = 0
        · rw [if_pos c12] at h
          have b13 : (ra_2 == 0) = true := beq_iff_eq.mpr c12
          refine N_env [(44, .bool true)] (by simp only [b13, Bool.not_true, Bool.not_false]) ?_
          clear b13
          refine N_call (some 45) 14 #[] (fun w => by kernel_rfl) h ?_
          rintro v_7 H8 ⟨x_6, rfl, h⟩
          refine ⟨[(44, .bool true), (45, .bool x_6)], ps (by kernel_rfl), ?_⟩
          refine N_run 2 [(4, .bool x_6)] (fun w => by kernel_rfl) ?_
          refine N_end (by kernel_rfl) ?_
          refine S_then ?_
          refine S_ret (by kernel_rfl) ?_
          show At _ _ _ _ (Q .ret)
          exact S_done (fn := Try.f3) [.bool x_6] hQ (show ResOK _ _ _ [.tmp 4] _ from .tmp (by kernel_rfl) (.nil)) h
        · rw [if_neg c12] at h
          have b13 : (ra_2 == 0) = false := beq_eq_false_iff_ne.mpr c12
          refine N_env [(44, .bool false)] (by simp only [b13, Bool.not_true, Bool.not_false]) ?_
          clear b13
          refine N_run 3 [(4, .bool false)] (fun w => by kernel_rfl) ?_
          refine N_end (by kernel_rfl) ?_
          refine S_then ?_
          refine S_ret (by kernel_rfl) ?_
          show At _ _ _ _ (Q .ret)
          exact S_done (fn := Try.f3) [.bool false] hQ (show ResOK _ _ _ [.tmp 4] _ from .tmp (by kernel_rfl) (.nil)) h
      · rw [if_neg c10] at h
        have b11 : (rb_2 == 4) = false := beq_eq_false_iff_ne.mpr c10
        refine N_env [(5, .int .u64 ra_2), (40, .bool false)] (by simp only [b11, Bool.not_true, Bool.not_false]) ?_
        clear b11
        refine N_run 7 [(4, .bool false)] (fun w => by kernel_rfl) ?_
        refine N_end (by kernel_rfl) ?_
        refine S_then ?_
        refine S_ret (by kernel_rfl) ?_
        show At _ _ _ _ (Q .ret)
        exact S_done (fn := Try.f3) [.bool false] hQ (show ResOK _ _ _ [.tmp 4] _ from .tmp (by kernel_rfl) (.nil)) h
  · by_cases c14 : x_2 = true
    · rw [if_pos c14] at h
      have b15 : (!x_2) = false := congrArg Bool.not (c14)
      refine S_env [(0, .int .i64 x), (1, .int .i32 c), (5, .int .u64 ra), (6, .int .i64 rb), (14, .bool false)] (by simp only [b15, Bool.not_true, Bool.not_false]) ?_
      clear b15
      refine S_condF (.tmp 14) morainelaw01_WordFixes.k9 morainelaw01_WordFixes.k10 (by kernel_rfl) (by kernel_rfl) ?_
      refine S_seq morainelaw01_WordFixes.k23 morainelaw01_WordFixes.k24 (by kernel_rfl) ?_
      refine S_region 5 (Code.ops morainelaw01_WordFixes.k23) (by kernel_rfl) ?_
      refine N_run 3 [(0, .int .i64 x), (1, .int .i32 c), (5, .int .u64 ra), (23, .bool (rb != 0))] (fun w => by kernel_rfl) ?_
      by_cases c16 : rb = 0
      · rw [if_pos c16] at h
        have b17 : (rb != 0) = false := bne_eq_false_iff_eq.mpr c16
        refine N_env [(0, .int .i64 x), (1, .int .i32 c), (5, .int .u64 ra), (23, .bool false)] (by simp only [b17, Bool.not_true, Bool.not_false]) ?_
        clear b17
        refine N_run 3 [(1, .int .i32 c), (23, .bool false), (24, .int .u64 ra), (26, .agg #[.int .i64 1, .int .i64 0, .int .i64 0, .int .i64 x, .int .u64 0])] (fun w => by kernel_rfl) ?_
        refine N_call (some 27) 11 #[.agg #[.int .i64 1, .int .i64 0, .int .i64 0, .int .i64 x, .int .u64 0]] (fun w => by kernel_rfl) h ?_
        rintro v_8 H9 ⟨x_7, rfl, h⟩
        refine ⟨[(1, .int .i32 c), (23, .bool false), (24, .int .u64 ra), (27, .int .u64 x_7)], ps (by kernel_rfl), ?_⟩
        refine N_run 2 [(1, .int .i32 c), (29, .bool (ra != x_7))] (fun w => by kernel_rfl) ?_
        refine N_end (by kernel_rfl) ?_
        refine S_then ?_
        by_cases c18 : ra = x_7
        · rw [if_pos c18] at h
          have b19 : (ra != x_7) = false := bne_eq_false_iff_eq.mpr c18
          refine S_env [(1, .int .i32 c), (29, .bool false)] (by simp only [b19, Bool.not_true, Bool.not_false]) ?_
          clear b19
          refine S_condF (.tmp 29) morainelaw01_WordFixes.k25 morainelaw01_WordFixes.k26 (by kernel_rfl) (by kernel_rfl) ?_
          refine S_skip (by kernel_rfl) ?_
          refine S_then ?_
          exact S_meet (() : Unit) (sb (by kernel_rfl)) h
        · rw [if_neg c18] at h
          have b19 : (ra != x_7) = true := bne_iff_ne.mpr c18
          refine S_env [(1, .int .i32 c), (29, .bool true)] (by simp only [b19, Bool.not_true, Bool.not_false]) ?_
          clear b19
          refine S_condT (.tmp 29) morainelaw01_WordFixes.k25 morainelaw01_WordFixes.k26 (by kernel_rfl) (by kernel_rfl) ?_
          refine S_seq morainelaw01_WordFixes.k27 morainelaw01_WordFixes.k28 (by kernel_rfl) ?_
          refine S_region 6 (Code.ops morainelaw01_WordFixes.k27) (by kernel_rfl) ?_
          refine N_run 1 [(4, .bool false)] (fun w => by kernel_rfl) ?_
          refine N_end (by kernel_rfl) ?_
          refine S_then ?_
          refine S_ret (by kernel_rfl) ?_
          show At _ _ _ _ (Q .ret)
          exact S_done (fn := Try.f3) [.bool false] hQ (show ResOK _ _ _ [.tmp 4] _ from .tmp (by kernel_rfl) (.nil)) h
      · rw [if_neg c16] at h
        have b17 : (rb != 0) = true := bne_iff_ne.mpr c16
        refine N_env [(0, .int .i64 x), (1, .int .i32 c), (5, .int .u64 ra), (23, .bool true)] (by simp only [b17, Bool.not_true, Bool.not_false]) ?_
        clear b17
        refine N_run 6 [(1, .int .i32 c), (29, .bool true)] (fun w => by kernel_rfl) ?_
        refine N_end (by kernel_rfl) ?_
        refine S_then ?_
        refine S_condT (.tmp 29) morainelaw01_WordFixes.k25 morainelaw01_WordFixes.k26 (by kernel_rfl) (by kernel_rfl) ?_
        refine S_seq morainelaw01_WordFixes.k27 morainelaw01_WordFixes.k28 (by kernel_rfl) ?_
        refine S_region 6 (Code.ops morainelaw01_WordFixes.k27) (by kernel_rfl) ?_
        refine N_run 1 [(4, .bool false)] (fun w => by kernel_rfl) ?_
        refine N_end (by kernel_rfl) ?_
        refine S_then ?_
        refine S_ret (by kernel_rfl) ?_
        show At _ _ _ _ (Q .ret)
        exact S_done (fn := Try.f3) [.bool false] hQ (show ResOK _ _ _ [.tmp 4] _ from .tmp (by kernel_rfl) (.nil)) h
    · rw [if_neg c14] at h
      have b15 : (!x_2) = true := congrArg Bool.not (eq_false_of_ne_true c14)
      refine S_env [(0, .int .i64 x), (1, .int .i32 c), (5, .int .u64 ra), (6, .int .i64 rb), (14, .bool true)] (by simp only [b15, Bool.not_true, Bool.not_false]) ?_
      clear b15
      refine S_condT (.tmp 14) morainelaw01_WordFixes.k9 morainelaw01_WordFixes.k10 (by kernel_rfl) (by kernel_rfl) ?_
      refine S_seq morainelaw01_WordFixes.k29 morainelaw01_WordFixes.k30 (by kernel_rfl) ?_
      refine S_region 3 (Code.ops morainelaw01_WordFixes.k29) (by kernel_rfl) ?_
      refine N_cut [(1, .int .i32 c), (20, .bool ((rb != 4) || (ra != 0)))] ?_ ?_
      · refine S_then ?_
        by_cases c22 : ((rb != 4) || (ra != 0)) = true
        · rw [if_pos c22] at h
          have b23 : ((rb != 4) || (ra != 0)) = true := c22
          refine S_env [(1, .int .i32 c), (20, .bool true)] (by simp only [b23, Bool.not_true, Bool.not_false]) ?_
          clear b23
          refine S_condT (.tmp 20) morainelaw01_WordFixes.k31 morainelaw01_WordFixes.k32 (by kernel_rfl) (by kernel_rfl) ?_
          refine S_seq morainelaw01_WordFixes.k33 morainelaw01_WordFixes.k34 (by kernel_rfl) ?_
          refine S_region 4 (Code.ops morainelaw01_WordFixes.k33) (by kernel_rfl) ?_
          refine N_run 1 [(4, .bool false)] (fun w => by kernel_rfl) ?_
          refine N_end (by kernel_rfl) ?_
          refine S_then ?_
          refine S_ret (by kernel_rfl) ?_
          show At _ _ _ _ (Q .ret)
          exact S_done (fn := Try.f3) [.bool false] hQ (show ResOK _ _ _ [.tmp 4] _ from .tmp (by kernel_rfl) (.nil)) h
        · rw [if_neg c22] at h
          have b23 : ((rb != 4) || (ra != 0)) = false := eq_false_of_ne_true c22
          refine S_env [(1, .int .i32 c), (20, .bool false)] (by simp only [b23, Bool.not_true, Bool.not_false]) ?_
          clear b23
          refine S_condF (.tmp 20) morainelaw01_WordFixes.k31 morainelaw01_WordFixes.k32 (by kernel_rfl) (by kernel_rfl) ?_
          refine S_skip (by kernel_rfl) ?_
          refine S_then ?_
          exact S_meet (() : Unit) (sb (by kernel_rfl)) h
      · intro hk
        refine N_run 3 [(1, .int .i32 c), (5, .int .u64 ra), (17, .bool (rb != 4))] (fun w => by kernel_rfl) ?_
        by_cases c20 : rb = 4
        · have b21 : (rb != 4) = false := bne_eq_false_iff_eq.mpr c20
          refine N_env [(1, .int .i32 c), (5, .int .u64 ra), (17, .bool false)] (by simp only [b21, Bool.not_true, Bool.not_false]) ?_
          refine N_run 3 [(1, .int .i32 c), (20, .bool (ra != 0))] (fun w => by kernel_rfl) ?_
          refine N_end (by kernel_rfl) ?_
          refine S_env [(1, .int .i32 c), (20, .bool ((rb != 4) || (ra != 0)))] (by simp only [b21, Bool.true_or, Bool.false_or, Bool.or_true, Bool.or_false, Bool.true_and, Bool.false_and, Bool.and_true, Bool.and_false, Bool.not_true, Bool.not_false, cond_true, cond_false]) ?_
          exact hk
        · have b21 : (rb != 4) = true := bne_iff_ne.mpr c20
          refine N_env [(1, .int .i32 c), (5, .int .u64 ra), (17, .bool true)] (by simp only [b21, Bool.not_true, Bool.not_false]) ?_
          refine N_run 3 [(1, .int .i32 c), (20, .bool true)] (fun w => by kernel_rfl) ?_
          refine N_end (by kernel_rfl) ?_
          refine S_env [(1, .int .i32 c), (20, .bool ((rb != 4) || (ra != 0)))] (by simp only [b21, Bool.true_or, Bool.false_or, Bool.or_true, Bool.or_false, Bool.true_and, Bool.false_and, Bool.and_true, Bool.and_false, Bool.not_true, Bool.not_false, cond_true, cond_false]) ?_
          exact hk

end Go.Proofs.Ytgofbcapgikboaa
