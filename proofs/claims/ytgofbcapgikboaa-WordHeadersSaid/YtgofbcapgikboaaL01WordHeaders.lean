/-
  Written by a program of mine (gen.py): for functions of this translation a predicate transformer over heaps (.pt), and the proof that it is sound for the call (.link).
-/
import Derived.Test.YtgofbcapgikboaaFnsC
set_option linter.unusedSimpArgs false
set_option linter.unusedVariables false
namespace Go.Proofs.Ytgofbcapgikboaa
open Go
/-! moraine/morainelaw01.WordHeaders -/
noncomputable def morainelaw01_WordHeaders.k0 : Code := Func.code Try.f5
noncomputable def morainelaw01_WordHeaders.k1 : Code := Code.fa morainelaw01_WordHeaders.k0
noncomputable def morainelaw01_WordHeaders.k2 : Code := Code.fb morainelaw01_WordHeaders.k0
noncomputable def morainelaw01_WordHeaders.k3 : Code := Code.fa morainelaw01_WordHeaders.k2
noncomputable def morainelaw01_WordHeaders.k4 : Code := Code.fb morainelaw01_WordHeaders.k2
noncomputable def morainelaw01_WordHeaders.k5 : Code := Code.fa morainelaw01_WordHeaders.k4
noncomputable def morainelaw01_WordHeaders.k6 : Code := Code.fb morainelaw01_WordHeaders.k4
noncomputable def morainelaw01_WordHeaders.k7 : Code := Code.fa morainelaw01_WordHeaders.k5
noncomputable def morainelaw01_WordHeaders.k8 : Code := Code.fb morainelaw01_WordHeaders.k5
noncomputable def morainelaw01_WordHeaders.k9 : Code := Code.fa morainelaw01_WordHeaders.k8
noncomputable def morainelaw01_WordHeaders.k10 : Code := Code.fb morainelaw01_WordHeaders.k8
noncomputable def morainelaw01_WordHeaders.k11 : Code := Code.fa morainelaw01_WordHeaders.k9
noncomputable def morainelaw01_WordHeaders.k12 : Code := Code.fb morainelaw01_WordHeaders.k9
noncomputable def morainelaw01_WordHeaders.k13 : Code := Code.fa morainelaw01_WordHeaders.k6
noncomputable def morainelaw01_WordHeaders.k14 : Code := Code.fb morainelaw01_WordHeaders.k6
def morainelaw01_WordHeaders.pt (kind : Int) (nv : Int) (more : Int) (H : Array Obj) (R : Value → Array Obj → Prop) : Prop :=
 word_Header.C kind nv more H (fun v H1 => ∃ ra : Int, ∃ rb : Int, v = .tuple #[.int .u64 ra, .int .i64 rb] ∧ 
  if (((((decide (kind < 1)) || (decide (kind > 13))) || (decide (nv < 0))) || (decide (nv > 62))) || (decide (more ≥ 281474976710656))) = true then (
   if rb = 1 then (
    if ra = 0 then (
     morainelaw01_awake.C  H1 (fun v_2 H2 => ∃ x : Bool, v_2 = .bool x ∧ 
      R (.bool x) H2))
    else
    R (.bool false) H1)
   else
   R (.bool false) H1)
  else
  if rb = 0 then (
   moraineref01_Word.C 5 kind nv 0 more H1 (fun v_3 H3 => ∃ x_2 : Int, v_3 = .int .u64 x_2 ∧ 
    if ra = x_2 then (
     morainelaw01_awake.C  H3 (fun v_4 H4 => ∃ x_3 : Bool, v_4 = .bool x_3 ∧ 
      R (.bool x_3) H4))
    else
    R (.bool false) H3))
  else
  R (.bool false) H1)
set_option maxRecDepth 100000 in
theorem morainelaw01_WordHeaders.link {kind : Int} {nv : Int} {more : Int} {H : Array Obj} {R : Value → Array Obj → Prop} (h : morainelaw01_WordHeaders.pt kind nv more H R) : morainelaw01_WordHeaders.C kind nv more H R := by
  refine S_enter (fn := Try.f5) (c := morainelaw01_WordHeaders.k0) 57 Try.func5 (by kernel_rfl) (by kernel_rfl) (Nat.le_of_ble_eq_true (by kernel_rfl)) ?_
  intro w0 Q hQ
  unfold morainelaw01_WordHeaders.pt at h
  refine S_sub [(0, .int .i64 kind), (1, .int .i64 nv), (2, .int .u64 more)] (sb (by kernel_rfl)) ?_
  refine S_seq morainelaw01_WordHeaders.k1 morainelaw01_WordHeaders.k2 (by kernel_rfl) ?_
  refine S_region 0 (Code.ops morainelaw01_WordHeaders.k1) (by kernel_rfl) ?_
  refine N_run 1 [(0, .int .i64 kind), (1, .int .i64 nv), (2, .int .u64 more)] (fun w => by kernel_rfl) ?_
  refine N_end (by kernel_rfl) ?_
  refine S_then ?_
  refine S_seq morainelaw01_WordHeaders.k3 morainelaw01_WordHeaders.k4 (by kernel_rfl) ?_
  refine S_region 1 (Code.ops morainelaw01_WordHeaders.k3) (by kernel_rfl) ?_
  refine N_run 3 [(0, .int .i64 kind), (1, .int .i64 nv), (2, .int .u64 more), (10, .int .i64 kind), (11, .int .i64 nv), (12, .int .u64 more)] (fun w => by kernel_rfl) ?_
  refine N_call (some 13) 16 #[.int .i64 kind, .int .i64 nv, .int .u64 more] (fun w => by kernel_rfl) h ?_
  rintro v H1 ⟨ra, rb, rfl, h⟩
  refine ⟨[(0, .int .i64 kind), (1, .int .i64 nv), (2, .int .u64 more), (13, .tuple #[.int .u64 ra, .int .i64 rb])], ps (by kernel_rfl), ?_⟩
  refine N_run 5 [(0, .int .i64 kind), (1, .int .i64 nv), (2, .int .u64 more), (7, .int .u64 ra), (8, .int .i64 rb)] (fun w => by kernel_rfl) ?_
  refine N_end (by kernel_rfl) ?_
  refine S_then ?_
  refine S_seq morainelaw01_WordHeaders.k5 morainelaw01_WordHeaders.k6 (by kernel_rfl) ?_
  refine S_seq morainelaw01_WordHeaders.k7 morainelaw01_WordHeaders.k8 (by kernel_rfl) ?_
  refine S_region 2 (Code.ops morainelaw01_WordHeaders.k7) (by kernel_rfl) ?_
  refine N_cut [(0, .int .i64 kind), (1, .int .i64 nv), (2, .int .u64 more), (7, .int .u64 ra), (8, .int .i64 rb), (33, .bool (((((decide (kind < 1)) || (decide (kind > 13))) || (decide (nv < 0))) || (decide (nv > 62))) || (decide (more ≥ 281474976710656))))] ?_ ?_
  · refine S_then ?_
    by_cases c9 : (((((decide (kind < 1)) || (decide (kind > 13))) || (decide (nv < 0))) || (decide (nv > 62))) || (decide (more ≥ 281474976710656))) = true
    · rw [if_pos c9] at h
      have b10 : (((((decide (kind < 1)) || (decide (kind > 13))) || (decide (nv < 0))) || (decide (nv > 62))) || (decide (more ≥ 281474976710656))) = true := c9
      refine S_env [(0, .int .i64 kind), (1, .int .i64 nv), (2, .int .u64 more), (7, .int .u64 ra), (8, .int .i64 rb), (33, .bool true)] (by simp only [b10, Bool.not_true, Bool.not_false]) ?_
      clear b10
      refine S_condT (.tmp 33) morainelaw01_WordHeaders.k9 morainelaw01_WordHeaders.k10 (by kernel_rfl) (by kernel_rfl) ?_
      refine S_seq morainelaw01_WordHeaders.k11 morainelaw01_WordHeaders.k12 (by kernel_rfl) ?_
      refine S_region 3 (Code.ops morainelaw01_WordHeaders.k11) (by kernel_rfl) ?_
      refine N_run 3 [(7, .int .u64 ra), (36, .bool (rb == 1))] (fun w => by kernel_rfl) ?_
      by_cases c11 : rb = 1
      · rw [if_pos c11] at h
        have b12 : (rb == 1) = true := beq_iff_eq.mpr c11
        refine N_env [(7, .int .u64 ra), (36, .bool true)] (by simp only [b12, Bool.not_true, Bool.not_false]) ?_
        clear b12
        refine N_run 4 [(40, .bool (ra == 0))] (fun w => by kernel_rfl) ?_
        by_cases c13 : ra = 0
        · rw [if_pos c13] at h
          have b14 : (ra == 0) = true := beq_iff_eq.mpr c13
          refine N_env [(40, .bool true)] (by simp only [b14, Bool.not_true, Bool.not_false]) ?_
          clear b14
          refine N_call (some 41) 14 #[] (fun w => by kernel_rfl) h ?_
          rintro v_2 H2 ⟨x, rfl, h⟩
          refine ⟨[(40, .bool true), (41, .bool x)], ps (by kernel_rfl), ?_⟩
          refine N_run 2 [(6, .bool x)] (fun w => by kernel_rfl) ?_
          refine N_end (by kernel_rfl) ?_
          refine S_then ?_
          refine S_ret (by kernel_rfl) ?_
          show At _ _ _ _ (Q .ret)
          exact S_done (fn := Try.f5) [.bool x] hQ (show ResOK _ _ _ [.tmp 6] _ from .tmp (by kernel_rfl) (.nil)) h
        · rw [if_neg c13] at h
          have b14 : (ra == 0) = false := beq_eq_false_iff_ne.mpr c13
          refine N_env [(40, .bool false)] (by simp only [b14, Bool.not_true, Bool.not_false]) ?_
          clear b14
          refine N_run 3 [(6, .bool false)] (fun w => by kernel_rfl) ?_
          refine N_end (by kernel_rfl) ?_
          refine S_then ?_
          refine S_ret (by kernel_rfl) ?_
          show At _ _ _ _ (Q .ret)
          exact S_done (fn := Try.f5) [.bool false] hQ (show ResOK _ _ _ [.tmp 6] _ from .tmp (by kernel_rfl) (.nil)) h
      · rw [if_neg c11] at h
        have b12 : (rb == 1) = false := beq_eq_false_iff_ne.mpr c11
        refine N_env [(7, .int .u64 ra), (36, .bool false)] (by simp only [b12, Bool.not_true, Bool.not_false]) ?_
        clear b12
        refine N_run 7 [(6, .bool false)] (fun w => by kernel_rfl) ?_
        refine N_end (by kernel_rfl) ?_
        refine S_then ?_
        refine S_ret (by kernel_rfl) ?_
        show At _ _ _ _ (Q .ret)
        exact S_done (fn := Try.f5) [.bool false] hQ (show ResOK _ _ _ [.tmp 6] _ from .tmp (by kernel_rfl) (.nil)) h
    · rw [if_neg c9] at h
      have b10 : (((((decide (kind < 1)) || (decide (kind > 13))) || (decide (nv < 0))) || (decide (nv > 62))) || (decide (more ≥ 281474976710656))) = false := eq_false_of_ne_true c9
      refine S_env [(0, .int .i64 kind), (1, .int .i64 nv), (2, .int .u64 more), (7, .int .u64 ra), (8, .int .i64 rb), (33, .bool false)] (by simp only [b10, Bool.not_true, Bool.not_false]) ?_
      clear b10
      refine S_condF (.tmp 33) morainelaw01_WordHeaders.k9 morainelaw01_WordHeaders.k10 (by kernel_rfl) (by kernel_rfl) ?_
      refine S_skip (by kernel_rfl) ?_
      refine S_then ?_
      refine S_seq morainelaw01_WordHeaders.k13 morainelaw01_WordHeaders.k14 (by kernel_rfl) ?_
      refine S_region 4 (Code.ops morainelaw01_WordHeaders.k13) (by kernel_rfl) ?_
      refine N_run 3 [(0, .int .i64 kind), (1, .int .i64 nv), (2, .int .u64 more), (7, .int .u64 ra), (45, .bool (rb == 0))] (fun w => by kernel_rfl) ?_
      by_cases c15 : rb = 0
      · rw [if_pos c15] at h
        have b16 : (rb == 0) = true := beq_iff_eq.mpr c15
        refine N_env [(0, .int .i64 kind), (1, .int .i64 nv), (2, .int .u64 more), (7, .int .u64 ra), (45, .bool true)] (by simp only [b16, Bool.not_true, Bool.not_false]) ?_
        clear b16
        refine N_run 5 [(45, .bool true), (46, .int .u64 ra), (50, .agg #[.int .i64 5, .int .i64 kind, .int .i64 nv, .int .i64 0, .int .u64 more])] (fun w => by kernel_rfl) ?_
        refine N_call (some 51) 11 #[.agg #[.int .i64 5, .int .i64 kind, .int .i64 nv, .int .i64 0, .int .u64 more]] (fun w => by kernel_rfl) h ?_
        rintro v_3 H3 ⟨x_2, rfl, h⟩
        refine ⟨[(45, .bool true), (46, .int .u64 ra), (51, .int .u64 x_2)], ps (by kernel_rfl), ?_⟩
        refine N_run 3 [(54, .bool (ra == x_2))] (fun w => by kernel_rfl) ?_
        by_cases c17 : ra = x_2
        · rw [if_pos c17] at h
          have b18 : (ra == x_2) = true := beq_iff_eq.mpr c17
          refine N_env [(54, .bool true)] (by simp only [b18, Bool.not_true, Bool.not_false]) ?_
          clear b18
          refine N_call (some 55) 14 #[] (fun w => by kernel_rfl) h ?_
          rintro v_4 H4 ⟨x_3, rfl, h⟩
          refine ⟨[(54, .bool true), (55, .bool x_3)], ps (by kernel_rfl), ?_⟩
          refine N_run 2 [(6, .bool x_3)] (fun w => by kernel_rfl) ?_
          refine N_end (by kernel_rfl) ?_
          refine S_then ?_
          refine S_ret (by kernel_rfl) ?_
          show At _ _ _ _ (Q .ret)
          exact S_done (fn := Try.f5) [.bool x_3] hQ (show ResOK _ _ _ [.tmp 6] _ from .tmp (by kernel_rfl) (.nil)) h
        · rw [if_neg c17] at h
          have b18 : (ra == x_2) = false := beq_eq_false_iff_ne.mpr c17
          refine N_env [(54, .bool false)] (by simp only [b18, Bool.not_true, Bool.not_false]) ?_
          clear b18
          refine N_run 3 [(6, .bool false)] (fun w => by kernel_rfl) ?_
          refine N_end (by kernel_rfl) ?_
          refine S_then ?_
          refine S_ret (by kernel_rfl) ?_
          show At _ _ _ _ (Q .ret)
          exact S_done (fn := Try.f5) [.bool false] hQ (show ResOK _ _ _ [.tmp 6] _ from .tmp (by kernel_rfl) (.nil)) h
      · rw [if_neg c15] at h
        have b16 : (rb == 0) = false := beq_eq_false_iff_ne.mpr c15
        refine N_env [(0, .int .i64 kind), (1, .int .i64 nv), (2, .int .u64 more), (7, .int .u64 ra), (45, .bool false)] (by simp only [b16, Bool.not_true, Bool.not_false]) ?_
        clear b16
        refine N_run 12 [(6, .bool false)] (fun w => by kernel_rfl) ?_
        refine N_end (by kernel_rfl) ?_
        refine S_then ?_
        refine S_ret (by kernel_rfl) ?_
        show At _ _ _ _ (Q .ret)
        exact S_done (fn := Try.f5) [.bool false] hQ (show ResOK _ _ _ [.tmp 6] _ from .tmp (by kernel_rfl) (.nil)) h
  · intro hk
    refine N_run 3 [(0, .int .i64 kind), (1, .int .i64 nv), (2, .int .u64 more), (7, .int .u64 ra), (8, .int .i64 rb), (18, .bool (decide (kind < 1)))] (fun w => by kernel_rfl) ?_
    by_cases c1 : kind < 1
    · have b2 : (decide (kind < 1)) = true := decide_eq_true c1
      refine N_env [(0, .int .i64 kind), (1, .int .i64 nv), (2, .int .u64 more), (7, .int .u64 ra), (8, .int .i64 rb), (18, .bool true)] (by simp only [b2, Bool.not_true, Bool.not_false]) ?_
      refine N_run 15 [(0, .int .i64 kind), (1, .int .i64 nv), (2, .int .u64 more), (7, .int .u64 ra), (8, .int .i64 rb), (33, .bool true)] (fun w => by kernel_rfl) ?_
      refine N_end (by kernel_rfl) ?_
      refine S_env [(0, .int .i64 kind), (1, .int .i64 nv), (2, .int .u64 more), (7, .int .u64 ra), (8, .int .i64 rb), (33, .bool (((((decide (kind < 1)) || (decide (kind > 13))) || (decide (nv < 0))) || (decide (nv > 62))) || (decide (more ≥ 281474976710656))))] (by simp only [b2, Bool.true_or, Bool.false_or, Bool.or_true, Bool.or_false, Bool.true_and, Bool.false_and, Bool.and_true, Bool.and_false, Bool.not_true, Bool.not_false, cond_true, cond_false]) ?_
      exact hk
    · have b2 : (decide (kind < 1)) = false := decide_eq_false c1
      refine N_env [(0, .int .i64 kind), (1, .int .i64 nv), (2, .int .u64 more), (7, .int .u64 ra), (8, .int .i64 rb), (18, .bool false)] (by simp only [b2, Bool.not_true, Bool.not_false]) ?_
      refine N_run 4 [(0, .int .i64 kind), (1, .int .i64 nv), (2, .int .u64 more), (7, .int .u64 ra), (8, .int .i64 rb), (22, .bool (decide (kind > 13)))] (fun w => by kernel_rfl) ?_
      by_cases c3 : kind > 13
      · have b4 : (decide (kind > 13)) = true := decide_eq_true c3
        refine N_env [(0, .int .i64 kind), (1, .int .i64 nv), (2, .int .u64 more), (7, .int .u64 ra), (8, .int .i64 rb), (22, .bool true)] (by simp only [b4, Bool.not_true, Bool.not_false]) ?_
        refine N_run 11 [(0, .int .i64 kind), (1, .int .i64 nv), (2, .int .u64 more), (7, .int .u64 ra), (8, .int .i64 rb), (33, .bool true)] (fun w => by kernel_rfl) ?_
        refine N_end (by kernel_rfl) ?_
        refine S_env [(0, .int .i64 kind), (1, .int .i64 nv), (2, .int .u64 more), (7, .int .u64 ra), (8, .int .i64 rb), (33, .bool (((((decide (kind < 1)) || (decide (kind > 13))) || (decide (nv < 0))) || (decide (nv > 62))) || (decide (more ≥ 281474976710656))))] (by simp only [b2, b4, Bool.true_or, Bool.false_or, Bool.or_true, Bool.or_false, Bool.true_and, Bool.false_and, Bool.and_true, Bool.and_false, Bool.not_true, Bool.not_false, cond_true, cond_false]) ?_
        exact hk
      · have b4 : (decide (kind > 13)) = false := decide_eq_false c3
        refine N_env [(0, .int .i64 kind), (1, .int .i64 nv), (2, .int .u64 more), (7, .int .u64 ra), (8, .int .i64 rb), (22, .bool false)] (by simp only [b4, Bool.not_true, Bool.not_false]) ?_
        refine N_run 4 [(0, .int .i64 kind), (1, .int .i64 nv), (2, .int .u64 more), (7, .int .u64 ra), (8, .int .i64 rb), (26, .bool (decide (nv < 0)))] (fun w => by kernel_rfl) ?_
        by_cases c5 : nv < 0
        · have b6 : (decide (nv < 0)) = true := decide_eq_true c5
          refine N_env [(0, .int .i64 kind), (1, .int .i64 nv), (2, .int .u64 more), (7, .int .u64 ra), (8, .int .i64 rb), (26, .bool true)] (by simp only [b6, Bool.not_true, Bool.not_false]) ?_
          refine N_run 7 [(0, .int .i64 kind), (1, .int .i64 nv), (2, .int .u64 more), (7, .int .u64 ra), (8, .int .i64 rb), (33, .bool true)] (fun w => by kernel_rfl) ?_
          refine N_end (by kernel_rfl) ?_
          refine S_env [(0, .int .i64 kind), (1, .int .i64 nv), (2, .int .u64 more), (7, .int .u64 ra), (8, .int .i64 rb), (33, .bool (((((decide (kind < 1)) || (decide (kind > 13))) || (decide (nv < 0))) || (decide (nv > 62))) || (decide (more ≥ 281474976710656))))] (by simp only [b2, b4, b6, Bool.true_or, Bool.false_or, Bool.or_true, Bool.or_false, Bool.true_and, Bool.false_and, Bool.and_true, Bool.and_false, Bool.not_true, Bool.not_false, cond_true, cond_false]) ?_
          exact hk
        · have b6 : (decide (nv < 0)) = false := decide_eq_false c5
          refine N_env [(0, .int .i64 kind), (1, .int .i64 nv), (2, .int .u64 more), (7, .int .u64 ra), (8, .int .i64 rb), (26, .bool false)] (by simp only [b6, Bool.not_true, Bool.not_false]) ?_
          refine N_run 4 [(0, .int .i64 kind), (1, .int .i64 nv), (2, .int .u64 more), (7, .int .u64 ra), (8, .int .i64 rb), (30, .bool (decide (nv > 62)))] (fun w => by kernel_rfl) ?_
          by_cases c7 : nv > 62
          · have b8 : (decide (nv > 62)) = true := decide_eq_true c7
            refine N_env [(0, .int .i64 kind), (1, .int .i64 nv), (2, .int .u64 more), (7, .int .u64 ra), (8, .int .i64 rb), (30, .bool true)] (by simp only [b8, Bool.not_true, Bool.not_false]) ?_
            refine N_run 3 [(0, .int .i64 kind), (1, .int .i64 nv), (2, .int .u64 more), (7, .int .u64 ra), (8, .int .i64 rb), (33, .bool true)] (fun w => by kernel_rfl) ?_
            refine N_end (by kernel_rfl) ?_
            refine S_env [(0, .int .i64 kind), (1, .int .i64 nv), (2, .int .u64 more), (7, .int .u64 ra), (8, .int .i64 rb), (33, .bool (((((decide (kind < 1)) || (decide (kind > 13))) || (decide (nv < 0))) || (decide (nv > 62))) || (decide (more ≥ 281474976710656))))] (by simp only [b2, b4, b6, b8, Bool.true_or, Bool.false_or, Bool.or_true, Bool.or_false, Bool.true_and, Bool.false_and, Bool.and_true, Bool.and_false, Bool.not_true, Bool.not_false, cond_true, cond_false]) ?_
            exact hk
          · have b8 : (decide (nv > 62)) = false := decide_eq_false c7
            refine N_env [(0, .int .i64 kind), (1, .int .i64 nv), (2, .int .u64 more), (7, .int .u64 ra), (8, .int .i64 rb), (30, .bool false)] (by simp only [b8, Bool.not_true, Bool.not_false]) ?_
            refine N_run 3 [(0, .int .i64 kind), (1, .int .i64 nv), (2, .int .u64 more), (7, .int .u64 ra), (8, .int .i64 rb), (33, .bool (decide (more ≥ 281474976710656)))] (fun w => by kernel_rfl) ?_
            refine N_end (by kernel_rfl) ?_
            refine S_env [(0, .int .i64 kind), (1, .int .i64 nv), (2, .int .u64 more), (7, .int .u64 ra), (8, .int .i64 rb), (33, .bool (((((decide (kind < 1)) || (decide (kind > 13))) || (decide (nv < 0))) || (decide (nv > 62))) || (decide (more ≥ 281474976710656))))] (by simp only [b2, b4, b6, b8, Bool.true_or, Bool.false_or, Bool.or_true, Bool.or_false, Bool.true_and, Bool.false_and, Bool.and_true, Bool.and_false, Bool.not_true, Bool.not_false, cond_true, cond_false]) ?_
            exact hk

end Go.Proofs.Ytgofbcapgikboaa
