/-
  Written by a program of mine (gen.py): for functions of this translation a predicate transformer over heaps (.pt), and the proof that it is sound for the call (.link).
-/
import Derived.Test.YtgofbcapgikboaaFnsC
set_option linter.unusedSimpArgs false
set_option linter.unusedVariables false
namespace Go.Proofs.Ytgofbcapgikboaa
open Go
/-! moraine/morainelaw01.WordPlaces -/
noncomputable def morainelaw01_WordPlaces.k0 : Code := Func.code Try.f4
noncomputable def morainelaw01_WordPlaces.k1 : Code := Code.fa morainelaw01_WordPlaces.k0
noncomputable def morainelaw01_WordPlaces.k2 : Code := Code.fb morainelaw01_WordPlaces.k0
noncomputable def morainelaw01_WordPlaces.k3 : Code := Code.fa morainelaw01_WordPlaces.k2
noncomputable def morainelaw01_WordPlaces.k4 : Code := Code.fb morainelaw01_WordPlaces.k2
noncomputable def morainelaw01_WordPlaces.k5 : Code := Code.fa morainelaw01_WordPlaces.k4
noncomputable def morainelaw01_WordPlaces.k6 : Code := Code.fb morainelaw01_WordPlaces.k4
noncomputable def morainelaw01_WordPlaces.k7 : Code := Code.fa morainelaw01_WordPlaces.k5
noncomputable def morainelaw01_WordPlaces.k8 : Code := Code.fb morainelaw01_WordPlaces.k5
noncomputable def morainelaw01_WordPlaces.k9 : Code := Code.fa morainelaw01_WordPlaces.k8
noncomputable def morainelaw01_WordPlaces.k10 : Code := Code.fb morainelaw01_WordPlaces.k8
noncomputable def morainelaw01_WordPlaces.k11 : Code := Code.fa morainelaw01_WordPlaces.k9
noncomputable def morainelaw01_WordPlaces.k12 : Code := Code.fb morainelaw01_WordPlaces.k9
noncomputable def morainelaw01_WordPlaces.k13 : Code := Code.fa morainelaw01_WordPlaces.k6
noncomputable def morainelaw01_WordPlaces.k14 : Code := Code.fb morainelaw01_WordPlaces.k6
noncomputable def morainelaw01_WordPlaces.k15 : Code := Code.fa morainelaw01_WordPlaces.k13
noncomputable def morainelaw01_WordPlaces.k16 : Code := Code.fb morainelaw01_WordPlaces.k13
noncomputable def morainelaw01_WordPlaces.k17 : Code := Code.fa morainelaw01_WordPlaces.k16
noncomputable def morainelaw01_WordPlaces.k18 : Code := Code.fb morainelaw01_WordPlaces.k16
noncomputable def morainelaw01_WordPlaces.k19 : Code := Code.fa morainelaw01_WordPlaces.k17
noncomputable def morainelaw01_WordPlaces.k20 : Code := Code.fb morainelaw01_WordPlaces.k17
noncomputable def morainelaw01_WordPlaces.k21 : Code := Code.fa morainelaw01_WordPlaces.k14
noncomputable def morainelaw01_WordPlaces.k22 : Code := Code.fb morainelaw01_WordPlaces.k14
def morainelaw01_WordPlaces.pt (tag : Int) (addr : Int) (H : Array Obj) (R : Value → Array Obj → Prop) : Prop :=
 word_At.C tag addr H (fun v H1 => ∃ ra : Int, ∃ rb : Int, v = .tuple #[.int .u64 ra, .int .i64 rb] ∧ 
  if ((((tag != 1) && (tag != 2)) && (tag != 3)) && (tag != 6)) = true then (
   if rb = 1 then (
    if ra = 0 then (
     morainelaw01_awake.C  H1 (fun v_2 H2 => ∃ x : Bool, v_2 = .bool x ∧ 
      R (.bool x) H2))
    else
    R (.bool false) H1)
   else
   R (.bool false) H1)
  else
  if ((decide (addr < 0)) || (decide (addr ≥ 65536))) = true then (
   if rb = 18 then (
    if ra = 0 then (
     morainelaw01_awake.C  H1 (fun v_3 H3 => ∃ x_2 : Bool, v_3 = .bool x_2 ∧ 
      R (.bool x_2) H3))
    else
    R (.bool false) H1)
   else
   R (.bool false) H1)
  else
  if rb = 0 then (
   moraineref01_Word.C 2 tag addr 0 0 H1 (fun v_4 H4 => ∃ x_3 : Int, v_4 = .int .u64 x_3 ∧ 
    if ra = x_3 then (
     morainelaw01_awake.C  H4 (fun v_5 H5 => ∃ x_4 : Bool, v_5 = .bool x_4 ∧ 
      R (.bool x_4) H5))
    else
    R (.bool false) H4))
  else
  R (.bool false) H1)
set_option maxRecDepth 100000 in
theorem morainelaw01_WordPlaces.link {tag : Int} {addr : Int} {H : Array Obj} {R : Value → Array Obj → Prop} (h : morainelaw01_WordPlaces.pt tag addr H R) : morainelaw01_WordPlaces.C tag addr H R := by
  refine S_enter (fn := Try.f4) (c := morainelaw01_WordPlaces.k0) 64 Try.func4 (by kernel_rfl) (by kernel_rfl) (Nat.le_of_ble_eq_true (by kernel_rfl)) ?_
  intro w0 Q hQ
  unfold morainelaw01_WordPlaces.pt at h
  refine S_sub [(0, .int .i64 tag), (1, .int .i64 addr)] (sb (by kernel_rfl)) ?_
  refine S_seq morainelaw01_WordPlaces.k1 morainelaw01_WordPlaces.k2 (by kernel_rfl) ?_
  refine S_region 0 (Code.ops morainelaw01_WordPlaces.k1) (by kernel_rfl) ?_
  refine N_run 1 [(0, .int .i64 tag), (1, .int .i64 addr)] (fun w => by kernel_rfl) ?_
  refine N_end (by kernel_rfl) ?_
  refine S_then ?_
  refine S_seq morainelaw01_WordPlaces.k3 morainelaw01_WordPlaces.k4 (by kernel_rfl) ?_
  refine S_region 1 (Code.ops morainelaw01_WordPlaces.k3) (by kernel_rfl) ?_
  refine N_run 2 [(0, .int .i64 tag), (1, .int .i64 addr), (8, .int .i64 tag), (9, .int .i64 addr)] (fun w => by kernel_rfl) ?_
  refine N_call (some 10) 15 #[.int .i64 tag, .int .i64 addr] (fun w => by kernel_rfl) h ?_
  rintro v H1 ⟨ra, rb, rfl, h⟩
  refine ⟨[(0, .int .i64 tag), (1, .int .i64 addr), (10, .tuple #[.int .u64 ra, .int .i64 rb])], ps (by kernel_rfl), ?_⟩
  refine N_run 5 [(0, .int .i64 tag), (1, .int .i64 addr), (5, .int .u64 ra), (6, .int .i64 rb)] (fun w => by kernel_rfl) ?_
  refine N_end (by kernel_rfl) ?_
  refine S_then ?_
  refine S_seq morainelaw01_WordPlaces.k5 morainelaw01_WordPlaces.k6 (by kernel_rfl) ?_
  refine S_seq morainelaw01_WordPlaces.k7 morainelaw01_WordPlaces.k8 (by kernel_rfl) ?_
  refine S_region 2 (Code.ops morainelaw01_WordPlaces.k7) (by kernel_rfl) ?_
  refine N_cut [(0, .int .i64 tag), (1, .int .i64 addr), (5, .int .u64 ra), (6, .int .i64 rb), (26, .bool ((((tag != 1) && (tag != 2)) && (tag != 3)) && (tag != 6)))] ?_ ?_
  · refine S_then ?_
    by_cases c7 : ((((tag != 1) && (tag != 2)) && (tag != 3)) && (tag != 6)) = true
    · rw [if_pos c7] at h
      have b8 : ((((tag != 1) && (tag != 2)) && (tag != 3)) && (tag != 6)) = true := c7
      refine S_env [(0, .int .i64 tag), (1, .int .i64 addr), (5, .int .u64 ra), (6, .int .i64 rb), (26, .bool true)] (by simp only [b8, Bool.not_true, Bool.not_false]) ?_
      clear b8
      refine S_condT (.tmp 26) morainelaw01_WordPlaces.k9 morainelaw01_WordPlaces.k10 (by kernel_rfl) (by kernel_rfl) ?_
      refine S_seq morainelaw01_WordPlaces.k11 morainelaw01_WordPlaces.k12 (by kernel_rfl) ?_
      refine S_region 3 (Code.ops morainelaw01_WordPlaces.k11) (by kernel_rfl) ?_
      refine N_run 3 [(5, .int .u64 ra), (29, .bool (rb == 1))] (fun w => by kernel_rfl) ?_
      by_cases c9 : rb = 1
      · rw [if_pos c9] at h
        have b10 : (rb == 1) = true := beq_iff_eq.mpr c9
        refine N_env [(5, .int .u64 ra), (29, .bool true)] (by simp only [b10, Bool.not_true, Bool.not_false]) ?_
        clear b10
        refine N_run 4 [(33, .bool (ra == 0))] (fun w => by kernel_rfl) ?_
        by_cases c11 : ra = 0
        · rw [if_pos c11] at h
          have b12 : (ra == 0) = true := beq_iff_eq.mpr c11
          refine N_env [(33, .bool true)] (by simp only [b12, Bool.not_true, Bool.not_false]) ?_
          clear b12
          refine N_call (some 34) 14 #[] (fun w => by kernel_rfl) h ?_
          rintro v_2 H2 ⟨x, rfl, h⟩
          refine ⟨[(33, .bool true), (34, .bool x)], ps (by kernel_rfl), ?_⟩
          refine N_run 2 [(4, .bool x)] (fun w => by kernel_rfl) ?_
          refine N_end (by kernel_rfl) ?_
          refine S_then ?_
          refine S_ret (by kernel_rfl) ?_
          show At _ _ _ _ (Q .ret)
          exact S_done (fn := Try.f4) [.bool x] hQ (show ResOK _ _ _ [.tmp 4] _ from .tmp (by kernel_rfl) (.nil)) h
        · rw [if_neg c11] at h
          have b12 : (ra == 0) = false := beq_eq_false_iff_ne.mpr c11
          refine N_env [(33, .bool false)] (by simp only [b12, Bool.not_true, Bool.not_false]) ?_
          clear b12
          refine N_run 3 [(4, .bool false)] (fun w => by kernel_rfl) ?_
          refine N_end (by kernel_rfl) ?_
          refine S_then ?_
          refine S_ret (by kernel_rfl) ?_
          show At _ _ _ _ (Q .ret)
          exact S_done (fn := Try.f4) [.bool false] hQ (show ResOK _ _ _ [.tmp 4] _ from .tmp (by kernel_rfl) (.nil)) h
      · rw [if_neg c9] at h
        have b10 : (rb == 1) = false := beq_eq_false_iff_ne.mpr c9
        refine N_env [(5, .int .u64 ra), (29, .bool false)] (by simp only [b10, Bool.not_true, Bool.not_false]) ?_
        clear b10
        refine N_run 7 [(4, .bool false)] (fun w => by kernel_rfl) ?_
        refine N_end (by kernel_rfl) ?_
        refine S_then ?_
        refine S_ret (by kernel_rfl) ?_
        show At _ _ _ _ (Q .ret)
        exact S_done (fn := Try.f4) [.bool false] hQ (show ResOK _ _ _ [.tmp 4] _ from .tmp (by kernel_rfl) (.nil)) h
    · rw [if_neg c7] at h
      have b8 : ((((tag != 1) && (tag != 2)) && (tag != 3)) && (tag != 6)) = false := eq_false_of_ne_true c7
      refine S_env [(0, .int .i64 tag), (1, .int .i64 addr), (5, .int .u64 ra), (6, .int .i64 rb), (26, .bool false)] (by simp only [b8, Bool.not_true, Bool.not_false]) ?_
      clear b8
      refine S_condF (.tmp 26) morainelaw01_WordPlaces.k9 morainelaw01_WordPlaces.k10 (by kernel_rfl) (by kernel_rfl) ?_
      refine S_skip (by kernel_rfl) ?_
      refine S_then ?_
      refine S_seq morainelaw01_WordPlaces.k13 morainelaw01_WordPlaces.k14 (by kernel_rfl) ?_
      refine S_seq morainelaw01_WordPlaces.k15 morainelaw01_WordPlaces.k16 (by kernel_rfl) ?_
      refine S_region 4 (Code.ops morainelaw01_WordPlaces.k15) (by kernel_rfl) ?_
      refine N_cut [(0, .int .i64 tag), (1, .int .i64 addr), (5, .int .u64 ra), (6, .int .i64 rb), (41, .bool ((decide (addr < 0)) || (decide (addr ≥ 65536))))] ?_ ?_
      · refine S_then ?_
        by_cases c15 : ((decide (addr < 0)) || (decide (addr ≥ 65536))) = true
        · rw [if_pos c15] at h
          have b16 : ((decide (addr < 0)) || (decide (addr ≥ 65536))) = true := c15
          refine S_env [(0, .int .i64 tag), (1, .int .i64 addr), (5, .int .u64 ra), (6, .int .i64 rb), (41, .bool true)] (by simp only [b16, Bool.not_true, Bool.not_false]) ?_
          clear b16
          refine S_condT (.tmp 41) morainelaw01_WordPlaces.k17 morainelaw01_WordPlaces.k18 (by kernel_rfl) (by kernel_rfl) ?_
          refine S_seq morainelaw01_WordPlaces.k19 morainelaw01_WordPlaces.k20 (by kernel_rfl) ?_
          refine S_region 5 (Code.ops morainelaw01_WordPlaces.k19) (by kernel_rfl) ?_
          refine N_run 3 [(5, .int .u64 ra), (44, .bool (rb == 18))] (fun w => by kernel_rfl) ?_
          by_cases c17 : rb = 18
          · rw [if_pos c17] at h
            have b18 : (rb == 18) = true := beq_iff_eq.mpr c17
            refine N_env [(5, .int .u64 ra), (44, .bool true)] (by simp only [b18, Bool.not_true, Bool.not_false]) ?_
            clear b18
            refine N_run 4 [(48, .bool (ra == 0))] (fun w => by kernel_rfl) ?_
            by_cases c19 : ra = 0
            · rw [if_pos c19] at h
              have b20 : (ra == 0) = true := beq_iff_eq.mpr c19
              refine N_env [(48, .bool true)] (by simp only [b20, Bool.not_true, Bool.not_false]) ?_
              clear b20
              refine N_call (some 49) 14 #[] (fun w => by kernel_rfl) h ?_
              rintro v_3 H3 ⟨x_2, rfl, h⟩
              refine ⟨[(48, .bool true), (49, .bool x_2)], ps (by kernel_rfl), ?_⟩
              refine N_run 2 [(4, .bool x_2)] (fun w => by kernel_rfl) ?_
              refine N_end (by kernel_rfl) ?_
              refine S_then ?_
              refine S_ret (by kernel_rfl) ?_
              show At _ _ _ _ (Q .ret)
              exact S_done (fn := Try.f4) [.bool x_2] hQ (show ResOK _ _ _ [.tmp 4] _ from .tmp (by kernel_rfl) (.nil)) h
            · rw [if_neg c19] at h
              have b20 : (ra == 0) = false := beq_eq_false_iff_ne.mpr c19
              refine N_env [(48, .bool false)] (by simp only [b20, Bool.not_true, Bool.not_false]) ?_
              clear b20
              refine N_run 3 [(4, .bool false)] (fun w => by kernel_rfl) ?_
              refine N_end (by kernel_rfl) ?_
              refine S_then ?_
              refine S_ret (by kernel_rfl) ?_
              show At _ _ _ _ (Q .ret)
              exact S_done (fn := Try.f4) [.bool false] hQ (show ResOK _ _ _ [.tmp 4] _ from .tmp (by kernel_rfl) (.nil)) h
          · rw [if_neg c17] at h
            have b18 : (rb == 18) = false := beq_eq_false_iff_ne.mpr c17
            refine N_env [(5, .int .u64 ra), (44, .bool false)] (by simp only [b18, Bool.not_true, Bool.not_false]) ?_
            clear b18
            refine N_run 7 [(4, .bool false)] (fun w => by kernel_rfl) ?_
            refine N_end (by kernel_rfl) ?_
            refine S_then ?_
            refine S_ret (by kernel_rfl) ?_
            show At _ _ _ _ (Q .ret)
            exact S_done (fn := Try.f4) [.bool false] hQ (show ResOK _ _ _ [.tmp 4] _ from .tmp (by kernel_rfl) (.nil)) h
        · rw [if_neg c15] at h
          have b16 : ((decide (addr < 0)) || (decide (addr ≥ 65536))) = false := eq_false_of_ne_true c15
          refine S_env [(0, .int .i64 tag), (1, .int .i64 addr), (5, .int .u64 ra), (6, .int .i64 rb), (41, .bool false)] (by simp only [b16, Bool.not_true, Bool.not_false]) ?_
          clear b16
          refine S_condF (.tmp 41) morainelaw01_WordPlaces.k17 morainelaw01_WordPlaces.k18 (by kernel_rfl) (by kernel_rfl) ?_
          refine S_skip (by kernel_rfl) ?_
          refine S_then ?_
          refine S_seq morainelaw01_WordPlaces.k21 morainelaw01_WordPlaces.k22 (by kernel_rfl) ?_
          refine S_region 6 (Code.ops morainelaw01_WordPlaces.k21) (by kernel_rfl) ?_
          refine N_run 3 [(0, .int .i64 tag), (1, .int .i64 addr), (5, .int .u64 ra), (53, .bool (rb == 0))] (fun w => by kernel_rfl) ?_
          by_cases c21 : rb = 0
          · rw [if_pos c21] at h
            have b22 : (rb == 0) = true := beq_iff_eq.mpr c21
            refine N_env [(0, .int .i64 tag), (1, .int .i64 addr), (5, .int .u64 ra), (53, .bool true)] (by simp only [b22, Bool.not_true, Bool.not_false]) ?_
            clear b22
            refine N_run 4 [(53, .bool true), (54, .int .u64 ra), (57, .agg #[.int .i64 2, .int .i64 tag, .int .i64 addr, .int .i64 0, .int .u64 0])] (fun w => by kernel_rfl) ?_
            refine N_call (some 58) 11 #[.agg #[.int .i64 2, .int .i64 tag, .int .i64 addr, .int .i64 0, .int .u64 0]] (fun w => by kernel_rfl) h ?_
            rintro v_4 H4 ⟨x_3, rfl, h⟩
            refine ⟨[(53, .bool true), (54, .int .u64 ra), (58, .int .u64 x_3)], ps (by kernel_rfl), ?_⟩
            refine N_run 3 [(61, .bool (ra == x_3))] (fun w => by kernel_rfl) ?_
            by_cases c23 : ra = x_3
            · rw [if_pos c23] at h
              have b24 : (ra == x_3) = true := beq_iff_eq.mpr c23
              refine N_env [(61, .bool true)] (by simp only [b24, Bool.not_true, Bool.not_false]) ?_
              clear b24
              refine N_call (some 62) 14 #[] (fun w => by kernel_rfl) h ?_
              rintro v_5 H5 ⟨x_4, rfl, h⟩
              refine ⟨[(61, .bool true), (62, .bool x_4)], ps (by kernel_rfl), ?_⟩
              refine N_run 2 [(4, .bool x_4)] (fun w => by kernel_rfl) ?_
              refine N_end (by kernel_rfl) ?_
              refine S_then ?_
              refine S_ret (by kernel_rfl) ?_
              show At _ _ _ _ (Q .ret)
              exact S_done (fn := Try.f4) [.bool x_4] hQ (show ResOK _ _ _ [.tmp 4] _ from .tmp (by kernel_rfl) (.nil)) h
            · rw [if_neg c23] at h
              have b24 : (ra == x_3) = false := beq_eq_false_iff_ne.mpr c23
              refine N_env [(61, .bool false)] (by simp only [b24, Bool.not_true, Bool.not_false]) ?_
              clear b24
              refine N_run 3 [(4, .bool false)] (fun w => by kernel_rfl) ?_
              refine N_end (by kernel_rfl) ?_
              refine S_then ?_
              refine S_ret (by kernel_rfl) ?_
              show At _ _ _ _ (Q .ret)
              exact S_done (fn := Try.f4) [.bool false] hQ (show ResOK _ _ _ [.tmp 4] _ from .tmp (by kernel_rfl) (.nil)) h
          · rw [if_neg c21] at h
            have b22 : (rb == 0) = false := beq_eq_false_iff_ne.mpr c21
            refine N_env [(0, .int .i64 tag), (1, .int .i64 addr), (5, .int .u64 ra), (53, .bool false)] (by simp only [b22, Bool.not_true, Bool.not_false]) ?_
            clear b22
            refine N_run 11 [(4, .bool false)] (fun w => by kernel_rfl) ?_
            refine N_end (by kernel_rfl) ?_
            refine S_then ?_
            refine S_ret (by kernel_rfl) ?_
            show At _ _ _ _ (Q .ret)
            exact S_done (fn := Try.f4) [.bool false] hQ (show ResOK _ _ _ [.tmp 4] _ from .tmp (by kernel_rfl) (.nil)) h
      · intro hk
        refine N_run 3 [(0, .int .i64 tag), (1, .int .i64 addr), (5, .int .u64 ra), (6, .int .i64 rb), (38, .bool (decide (addr < 0)))] (fun w => by kernel_rfl) ?_
        by_cases c13 : addr < 0
        · have b14 : (decide (addr < 0)) = true := decide_eq_true c13
          refine N_env [(0, .int .i64 tag), (1, .int .i64 addr), (5, .int .u64 ra), (6, .int .i64 rb), (38, .bool true)] (by simp only [b14, Bool.not_true, Bool.not_false]) ?_
          refine N_run 3 [(0, .int .i64 tag), (1, .int .i64 addr), (5, .int .u64 ra), (6, .int .i64 rb), (41, .bool true)] (fun w => by kernel_rfl) ?_
          refine N_end (by kernel_rfl) ?_
          refine S_env [(0, .int .i64 tag), (1, .int .i64 addr), (5, .int .u64 ra), (6, .int .i64 rb), (41, .bool ((decide (addr < 0)) || (decide (addr ≥ 65536))))] (by simp only [b14, Bool.true_or, Bool.false_or, Bool.or_true, Bool.or_false, Bool.true_and, Bool.false_and, Bool.and_true, Bool.and_false, Bool.not_true, Bool.not_false, cond_true, cond_false]) ?_
          exact hk
        · have b14 : (decide (addr < 0)) = false := decide_eq_false c13
          refine N_env [(0, .int .i64 tag), (1, .int .i64 addr), (5, .int .u64 ra), (6, .int .i64 rb), (38, .bool false)] (by simp only [b14, Bool.not_true, Bool.not_false]) ?_
          refine N_run 3 [(0, .int .i64 tag), (1, .int .i64 addr), (5, .int .u64 ra), (6, .int .i64 rb), (41, .bool (decide (addr ≥ 65536)))] (fun w => by kernel_rfl) ?_
          refine N_end (by kernel_rfl) ?_
          refine S_env [(0, .int .i64 tag), (1, .int .i64 addr), (5, .int .u64 ra), (6, .int .i64 rb), (41, .bool ((decide (addr < 0)) || (decide (addr ≥ 65536))))] (by simp only [b14, Bool.true_or, Bool.false_or, Bool.or_true, Bool.or_false, Bool.true_and, Bool.false_and, Bool.and_true, Bool.and_false, Bool.not_true, Bool.not_false, cond_true, cond_false]) ?_
          exact hk
  · intro hk
    refine N_run 3 [(0, .int .i64 tag), (1, .int .i64 addr), (5, .int .u64 ra), (6, .int .i64 rb), (15, .bool (tag != 1))] (fun w => by kernel_rfl) ?_
    by_cases c1 : tag = 1
    · have b2 : (tag != 1) = false := bne_eq_false_iff_eq.mpr c1
      refine N_env [(0, .int .i64 tag), (1, .int .i64 addr), (5, .int .u64 ra), (6, .int .i64 rb), (15, .bool false)] (by simp only [b2, Bool.not_true, Bool.not_false]) ?_
      refine N_run 11 [(0, .int .i64 tag), (1, .int .i64 addr), (5, .int .u64 ra), (6, .int .i64 rb), (26, .bool false)] (fun w => by kernel_rfl) ?_
      refine N_end (by kernel_rfl) ?_
      refine S_env [(0, .int .i64 tag), (1, .int .i64 addr), (5, .int .u64 ra), (6, .int .i64 rb), (26, .bool ((((tag != 1) && (tag != 2)) && (tag != 3)) && (tag != 6)))] (by simp only [b2, Bool.true_or, Bool.false_or, Bool.or_true, Bool.or_false, Bool.true_and, Bool.false_and, Bool.and_true, Bool.and_false, Bool.not_true, Bool.not_false, cond_true, cond_false]) ?_
      exact hk
    · have b2 : (tag != 1) = true := bne_iff_ne.mpr c1
      refine N_env [(0, .int .i64 tag), (1, .int .i64 addr), (5, .int .u64 ra), (6, .int .i64 rb), (15, .bool true)] (by simp only [b2, Bool.not_true, Bool.not_false]) ?_
      refine N_run 4 [(0, .int .i64 tag), (1, .int .i64 addr), (5, .int .u64 ra), (6, .int .i64 rb), (19, .bool (tag != 2))] (fun w => by kernel_rfl) ?_
      by_cases c3 : tag = 2
      · have b4 : (tag != 2) = false := bne_eq_false_iff_eq.mpr c3
        refine N_env [(0, .int .i64 tag), (1, .int .i64 addr), (5, .int .u64 ra), (6, .int .i64 rb), (19, .bool false)] (by simp only [b4, Bool.not_true, Bool.not_false]) ?_
        refine N_run 7 [(0, .int .i64 tag), (1, .int .i64 addr), (5, .int .u64 ra), (6, .int .i64 rb), (26, .bool false)] (fun w => by kernel_rfl) ?_
        refine N_end (by kernel_rfl) ?_
        refine S_env [(0, .int .i64 tag), (1, .int .i64 addr), (5, .int .u64 ra), (6, .int .i64 rb), (26, .bool ((((tag != 1) && (tag != 2)) && (tag != 3)) && (tag != 6)))] (by simp only [b2, b4, Bool.true_or, Bool.false_or, Bool.or_true, Bool.or_false, Bool.true_and, Bool.false_and, Bool.and_true, Bool.and_false, Bool.not_true, Bool.not_false, cond_true, cond_false]) ?_
        exact hk
      · have b4 : (tag != 2) = true := bne_iff_ne.mpr c3
        refine N_env [(0, .int .i64 tag), (1, .int .i64 addr), (5, .int .u64 ra), (6, .int .i64 rb), (19, .bool true)] (by simp only [b4, Bool.not_true, Bool.not_false]) ?_
        refine N_run 4 [(0, .int .i64 tag), (1, .int .i64 addr), (5, .int .u64 ra), (6, .int .i64 rb), (23, .bool (tag != 3))] (fun w => by kernel_rfl) ?_
        by_cases c5 : tag = 3
        · have b6 : (tag != 3) = false := bne_eq_false_iff_eq.mpr c5
          refine N_env [(0, .int .i64 tag), (1, .int .i64 addr), (5, .int .u64 ra), (6, .int .i64 rb), (23, .bool false)] (by simp only [b6, Bool.not_true, Bool.not_false]) ?_
          refine N_run 3 [(0, .int .i64 tag), (1, .int .i64 addr), (5, .int .u64 ra), (6, .int .i64 rb), (26, .bool false)] (fun w => by kernel_rfl) ?_
          refine N_end (by kernel_rfl) ?_
          refine S_env [(0, .int .i64 tag), (1, .int .i64 addr), (5, .int .u64 ra), (6, .int .i64 rb), (26, .bool ((((tag != 1) && (tag != 2)) && (tag != 3)) && (tag != 6)))] (by simp only [b2, b4, b6, Bool.true_or, Bool.false_or, Bool.or_true, Bool.or_false, Bool.true_and, Bool.false_and, Bool.and_true, Bool.and_false, Bool.not_true, Bool.not_false, cond_true, cond_false]) ?_
          exact hk
        · have b6 : (tag != 3) = true := bne_iff_ne.mpr c5
          refine N_env [(0, .int .i64 tag), (1, .int .i64 addr), (5, .int .u64 ra), (6, .int .i64 rb), (23, .bool true)] (by simp only [b6, Bool.not_true, Bool.not_false]) ?_
          refine N_run 3 [(0, .int .i64 tag), (1, .int .i64 addr), (5, .int .u64 ra), (6, .int .i64 rb), (26, .bool (tag != 6))] (fun w => by kernel_rfl) ?_
          refine N_end (by kernel_rfl) ?_
          refine S_env [(0, .int .i64 tag), (1, .int .i64 addr), (5, .int .u64 ra), (6, .int .i64 rb), (26, .bool ((((tag != 1) && (tag != 2)) && (tag != 3)) && (tag != 6)))] (by simp only [b2, b4, b6, Bool.true_or, Bool.false_or, Bool.or_true, Bool.or_false, Bool.true_and, Bool.false_and, Bool.and_true, Bool.and_false, Bool.not_true, Bool.not_false, cond_true, cond_false]) ?_
          exact hk

end Go.Proofs.Ytgofbcapgikboaa
