/-
  Written by a program of mine (gen.py): for functions of this translation a predicate transformer over heaps (.pt), and the proof that it is sound for the call (.link).
-/
import Derived.Test.YtgofbcapgikboaaFnsC
set_option linter.unusedSimpArgs false
set_option linter.unusedVariables false
namespace Go.Proofs.Ytgofbcapgikboaa
open Go
/-! moraine/morainelaw01.awake -/
noncomputable def morainelaw01_awake.k0 : Code := Func.code Try.f14
noncomputable def morainelaw01_awake.k1 : Code := Code.fa morainelaw01_awake.k0
noncomputable def morainelaw01_awake.k2 : Code := Code.fb morainelaw01_awake.k0
noncomputable def morainelaw01_awake.k3 : Code := Code.fa morainelaw01_awake.k2
noncomputable def morainelaw01_awake.k4 : Code := Code.fb morainelaw01_awake.k2
noncomputable def morainelaw01_awake.k5 : Code := Code.fa morainelaw01_awake.k4
noncomputable def morainelaw01_awake.k6 : Code := Code.fb morainelaw01_awake.k4
noncomputable def morainelaw01_awake.k7 : Code := Code.fa morainelaw01_awake.k6
noncomputable def morainelaw01_awake.k8 : Code := Code.fb morainelaw01_awake.k6
noncomputable def morainelaw01_awake.k9 : Code := Code.fa morainelaw01_awake.k8
noncomputable def morainelaw01_awake.k10 : Code := Code.fb morainelaw01_awake.k8
noncomputable def morainelaw01_awake.k11 : Code := Code.fa morainelaw01_awake.k10
noncomputable def morainelaw01_awake.k12 : Code := Code.fb morainelaw01_awake.k10
noncomputable def morainelaw01_awake.k13 : Code := Code.fa morainelaw01_awake.k12
noncomputable def morainelaw01_awake.k14 : Code := Code.fb morainelaw01_awake.k12
def morainelaw01_awake.pt  (H : Array Obj) (R : Value → Array Obj → Prop) : Prop :=
 word_Fix.C (-1) H (fun v H1 => ∃ ra : Int, ∃ rb : Int, v = .tuple #[.int .u64 ra, .int .i64 rb] ∧ 
  word_Char.C 97 H1 (fun v_2 H2 => ∃ ra_2 : Int, ∃ rb_2 : Int, v_2 = .tuple #[.int .u64 ra_2, .int .i64 rb_2] ∧ 
   word_At.C 1 5 H2 (fun v_3 H3 => ∃ ra_3 : Int, ∃ rb_3 : Int, v_3 = .tuple #[.int .u64 ra_3, .int .i64 rb_3] ∧ 
    word_Header.C 1 3 0 H3 (fun v_4 H4 => ∃ ra_4 : Int, ∃ rb_4 : Int, v_4 = .tuple #[.int .u64 ra_4, .int .i64 rb_4] ∧ 
     word_Fix.C 1152921504606846976 H4 (fun v_5 H5 => ∃ ra_5 : Int, ∃ rb_5 : Int, v_5 = .tuple #[.int .u64 ra_5, .int .i64 rb_5] ∧ 
      if ra = 18446744073709551608 then (
       if rb = 0 then (
        if ra_2 = 24892 then (
         if rb_2 = 0 then (
          if ra_3 = 41 then (
           if rb_3 = 0 then (
            if ra_4 = 781 then (
             if rb_4 = 0 then (
              if rb_5 = 4 then (
               word_Truth.C ra H5 (fun v_6 H6 => ∃ x : Bool, v_6 = .bool x ∧ 
                if x = true then (
                 word_Truth.C 4 H6 (fun v_7 H7 => ∃ x_2 : Bool, v_7 = .bool x_2 ∧ 
                  R (.bool (!x_2)) H7))
                else
                R (.bool false) H6))
              else
              R (.bool false) H5)
             else
             R (.bool false) H5)
            else
            R (.bool false) H5)
           else
           R (.bool false) H5)
          else
          R (.bool false) H5)
         else
         R (.bool false) H5)
        else
        R (.bool false) H5)
       else
       R (.bool false) H5)
      else
      R (.bool false) H5)))))
set_option maxRecDepth 100000 in
theorem morainelaw01_awake.link  {H : Array Obj} {R : Value → Array Obj → Prop} (h : morainelaw01_awake.pt  H R) : morainelaw01_awake.C  H R := by
  refine S_enter (fn := Try.f14) (c := morainelaw01_awake.k0) 73 Try.func14 (by kernel_rfl) (by kernel_rfl) (Nat.le_of_ble_eq_true (by kernel_rfl)) ?_
  intro w0 Q hQ
  unfold morainelaw01_awake.pt at h
  refine S_sub [] (sb (by kernel_rfl)) ?_
  refine S_seq morainelaw01_awake.k1 morainelaw01_awake.k2 (by kernel_rfl) ?_
  refine S_region 0 (Code.ops morainelaw01_awake.k1) (by kernel_rfl) ?_
  refine N_run 1 [] (fun w => by kernel_rfl) ?_
  refine N_end (by kernel_rfl) ?_
  refine S_then ?_
  refine S_seq morainelaw01_awake.k3 morainelaw01_awake.k4 (by kernel_rfl) ?_
  refine S_region 1 (Code.ops morainelaw01_awake.k3) (by kernel_rfl) ?_
  refine N_call (some 12) 9 #[.int .i64 (-1)] (fun w => by kernel_rfl) h ?_
  rintro v H1 ⟨ra, rb, rfl, h⟩
  refine ⟨[(12, .tuple #[.int .u64 ra, .int .i64 rb])], ps (by kernel_rfl), ?_⟩
  refine N_run 5 [(1, .int .u64 ra), (2, .int .i64 rb)] (fun w => by kernel_rfl) ?_
  refine N_end (by kernel_rfl) ?_
  refine S_then ?_
  refine S_seq morainelaw01_awake.k5 morainelaw01_awake.k6 (by kernel_rfl) ?_
  refine S_region 2 (Code.ops morainelaw01_awake.k5) (by kernel_rfl) ?_
  refine N_call (some 16) 12 #[.int .i32 97] (fun w => by kernel_rfl) h ?_
  rintro v_2 H2 ⟨ra_2, rb_2, rfl, h⟩
  refine ⟨[(1, .int .u64 ra), (2, .int .i64 rb), (16, .tuple #[.int .u64 ra_2, .int .i64 rb_2])], ps (by kernel_rfl), ?_⟩
  refine N_run 5 [(1, .int .u64 ra), (2, .int .i64 rb), (3, .int .u64 ra_2), (4, .int .i64 rb_2)] (fun w => by kernel_rfl) ?_
  refine N_end (by kernel_rfl) ?_
  refine S_then ?_
  refine S_seq morainelaw01_awake.k7 morainelaw01_awake.k8 (by kernel_rfl) ?_
  refine S_region 3 (Code.ops morainelaw01_awake.k7) (by kernel_rfl) ?_
  refine N_call (some 20) 15 #[.int .i64 1, .int .i64 5] (fun w => by kernel_rfl) h ?_
  rintro v_3 H3 ⟨ra_3, rb_3, rfl, h⟩
  refine ⟨[(1, .int .u64 ra), (2, .int .i64 rb), (3, .int .u64 ra_2), (4, .int .i64 rb_2), (20, .tuple #[.int .u64 ra_3, .int .i64 rb_3])], ps (by kernel_rfl), ?_⟩
  refine N_run 5 [(1, .int .u64 ra), (2, .int .i64 rb), (3, .int .u64 ra_2), (4, .int .i64 rb_2), (5, .int .u64 ra_3), (6, .int .i64 rb_3)] (fun w => by kernel_rfl) ?_
  refine N_end (by kernel_rfl) ?_
  refine S_then ?_
  refine S_seq morainelaw01_awake.k9 morainelaw01_awake.k10 (by kernel_rfl) ?_
  refine S_region 4 (Code.ops morainelaw01_awake.k9) (by kernel_rfl) ?_
  refine N_call (some 24) 16 #[.int .i64 1, .int .i64 3, .int .u64 0] (fun w => by kernel_rfl) h ?_
  rintro v_4 H4 ⟨ra_4, rb_4, rfl, h⟩
  refine ⟨[(1, .int .u64 ra), (2, .int .i64 rb), (3, .int .u64 ra_2), (4, .int .i64 rb_2), (5, .int .u64 ra_3), (6, .int .i64 rb_3), (24, .tuple #[.int .u64 ra_4, .int .i64 rb_4])], ps (by kernel_rfl), ?_⟩
  refine N_run 5 [(1, .int .u64 ra), (2, .int .i64 rb), (3, .int .u64 ra_2), (4, .int .i64 rb_2), (5, .int .u64 ra_3), (6, .int .i64 rb_3), (7, .int .u64 ra_4), (8, .int .i64 rb_4)] (fun w => by kernel_rfl) ?_
  refine N_end (by kernel_rfl) ?_
  refine S_then ?_
  refine S_seq morainelaw01_awake.k11 morainelaw01_awake.k12 (by kernel_rfl) ?_
  refine S_region 5 (Code.ops morainelaw01_awake.k11) (by kernel_rfl) ?_
  refine N_call (some 28) 9 #[.int .i64 1152921504606846976] (fun w => by kernel_rfl) h ?_
  rintro v_5 H5 ⟨ra_5, rb_5, rfl, h⟩
  refine ⟨[(1, .int .u64 ra), (2, .int .i64 rb), (3, .int .u64 ra_2), (4, .int .i64 rb_2), (5, .int .u64 ra_3), (6, .int .i64 rb_3), (7, .int .u64 ra_4), (8, .int .i64 rb_4), (28, .tuple #[.int .u64 ra_5, .int .i64 rb_5])], ps (by kernel_rfl), ?_⟩
  refine N_run 5 [(1, .int .u64 ra), (2, .int .i64 rb), (3, .int .u64 ra_2), (4, .int .i64 rb_2), (5, .int .u64 ra_3), (6, .int .i64 rb_3), (7, .int .u64 ra_4), (8, .int .i64 rb_4), (10, .int .i64 rb_5)] (fun w => by kernel_rfl) ?_
  refine N_end (by kernel_rfl) ?_
  refine S_then ?_
  refine S_seq morainelaw01_awake.k13 morainelaw01_awake.k14 (by kernel_rfl) ?_
  refine S_region 6 (Code.ops morainelaw01_awake.k13) (by kernel_rfl) ?_
  refine N_run 3 [(1, .int .u64 ra), (2, .int .i64 rb), (3, .int .u64 ra_2), (4, .int .i64 rb_2), (5, .int .u64 ra_3), (6, .int .i64 rb_3), (7, .int .u64 ra_4), (8, .int .i64 rb_4), (10, .int .i64 rb_5), (33, .bool (ra == 18446744073709551608))] (fun w => by kernel_rfl) ?_
  by_cases c1 : ra = 18446744073709551608
  · rw [if_pos c1] at h
    have b2 : (ra == 18446744073709551608) = true := beq_iff_eq.mpr c1
    refine N_env [(1, .int .u64 ra), (2, .int .i64 rb), (3, .int .u64 ra_2), (4, .int .i64 rb_2), (5, .int .u64 ra_3), (6, .int .i64 rb_3), (7, .int .u64 ra_4), (8, .int .i64 rb_4), (10, .int .i64 rb_5), (33, .bool true)] (by simp only [b2, Bool.not_true, Bool.not_false]) ?_
    clear b2
    refine N_run 4 [(1, .int .u64 ra), (3, .int .u64 ra_2), (4, .int .i64 rb_2), (5, .int .u64 ra_3), (6, .int .i64 rb_3), (7, .int .u64 ra_4), (8, .int .i64 rb_4), (10, .int .i64 rb_5), (37, .bool (rb == 0))] (fun w => by kernel_rfl) ?_
    by_cases c3 : rb = 0
    · rw [if_pos c3] at h
      have b4 : (rb == 0) = true := beq_iff_eq.mpr c3
      refine N_env [(1, .int .u64 ra), (3, .int .u64 ra_2), (4, .int .i64 rb_2), (5, .int .u64 ra_3), (6, .int .i64 rb_3), (7, .int .u64 ra_4), (8, .int .i64 rb_4), (10, .int .i64 rb_5), (37, .bool true)] (by simp only [b4, Bool.not_true, Bool.not_false]) ?_
      clear b4
      refine N_run 4 [(1, .int .u64 ra), (4, .int .i64 rb_2), (5, .int .u64 ra_3), (6, .int .i64 rb_3), (7, .int .u64 ra_4), (8, .int .i64 rb_4), (10, .int .i64 rb_5), (41, .bool (ra_2 == 24892))] (fun w => by kernel_rfl) ?_
      by_cases c5 : ra_2 = 24892
      · rw [if_pos c5] at h
        have b6 : (ra_2 == 24892) = true := beq_iff_eq.mpr c5
        refine N_env [(1, .int .u64 ra), (4, .int .i64 rb_2), (5, .int .u64 ra_3), (6, .int .i64 rb_3), (7, .int .u64 ra_4), (8, .int .i64 rb_4), (10, .int .i64 rb_5), (41, .bool true)] (by simp only [b6, Bool.not_true, Bool.not_false]) ?_
        clear b6
        refine N_run 4 [(1, .int .u64 ra), (5, .int .u64 ra_3), (6, .int .i64 rb_3), (7, .int .u64 ra_4), (8, .int .i64 rb_4), (10, .int .i64 rb_5), (45, .bool (rb_2 == 0))] (fun w => by kernel_rfl) ?_
        by_cases c7 : rb_2 = 0
        · rw [if_pos c7] at h
          have b8 : (rb_2 == 0) = true := beq_iff_eq.mpr c7
          refine N_env [(1, .int .u64 ra), (5, .int .u64 ra_3), (6, .int .i64 rb_3), (7, .int .u64 ra_4), (8, .int .i64 rb_4), (10, .int .i64 rb_5), (45, .bool true)] (by simp only [b8, Bool.not_true, Bool.not_false]) ?_
          clear b8
          refine N_run 4 [(1, .int .u64 ra), (6, .int .i64 rb_3), (7, .int .u64 ra_4), (8, .int .i64 rb_4), (10, .int .i64 rb_5), (49, .bool (ra_3 == 41))] (fun w => by kernel_rfl) ?_
          by_cases c9 : ra_3 = 41
          · rw [if_pos c9] at h
            have b10 : (ra_3 == 41) = true := beq_iff_eq.mpr c9
            refine N_env [(1, .int .u64 ra), (6, .int .i64 rb_3), (7, .int .u64 ra_4), (8, .int .i64 rb_4), (10, .int .i64 rb_5), (49, .bool true)] (by simp only [b10, Bool.not_true, Bool.not_false]) ?_
            clear b10
            refine N_run 4 [(1, .int .u64 ra), (7, .int .u64 ra_4), (8, .int .i64 rb_4), (10, .int .i64 rb_5), (53, .bool (rb_3 == 0))] (fun w => by kernel_rfl) ?_
            by_cases c11 : rb_3 = 0
            · rw [if_pos c11] at h
              have b12 : (rb_3 == 0) = true := beq_iff_eq.mpr c11
              refine N_env [(1, .int .u64 ra), (7, .int .u64 ra_4), (8, .int .i64 rb_4), (10, .int .i64 rb_5), (53, .bool true)] (by simp only [b12, Bool.not_true, Bool.not_false]) ?_
              clear b12
              refine N_run 4 [(1, .int .u64 ra), (8, .int .i64 rb_4), (10, .int .i64 rb_5), (57, .bool (ra_4 == 781))] (fun w => by kernel_rfl) ?_
              by_cases c13 : ra_4 = 781
              · rw [if_pos c13] at h
                have b14 : (ra_4 == 781) = true := beq_iff_eq.mpr c13
                refine N_env [(1, .int .u64 ra), (8, .int .i64 rb_4), (10, .int .i64 rb_5), (57, .bool true)] (by simp only [b14, Bool.not_true, Bool.not_false]) ?_
                clear b14
                refine N_run 4 [(1, .int .u64 ra), (10, .int .i64 rb_5), (61, .bool (rb_4 == 0))] (fun w => by kernel_rfl) ?_
                by_cases c15 : rb_4 = 0
                · rw [if_pos c15] at h
                  have b16 : (rb_4 == 0) = true := beq_iff_eq.mpr c15
                  refine N_env [(1, .int .u64 ra), (10, .int .i64 rb_5), (61, .bool true)] (by simp only [b16, Bool.not_true, Bool.not_false]) ?_
                  clear b16
                  refine N_run 4 [(1, .int .u64 ra), (65, .bool (rb_5 == 4))] (fun w => by kernel_rfl) ?_
                  by_cases c17 : rb_5 = 4
                  · rw [if_pos c17] at h
                    have b18 : (rb_5 == 4) = true := beq_iff_eq.mpr c17
                    refine N_env [(1, .int .u64 ra), (65, .bool true)] (by simp only [b18, Bool.not_true, Bool.not_false]) ?_
                    clear b18
                    refine N_run 1 [(65, .bool true), (66, .int .u64 ra)] (fun w => by kernel_rfl) ?_
                    refine N_call (some 67) 25 #[.int .u64 ra] (fun w => by kernel_rfl) h ?_
                    rintro v_6 H6 ⟨x, rfl, h⟩
                    refine ⟨[(65, .bool true), (67, .bool x)], ps (by kernel_rfl), ?_⟩
                    refine N_run 2 [(69, .bool x)] (fun w => by kernel_rfl) ?_
                    by_cases c19 : x = true
                    · rw [if_pos c19] at h
                      have b20 : x = true := c19
                      refine N_env [(69, .bool true)] (by simp only [b20, Bool.not_true, Bool.not_false]) ?_
                      clear b20
                      refine N_call (some 70) 25 #[.int .u64 4] (fun w => by kernel_rfl) h ?_
                      rintro v_7 H7 ⟨x_2, rfl, h⟩
                      refine ⟨[(69, .bool true), (70, .bool x_2)], ps (by kernel_rfl), ?_⟩
                      refine N_run 3 [(0, .bool (!x_2))] (fun w => by kernel_rfl) ?_
                      refine N_end (by kernel_rfl) ?_
                      refine S_then ?_
                      refine S_ret (by kernel_rfl) ?_
                      show At _ _ _ _ (Q .ret)
                      exact S_done (fn := Try.f14) [.bool (!x_2)] hQ (show ResOK _ _ _ [.tmp 0] _ from .tmp (by kernel_rfl) (.nil)) h
                    · rw [if_neg c19] at h
                      have b20 : x = false := eq_false_of_ne_true c19
                      refine N_env [(69, .bool false)] (by simp only [b20, Bool.not_true, Bool.not_false]) ?_
                      clear b20
                      refine N_run 4 [(0, .bool false)] (fun w => by kernel_rfl) ?_
                      refine N_end (by kernel_rfl) ?_
                      refine S_then ?_
                      refine S_ret (by kernel_rfl) ?_
                      show At _ _ _ _ (Q .ret)
                      exact S_done (fn := Try.f14) [.bool false] hQ (show ResOK _ _ _ [.tmp 0] _ from .tmp (by kernel_rfl) (.nil)) h
                  · rw [if_neg c17] at h
                    have b18 : (rb_5 == 4) = false := beq_eq_false_iff_ne.mpr c17
                    refine N_env [(1, .int .u64 ra), (65, .bool false)] (by simp only [b18, Bool.not_true, Bool.not_false]) ?_
                    clear b18
                    refine N_run 8 [(0, .bool false)] (fun w => by kernel_rfl) ?_
                    refine N_end (by kernel_rfl) ?_
                    refine S_then ?_
                    refine S_ret (by kernel_rfl) ?_
                    show At _ _ _ _ (Q .ret)
                    exact S_done (fn := Try.f14) [.bool false] hQ (show ResOK _ _ _ [.tmp 0] _ from .tmp (by kernel_rfl) (.nil)) h
                · rw [if_neg c15] at h
                  have b16 : (rb_4 == 0) = false := beq_eq_false_iff_ne.mpr c15
                  refine N_env [(1, .int .u64 ra), (10, .int .i64 rb_5), (61, .bool false)] (by simp only [b16, Bool.not_true, Bool.not_false]) ?_
                  clear b16
                  refine N_run 12 [(0, .bool false)] (fun w => by kernel_rfl) ?_
                  refine N_end (by kernel_rfl) ?_
                  refine S_then ?_
                  refine S_ret (by kernel_rfl) ?_
                  show At _ _ _ _ (Q .ret)
                  exact S_done (fn := Try.f14) [.bool false] hQ (show ResOK _ _ _ [.tmp 0] _ from .tmp (by kernel_rfl) (.nil)) h
              · rw [if_neg c13] at h
                have b14 : (ra_4 == 781) = false := beq_eq_false_iff_ne.mpr c13
                refine N_env [(1, .int .u64 ra), (8, .int .i64 rb_4), (10, .int .i64 rb_5), (57, .bool false)] (by simp only [b14, Bool.not_true, Bool.not_false]) ?_
                clear b14
                refine N_run 16 [(0, .bool false)] (fun w => by kernel_rfl) ?_
                refine N_end (by kernel_rfl) ?_
                refine S_then ?_
                refine S_ret (by kernel_rfl) ?_
                show At _ _ _ _ (Q .ret)
                exact S_done (fn := Try.f14) [.bool false] hQ (show ResOK _ _ _ [.tmp 0] _ from .tmp (by kernel_rfl) (.nil)) h
            · rw [if_neg c11] at h
              have b12 : (rb_3 == 0) = false := beq_eq_false_iff_ne.mpr c11
              refine N_env [(1, .int .u64 ra), (7, .int .u64 ra_4), (8, .int .i64 rb_4), (10, .int .i64 rb_5), (53, .bool false)] (by simp only [b12, Bool.not_true, Bool.not_false]) ?_
              clear b12
              refine N_run 20 [(0, .bool false)] (fun w => by kernel_rfl) ?_
              refine N_end (by kernel_rfl) ?_
              refine S_then ?_
              refine S_ret (by kernel_rfl) ?_
              show At _ _ _ _ (Q .ret)
              exact S_done (fn := Try.f14) [.bool false] hQ (show ResOK _ _ _ [.tmp 0] _ from .tmp (by kernel_rfl) (.nil)) h
          · rw [if_neg c9] at h
            have b10 : (ra_3 == 41) = false := beq_eq_false_iff_ne.mpr c9
            refine N_env [(1, .int .u64 ra), (6, .int .i64 rb_3), (7, .int .u64 ra_4), (8, .int .i64 rb_4), (10, .int .i64 rb_5), (49, .bool false)] (by simp only [b10, Bool.not_true, Bool.not_false]) ?_
            clear b10
            refine N_run 24 [(0, .bool false)] (fun w => by kernel_rfl) ?_
            refine N_end (by kernel_rfl) ?_
            refine S_then ?_
            refine S_ret (by kernel_rfl) ?_
            show At _ _ _ _ (Q .ret)
            exact S_done (fn := Try.f14) [.bool false] hQ (show ResOK _ _ _ [.tmp 0] _ from .tmp (by kernel_rfl) (.nil)) h
        · rw [if_neg c7] at h
          have b8 : (rb_2 == 0) = false := beq_eq_false_iff_ne.mpr c7
          refine N_env [(1, .int .u64 ra), (5, .int .u64 ra_3), (6, .int .i64 rb_3), (7, .int .u64 ra_4), (8, .int .i64 rb_4), (10, .int .i64 rb_5), (45, .bool false)] (by simp only [b8, Bool.not_true, Bool.not_false]) ?_
          clear b8
          refine N_run 28 [(0, .bool false)] (fun w => by kernel_rfl) ?_
          refine N_end (by kernel_rfl) ?_
          refine S_then ?_
          refine S_ret (by kernel_rfl) ?_
          show At _ _ _ _ (Q .ret)
          exact S_done (fn := Try.f14) [.bool false] hQ (show ResOK _ _ _ [.tmp 0] _ from .tmp (by kernel_rfl) (.nil)) h
      · rw [if_neg c5] at h
        have b6 : (ra_2 == 24892) = false := beq_eq_false_iff_ne.mpr c5
        refine N_env [(1, .int .u64 ra), (4, .int .i64 rb_2), (5, .int .u64 ra_3), (6, .int .i64 rb_3), (7, .int .u64 ra_4), (8, .int .i64 rb_4), (10, .int .i64 rb_5), (41, .bool false)] (by simp only [b6, Bool.not_true, Bool.not_false]) ?_
        clear b6
        refine N_run 32 [(0, .bool false)] (fun w => by kernel_rfl) ?_
        refine N_end (by kernel_rfl) ?_
        refine S_then ?_
        refine S_ret (by kernel_rfl) ?_
        show At _ _ _ _ (Q .ret)
        exact S_done (fn := Try.f14) [.bool false] hQ (show ResOK _ _ _ [.tmp 0] _ from .tmp (by kernel_rfl) (.nil)) h
    · rw [if_neg c3] at h
      have b4 : (rb == 0) = false := beq_eq_false_iff_ne.mpr c3
      refine N_env [(1, .int .u64 ra), (3, .int .u64 ra_2), (4, .int .i64 rb_2), (5, .int .u64 ra_3), (6, .int .i64 rb_3), (7, .int .u64 ra_4), (8, .int .i64 rb_4), (10, .int .i64 rb_5), (37, .bool false)] (by simp only [b4, Bool.not_true, Bool.not_false]) ?_
      clear b4
      refine N_run 36 [(0, .bool false)] (fun w => by kernel_rfl) ?_
      refine N_end (by kernel_rfl) ?_
      refine S_then ?_
      refine S_ret (by kernel_rfl) ?_
      show At _ _ _ _ (Q .ret)
      exact S_done (fn := Try.f14) [.bool false] hQ (show ResOK _ _ _ [.tmp 0] _ from .tmp (by kernel_rfl) (.nil)) h
  · rw [if_neg c1] at h
    have b2 : (ra == 18446744073709551608) = false := beq_eq_false_iff_ne.mpr c1
    refine N_env [(1, .int .u64 ra), (2, .int .i64 rb), (3, .int .u64 ra_2), (4, .int .i64 rb_2), (5, .int .u64 ra_3), (6, .int .i64 rb_3), (7, .int .u64 ra_4), (8, .int .i64 rb_4), (10, .int .i64 rb_5), (33, .bool false)] (by simp only [b2, Bool.not_true, Bool.not_false]) ?_
    clear b2
    refine N_run 40 [(0, .bool false)] (fun w => by kernel_rfl) ?_
    refine N_end (by kernel_rfl) ?_
    refine S_then ?_
    refine S_ret (by kernel_rfl) ?_
    show At _ _ _ _ (Q .ret)
    exact S_done (fn := Try.f14) [.bool false] hQ (show ResOK _ _ _ [.tmp 0] _ from .tmp (by kernel_rfl) (.nil)) h

end Go.Proofs.Ytgofbcapgikboaa
