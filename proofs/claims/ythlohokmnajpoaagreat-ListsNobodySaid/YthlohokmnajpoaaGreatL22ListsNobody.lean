/-
 Written by a program of mine (gen.py): for functions of this translation a predicate transformer over heaps (.pt), and the proof that it is sound for the call (.link).
-/
import Derived.Test.YthlohokmnajpoaaGreatFnsC
set_option linter.unusedSimpArgs false
set_option linter.unusedVariables false
set_option maxHeartbeats 1000000
noncomputable section
namespace Go.Proofs.YthlohokmnajpoaaGreat
open Go
/-! moraine/morainelaw22.ListsNobody -/
namespace morainelaw22_ListsNobody
def kk0 := Func.code Tryz.f3
def kk1 := Code.fa kk0
def kk2 := Code.fb kk0
def kk3 := Code.fa kk2
def kk4 := Code.fb kk2
def kk5 := Code.fa kk3
def kk6 := Code.fb kk3
def kk7 := Code.fa kk6
def kk8 := Code.fb kk6
def kk9 := Code.fa kk7
def kk10 := Code.fb kk7
def kk11 := Code.fa kk4
def kk12 := Code.fb kk4
def kk13 := Code.fa kk12
def kk14 := Code.fb kk12
def kk15 := Code.fa kk14
def kk16 := Code.fb kk14
def kk17 := Code.fa kk16
def kk18 := Code.fb kk16
def kk19 := Code.fa kk18
def kk20 := Code.fb kk18
def kk21 := Code.fa kk19
def kk22 := Code.fb kk19
def kk23 := Code.fa kk22
def kk24 := Code.fb kk22
def kk25 := Code.fa kk23
def kk26 := Code.fb kk23
def kk27 := Code.fa kk20
def kk28 := Code.fb kk20
def kk29 := Code.fa kk27
def kk30 := Code.fb kk27
def kk31 := Code.fa kk30
def kk32 := Code.fb kk30
def kk33 := Code.fa kk31
def kk34 := Code.fb kk31
def kk35 := Code.fa kk34
def kk36 := Code.fb kk34
def kk37 := Code.fa kk28
def kk38 := Code.fb kk28
end morainelaw22_ListsNobody
def morainelaw22_ListsNobody.pt (nv : Int) (argsB : Option Addr) (argsN : Nat) (argsC : Nat) (H : Array Obj) (R : Value → Array Obj → Prop) : Prop :=
 if (argsN : Int) > 100 then (
 morainelaw22_awake.C  H (fun v H1 => ∃ x : Bool, v = .bool x ∧ 
 R (.bool x) H1))
 else
 lists_Apply.C none nv argsB argsN argsC H (fun v_2 H2 => ∃ ra : Int, ∃ rb : Int, v_2 = .tuple #[.int .u64 ra, .int .i64 rb] ∧ 
 ∀ (b : Nat) (H3 : Array Obj), b = H2.size → H3 = H2.push (.cells #[.pointer none, .slice none 0 0, .slice none 0 0, .int .u64 0] 33) →
 lists_Apply.C (some (Addr.mk b 0 none)) nv argsB argsN argsC H3 (fun v_3 H4 => ∃ ra_2 : Int, ∃ rb_2 : Int, v_3 = .tuple #[.int .u64 ra_2, .int .i64 rb_2] ∧ 
 obj_New.C 8 H4 (fun v_4 H5 => ∃ ra_3 : Option Addr, ∃ rb_3 : Int, v_4 = .tuple #[.pointer ra_3, .int .i64 rb_3] ∧ 
 if (((((rb_3 != 0) || (ra != 0)) || (rb != 1)) || (ra_2 != 0)) || (rb_2 != 1)) = true then (
 R (.bool false) H5)
 else
 if nv < 0 then (
 lists_Apply.C ra_3 nv argsB argsN argsC H5 (fun v_5 H6 => ∃ ra_4 : Int, ∃ rb_4 : Int, v_5 = .tuple #[.int .u64 ra_4, .int .i64 rb_4] ∧ 
 if ra_4 = 0 then (
 if rb_4 = 1 then (
 ∃ ra3A : Addr, ra_3 = some ra3A ∧
 ∃ x_2 : Option Addr, hat H6 ra3A = some (.pointer x_2) ∧
 ∃ x2A : Addr, x_2 = some x2A ∧
 ∃ x_3 : Option Addr, hat H6 x2A = some (.pointer x_3) ∧
 space_Space_Words.C x_3 none 0 0 H6 (fun v_6 H7 => ∃ x_4 : Int, v_6 = .int .i64 x_4 ∧ 
 if x_4 = 0 then (
 morainelaw22_awake.C  H7 (fun v_7 H8 => ∃ x_5 : Bool, v_7 = .bool x_5 ∧ 
 R (.bool x_5) H8))
 else
 R (.bool false) H7))
 else
 R (.bool false) H6)
 else
 R (.bool false) H6))
 else
 lists_Prims.C  H5 (fun v_8 H9 => ∃ xB : Option Addr, ∃ xN : Nat, ∃ xC : Nat, v_8 = .slice xB xN xC ∧ 
 if nv ≥ (xN : Int) then (
 lists_Apply.C ra_3 nv argsB argsN argsC H9 (fun v_9 H10 => ∃ ra_5 : Int, ∃ rb_5 : Int, v_9 = .tuple #[.int .u64 ra_5, .int .i64 rb_5] ∧ 
 if ra_5 = 0 then (
 if rb_5 = 1 then (
 ∃ ra3A_2 : Addr, ra_3 = some ra3A_2 ∧
 ∃ x_6 : Option Addr, hat H10 ra3A_2 = some (.pointer x_6) ∧
 ∃ x6A : Addr, x_6 = some x6A ∧
 ∃ x_7 : Option Addr, hat H10 x6A = some (.pointer x_7) ∧
 space_Space_Words.C x_7 none 0 0 H10 (fun v_10 H11 => ∃ x_8 : Int, v_10 = .int .i64 x_8 ∧ 
 if x_8 = 0 then (
 morainelaw22_awake.C  H11 (fun v_11 H12 => ∃ x_9 : Bool, v_11 = .bool x_9 ∧ 
 R (.bool x_9) H12))
 else
 R (.bool false) H11))
 else
 R (.bool false) H10)
 else
 R (.bool false) H10))
 else
 morainelaw22_awake.C  H9 (fun v_12 H13 => ∃ x_10 : Bool, v_12 = .bool x_10 ∧ 
 R (.bool x_10) H13)))))
namespace morainelaw22_ListsNobody
set_option maxRecDepth 100000 in
theorem link {nv : Int} {argsB : Option Addr} {argsN : Nat} {argsC : Nat} {H : Array Obj} {R : Value → Array Obj → Prop} (h : pt nv argsB argsN argsC H R) : C nv argsB argsN argsC H R := by
 refine S_enter (fn := Tryz.f3) (c := kk0) 91 Tryz.func3 (by kernel_rfl) (by kernel_rfl) (Nat.le_of_ble_eq_true (by kernel_rfl)) ?_
 intro w0 Q hQ
 unfold pt at h
 refine S_sub [(0, .int .i64 nv), (1, .slice argsB argsN argsC)] (sb (by kernel_rfl)) ?_
 refine T_sr 0 kk1 kk2 ?_
 refine N_run 1 [(0, .int .i64 nv), (1, .slice argsB argsN argsC)] (fun _=>by kernel_rfl) ?_
 refine T_e ?_
 refine S_seq kk3 kk4 (by kernel_rfl) ?_
 refine T_sr 1 kk5 kk6 ?_
 refine N_run 3 [(0, .int .i64 nv), (1, .slice argsB argsN argsC), (16, .bool (decide ((argsN : Int) > 100)))] (fun _=>by kernel_rfl) ?_
 refine T_e ?_
 by_cases c1 : (argsN : Int) > 100
 ·rw [if_pos c1] at h
  have b2 : (decide ((argsN : Int) > 100)) = true := decide_eq_true c1
  refine S_env [(0, .int .i64 nv), (1, .slice argsB argsN argsC), (16, .bool true)] (by simp only [b2, Bool.not_true, Bool.not_false]) ?_
  clear b2
  refine S_condT (.tmp 16) kk7 kk8 (by kernel_rfl) (by kernel_rfl) ?_
  refine T_sr 2 kk9 kk10 ?_
  refine N_sub [] (sb (by kernel_rfl)) ?_
  refine N_call (some 17) 4 #[] (fun _=>by kernel_rfl) h ?_; clear h
  rintro v H1 ⟨x, rfl, h⟩
  refine ⟨[(17, .bool x)], ps (by kernel_rfl), ?_⟩
  refine N_run 1 [(4, .bool x)] (fun _=>by kernel_rfl) ?_
  refine T_e ?_
  refine S_ret (by kernel_rfl) ?_
  show At _ _ _ _ _ (Q .ret)
  exact S_done (fn := Tryz.f3) [.bool x] hQ (show ResOK _ _ _ [.tmp 4] _ from .tmp (by kernel_rfl) (.nil)) h
 ·rw [if_neg c1] at h
  have b2 : (decide ((argsN : Int) > 100)) = false := decide_eq_false c1
  refine S_env [(0, .int .i64 nv), (1, .slice argsB argsN argsC), (16, .bool false)] (by simp only [b2, Bool.not_true, Bool.not_false]) ?_
  clear b2
  refine S_condF (.tmp 16) kk7 kk8 (by kernel_rfl) (by kernel_rfl) ?_
  refine S_skip (by kernel_rfl) ?_
  refine S_then ?_
  refine T_sr 3 kk11 kk12 ?_
  refine N_run 1 [(0, .int .i64 nv), (1, .slice argsB argsN argsC), (5, .pointer none)] (fun _=>by kernel_rfl) ?_
  refine T_e ?_
  refine T_sr 4 kk13 kk14 ?_
  refine N_run 3 [(0, .int .i64 nv), (1, .slice argsB argsN argsC), (19, .pointer none), (20, .int .i64 nv), (21, .slice argsB argsN argsC)] (fun _=>by kernel_rfl) ?_
  refine N_call (some 22) 5 #[.pointer none, .int .i64 nv, .slice argsB argsN argsC] (fun _=>by kernel_rfl) h ?_; clear h
  rintro v_2 H2 ⟨ra, rb, rfl, h⟩
  refine ⟨[(0, .int .i64 nv), (1, .slice argsB argsN argsC), (22, .tuple #[.int .u64 ra, .int .i64 rb])], ps (by kernel_rfl), ?_⟩
  refine N_run 5 [(0, .int .i64 nv), (1, .slice argsB argsN argsC), (6, .int .u64 ra), (7, .int .i64 rb)] (fun _=>by kernel_rfl) ?_
  refine T_e ?_
  refine T_sr 5 kk15 kk16 ?_
  refine N_run 1 [(0, .int .i64 nv), (1, .slice argsB argsN argsC), (6, .int .u64 ra), (7, .int .i64 rb), (26, .agg #[.pointer none, .slice none 0 0, .slice none 0 0, .int .u64 0])] (fun _=>by kernel_rfl) ?_
  refine N_new (some 27) (fun b => .pointer (some (Addr.mk b 0 none))) (.cells #[.pointer none, .slice none 0 0, .slice none 0 0, .int .u64 0] 33) (fun _=>by kernel_rfl) ?_
  intro b H3 e3 e4
  replace h := h b H3 e3 e4
  refine ⟨[(0, .int .i64 nv), (1, .slice argsB argsN argsC), (6, .int .u64 ra), (7, .int .i64 rb), (27, .pointer (some (Addr.mk b 0 none)))], ps (by kernel_rfl), ?_⟩
  refine N_run 2 [(0, .int .i64 nv), (1, .slice argsB argsN argsC), (6, .int .u64 ra), (7, .int .i64 rb), (27, .pointer (some (Addr.mk b 0 none))), (28, .int .i64 nv), (29, .slice argsB argsN argsC)] (fun _=>by kernel_rfl) ?_
  refine N_call (some 30) 5 #[.pointer (some (Addr.mk b 0 none)), .int .i64 nv, .slice argsB argsN argsC] (fun _=>by kernel_rfl) h ?_; clear h
  rintro v_3 H4 ⟨ra_2, rb_2, rfl, h⟩
  refine ⟨[(0, .int .i64 nv), (1, .slice argsB argsN argsC), (6, .int .u64 ra), (7, .int .i64 rb), (30, .tuple #[.int .u64 ra_2, .int .i64 rb_2])], ps (by kernel_rfl), ?_⟩
  refine N_run 5 [(0, .int .i64 nv), (1, .slice argsB argsN argsC), (6, .int .u64 ra), (7, .int .i64 rb), (8, .int .u64 ra_2), (9, .int .i64 rb_2)] (fun _=>by kernel_rfl) ?_
  refine T_e ?_
  refine T_sr 6 kk17 kk18 ?_
  refine N_call (some 34) 6 #[.int .i64 8] (fun _=>by kernel_rfl) h ?_; clear h
  rintro v_4 H5 ⟨ra_3, rb_3, rfl, h⟩
  refine ⟨[(0, .int .i64 nv), (1, .slice argsB argsN argsC), (6, .int .u64 ra), (7, .int .i64 rb), (8, .int .u64 ra_2), (9, .int .i64 rb_2), (34, .tuple #[.pointer ra_3, .int .i64 rb_3])], ps (by kernel_rfl), ?_⟩
  refine N_run 5 [(0, .int .i64 nv), (1, .slice argsB argsN argsC), (6, .int .u64 ra), (7, .int .i64 rb), (8, .int .u64 ra_2), (9, .int .i64 rb_2), (10, .pointer ra_3), (11, .int .i64 rb_3)] (fun _=>by kernel_rfl) ?_
  refine T_e ?_
  refine S_seq kk19 kk20 (by kernel_rfl) ?_
  refine T_sr 7 kk21 kk22 ?_
  refine N_cut [(0, .int .i64 nv), (1, .slice argsB argsN argsC), (10, .pointer ra_3), (54, .bool (((((rb_3 != 0) || (ra != 0)) || (rb != 1)) || (ra_2 != 0)) || (rb_2 != 1)))] ?_ ?_
  ·refine S_then ?_
   by_cases c13 : (((((rb_3 != 0) || (ra != 0)) || (rb != 1)) || (ra_2 != 0)) || (rb_2 != 1)) = true
   ·rw [if_pos c13] at h
    have b14 : (((((rb_3 != 0) || (ra != 0)) || (rb != 1)) || (ra_2 != 0)) || (rb_2 != 1)) = true := c13
    refine S_env [(0, .int .i64 nv), (1, .slice argsB argsN argsC), (10, .pointer ra_3), (54, .bool true)] (by simp only [b14, Bool.not_true, Bool.not_false]) ?_
    clear b14
    refine S_condT (.tmp 54) kk23 kk24 (by kernel_rfl) (by kernel_rfl) ?_
    refine T_sr 8 kk25 kk26 ?_
    refine N_run 1 [(4, .bool false)] (fun _=>by kernel_rfl) ?_
    refine T_e ?_
    refine S_ret (by kernel_rfl) ?_
    show At _ _ _ _ _ (Q .ret)
    exact S_done (fn := Tryz.f3) [.bool false] hQ (show ResOK _ _ _ [.tmp 4] _ from .tmp (by kernel_rfl) (.nil)) h
   ·rw [if_neg c13] at h
    have b14 : (((((rb_3 != 0) || (ra != 0)) || (rb != 1)) || (ra_2 != 0)) || (rb_2 != 1)) = false := eq_false_of_ne_true c13
    refine S_env [(0, .int .i64 nv), (1, .slice argsB argsN argsC), (10, .pointer ra_3), (54, .bool false)] (by simp only [b14, Bool.not_true, Bool.not_false]) ?_
    clear b14
    refine S_condF (.tmp 54) kk23 kk24 (by kernel_rfl) (by kernel_rfl) ?_
    refine S_skip (by kernel_rfl) ?_
    refine S_then ?_
    refine S_seq kk27 kk28 (by kernel_rfl) ?_
    refine T_sr 9 kk29 kk30 ?_
    refine N_run 3 [(0, .int .i64 nv), (1, .slice argsB argsN argsC), (10, .pointer ra_3), (57, .bool (decide (nv < 0)))] (fun _=>by kernel_rfl) ?_
    by_cases c15 : nv < 0
    ·rw [if_pos c15] at h
     have b16 : (decide (nv < 0)) = true := decide_eq_true c15
     refine N_env [(0, .int .i64 nv), (1, .slice argsB argsN argsC), (10, .pointer ra_3), (57, .bool true)] (by simp only [b16, Bool.not_true, Bool.not_false]) ?_
     clear b16
     refine N_run 5 [(0, .int .i64 nv), (1, .slice argsB argsN argsC), (10, .pointer ra_3), (62, .bool true)] (fun _=>by kernel_rfl) ?_
     refine T_e ?_
     refine S_condT (.tmp 62) kk31 kk32 (by kernel_rfl) (by kernel_rfl) ?_
     refine T_sr 10 kk33 kk34 ?_
     refine N_run 3 [(10, .pointer ra_3), (64, .pointer ra_3), (65, .int .i64 nv), (66, .slice argsB argsN argsC)] (fun _=>by kernel_rfl) ?_
     refine N_call (some 67) 5 #[.pointer ra_3, .int .i64 nv, .slice argsB argsN argsC] (fun _=>by kernel_rfl) h ?_; clear h
     rintro v_5 H6 ⟨ra_4, rb_4, rfl, h⟩
     refine ⟨[(10, .pointer ra_3), (67, .tuple #[.int .u64 ra_4, .int .i64 rb_4])], ps (by kernel_rfl), ?_⟩
     refine N_run 5 [(10, .pointer ra_3), (12, .int .u64 ra_4), (13, .int .i64 rb_4)] (fun _=>by kernel_rfl) ?_
     refine T_e ?_
     refine T_sr 11 kk35 kk36 ?_
     refine N_run 3 [(10, .pointer ra_3), (13, .int .i64 rb_4), (72, .bool (ra_4 == 0))] (fun _=>by kernel_rfl) ?_
     by_cases c17 : ra_4 = 0
     ·rw [if_pos c17] at h
      have b18 : (ra_4 == 0) = true := beq_iff_eq.mpr c17
      refine N_env [(10, .pointer ra_3), (13, .int .i64 rb_4), (72, .bool true)] (by simp only [b18, Bool.not_true, Bool.not_false]) ?_
      clear b18
      refine N_run 4 [(10, .pointer ra_3), (76, .bool (rb_4 == 1))] (fun _=>by kernel_rfl) ?_
      by_cases c19 : rb_4 = 1
      ·rw [if_pos c19] at h
       have b20 : (rb_4 == 1) = true := beq_iff_eq.mpr c19
       refine N_env [(10, .pointer ra_3), (76, .bool true)] (by simp only [b20, Bool.not_true, Bool.not_false]) ?_
       clear b20
       refine N_run 1 [(76, .bool true), (77, .pointer ra_3)] (fun _=>by kernel_rfl) ?_
       obtain ⟨ra3A, rfl, h⟩ := h
       refine N_run 2 [(76, .bool true), (79, .pointer (some ra3A))] (fun _=>by kernel_rfl) ?_
       obtain ⟨x_2, q21, h⟩ := h
       refine N_val (some 80) (loadN 30 (.pointer (some ra3A))) (.pointer x_2) (fun _=>by kernel_rfl) (loadN_run (loadOK_one (fun _=>by kernel_rfl) q21)) [(76, .bool true), (80, .pointer x_2)] (ps (by kernel_rfl)) ?_
       obtain ⟨x2A, rfl, h⟩ := h
       refine N_run 2 [(76, .bool true), (82, .pointer (some x2A))] (fun _=>by kernel_rfl) ?_
       obtain ⟨x_3, q22, h⟩ := h
       refine N_val (some 83) (loadN 39 (.pointer (some x2A))) (.pointer x_3) (fun _=>by kernel_rfl) (loadN_run (loadOK_one (fun _=>by kernel_rfl) q22)) [(76, .bool true), (83, .pointer x_3)] (ps (by kernel_rfl)) ?_
       refine N_call (some 84) 8 #[.pointer x_3, .slice none 0 0] (fun _=>by kernel_rfl) h ?_; clear h
       rintro v_6 H7 ⟨x_4, rfl, h⟩
       refine ⟨[(76, .bool true), (84, .int .i64 x_4)], ps (by kernel_rfl), ?_⟩
       refine N_run 3 [(87, .bool (x_4 == 0))] (fun _=>by kernel_rfl) ?_
       by_cases c23 : x_4 = 0
       ·rw [if_pos c23] at h
        have b24 : (x_4 == 0) = true := beq_iff_eq.mpr c23
        refine N_env [(87, .bool true)] (by simp only [b24, Bool.not_true, Bool.not_false]) ?_
        clear b24
        refine N_call (some 88) 4 #[] (fun _=>by kernel_rfl) h ?_; clear h
        rintro v_7 H8 ⟨x_5, rfl, h⟩
        refine ⟨[(87, .bool true), (88, .bool x_5)], ps (by kernel_rfl), ?_⟩
        refine N_run 2 [(4, .bool x_5)] (fun _=>by kernel_rfl) ?_
        refine T_e ?_
        refine S_ret (by kernel_rfl) ?_
        show At _ _ _ _ _ (Q .ret)
        exact S_done (fn := Tryz.f3) [.bool x_5] hQ (show ResOK _ _ _ [.tmp 4] _ from .tmp (by kernel_rfl) (.nil)) h
       ·rw [if_neg c23] at h
        have b24 : (x_4 == 0) = false := beq_eq_false_iff_ne.mpr c23
        refine N_env [(87, .bool false)] (by simp only [b24, Bool.not_true, Bool.not_false]) ?_
        clear b24
        refine N_run 3 [(4, .bool false)] (fun _=>by kernel_rfl) ?_
        refine T_e ?_
        refine S_ret (by kernel_rfl) ?_
        show At _ _ _ _ _ (Q .ret)
        exact S_done (fn := Tryz.f3) [.bool false] hQ (show ResOK _ _ _ [.tmp 4] _ from .tmp (by kernel_rfl) (.nil)) h
      ·rw [if_neg c19] at h
       have b20 : (rb_4 == 1) = false := beq_eq_false_iff_ne.mpr c19
       refine N_env [(10, .pointer ra_3), (76, .bool false)] (by simp only [b20, Bool.not_true, Bool.not_false]) ?_
       clear b20
       refine N_run 14 [(4, .bool false)] (fun _=>by kernel_rfl) ?_
       refine T_e ?_
       refine S_ret (by kernel_rfl) ?_
       show At _ _ _ _ _ (Q .ret)
       exact S_done (fn := Tryz.f3) [.bool false] hQ (show ResOK _ _ _ [.tmp 4] _ from .tmp (by kernel_rfl) (.nil)) h
     ·rw [if_neg c17] at h
      have b18 : (ra_4 == 0) = false := beq_eq_false_iff_ne.mpr c17
      refine N_env [(10, .pointer ra_3), (13, .int .i64 rb_4), (72, .bool false)] (by simp only [b18, Bool.not_true, Bool.not_false]) ?_
      clear b18
      refine N_run 18 [(4, .bool false)] (fun _=>by kernel_rfl) ?_
      refine T_e ?_
      refine S_ret (by kernel_rfl) ?_
      show At _ _ _ _ _ (Q .ret)
      exact S_done (fn := Tryz.f3) [.bool false] hQ (show ResOK _ _ _ [.tmp 4] _ from .tmp (by kernel_rfl) (.nil)) h
    ·rw [if_neg c15] at h
     have b16 : (decide (nv < 0)) = false := decide_eq_false c15
     refine N_env [(0, .int .i64 nv), (1, .slice argsB argsN argsC), (10, .pointer ra_3), (57, .bool false)] (by simp only [b16, Bool.not_true, Bool.not_false]) ?_
     clear b16
     refine N_run 1 [(0, .int .i64 nv), (1, .slice argsB argsN argsC), (10, .pointer ra_3), (57, .bool false), (58, .int .i64 nv)] (fun _=>by kernel_rfl) ?_
     refine N_call (some 59) 7 #[] (fun _=>by kernel_rfl) h ?_; clear h
     rintro v_8 H9 ⟨xB, xN, xC, rfl, h⟩
     refine ⟨[(0, .int .i64 nv), (1, .slice argsB argsN argsC), (10, .pointer ra_3), (57, .bool false), (58, .int .i64 nv), (59, .slice xB xN xC)], ps (by kernel_rfl), ?_⟩
     refine N_run 3 [(0, .int .i64 nv), (1, .slice argsB argsN argsC), (10, .pointer ra_3), (62, .bool (decide (nv ≥ (xN : Int))))] (fun _=>by kernel_rfl) ?_
     refine T_e ?_
     by_cases c25 : nv ≥ (xN : Int)
     ·rw [if_pos c25] at h
      have b26 : (decide (nv ≥ (xN : Int))) = true := decide_eq_true c25
      refine S_env [(0, .int .i64 nv), (1, .slice argsB argsN argsC), (10, .pointer ra_3), (62, .bool true)] (by simp only [b26, Bool.not_true, Bool.not_false]) ?_
      clear b26
      refine S_condT (.tmp 62) kk31 kk32 (by kernel_rfl) (by kernel_rfl) ?_
      refine T_sr 10 kk33 kk34 ?_
      refine N_run 3 [(10, .pointer ra_3), (64, .pointer ra_3), (65, .int .i64 nv), (66, .slice argsB argsN argsC)] (fun _=>by kernel_rfl) ?_
      refine N_call (some 67) 5 #[.pointer ra_3, .int .i64 nv, .slice argsB argsN argsC] (fun _=>by kernel_rfl) h ?_; clear h
      rintro v_9 H10 ⟨ra_5, rb_5, rfl, h⟩
      refine ⟨[(10, .pointer ra_3), (67, .tuple #[.int .u64 ra_5, .int .i64 rb_5])], ps (by kernel_rfl), ?_⟩
      refine N_run 5 [(10, .pointer ra_3), (12, .int .u64 ra_5), (13, .int .i64 rb_5)] (fun _=>by kernel_rfl) ?_
      refine T_e ?_
      refine T_sr 11 kk35 kk36 ?_
      refine N_run 3 [(10, .pointer ra_3), (13, .int .i64 rb_5), (72, .bool (ra_5 == 0))] (fun _=>by kernel_rfl) ?_
      by_cases c27 : ra_5 = 0
      ·rw [if_pos c27] at h
       have b28 : (ra_5 == 0) = true := beq_iff_eq.mpr c27
       refine N_env [(10, .pointer ra_3), (13, .int .i64 rb_5), (72, .bool true)] (by simp only [b28, Bool.not_true, Bool.not_false]) ?_
       clear b28
       refine N_run 4 [(10, .pointer ra_3), (76, .bool (rb_5 == 1))] (fun _=>by kernel_rfl) ?_
       by_cases c29 : rb_5 = 1
       ·rw [if_pos c29] at h
        have b30 : (rb_5 == 1) = true := beq_iff_eq.mpr c29
        refine N_env [(10, .pointer ra_3), (76, .bool true)] (by simp only [b30, Bool.not_true, Bool.not_false]) ?_
        clear b30
        refine N_run 1 [(76, .bool true), (77, .pointer ra_3)] (fun _=>by kernel_rfl) ?_
        obtain ⟨ra3A_2, rfl, h⟩ := h
        refine N_run 2 [(76, .bool true), (79, .pointer (some ra3A_2))] (fun _=>by kernel_rfl) ?_
        obtain ⟨x_6, q31, h⟩ := h
        refine N_val (some 80) (loadN 30 (.pointer (some ra3A_2))) (.pointer x_6) (fun _=>by kernel_rfl) (loadN_run (loadOK_one (fun _=>by kernel_rfl) q31)) [(76, .bool true), (80, .pointer x_6)] (ps (by kernel_rfl)) ?_
        obtain ⟨x6A, rfl, h⟩ := h
        refine N_run 2 [(76, .bool true), (82, .pointer (some x6A))] (fun _=>by kernel_rfl) ?_
        obtain ⟨x_7, q32, h⟩ := h
        refine N_val (some 83) (loadN 39 (.pointer (some x6A))) (.pointer x_7) (fun _=>by kernel_rfl) (loadN_run (loadOK_one (fun _=>by kernel_rfl) q32)) [(76, .bool true), (83, .pointer x_7)] (ps (by kernel_rfl)) ?_
        refine N_call (some 84) 8 #[.pointer x_7, .slice none 0 0] (fun _=>by kernel_rfl) h ?_; clear h
        rintro v_10 H11 ⟨x_8, rfl, h⟩
        refine ⟨[(76, .bool true), (84, .int .i64 x_8)], ps (by kernel_rfl), ?_⟩
        refine N_run 3 [(87, .bool (x_8 == 0))] (fun _=>by kernel_rfl) ?_
        by_cases c33 : x_8 = 0
        ·rw [if_pos c33] at h
         have b34 : (x_8 == 0) = true := beq_iff_eq.mpr c33
         refine N_env [(87, .bool true)] (by simp only [b34, Bool.not_true, Bool.not_false]) ?_
         clear b34
         refine N_call (some 88) 4 #[] (fun _=>by kernel_rfl) h ?_; clear h
         rintro v_11 H12 ⟨x_9, rfl, h⟩
         refine ⟨[(87, .bool true), (88, .bool x_9)], ps (by kernel_rfl), ?_⟩
         refine N_run 2 [(4, .bool x_9)] (fun _=>by kernel_rfl) ?_
         refine T_e ?_
         refine S_ret (by kernel_rfl) ?_
         show At _ _ _ _ _ (Q .ret)
         exact S_done (fn := Tryz.f3) [.bool x_9] hQ (show ResOK _ _ _ [.tmp 4] _ from .tmp (by kernel_rfl) (.nil)) h
        ·rw [if_neg c33] at h
         have b34 : (x_8 == 0) = false := beq_eq_false_iff_ne.mpr c33
         refine N_env [(87, .bool false)] (by simp only [b34, Bool.not_true, Bool.not_false]) ?_
         clear b34
         refine N_run 3 [(4, .bool false)] (fun _=>by kernel_rfl) ?_
         refine T_e ?_
         refine S_ret (by kernel_rfl) ?_
         show At _ _ _ _ _ (Q .ret)
         exact S_done (fn := Tryz.f3) [.bool false] hQ (show ResOK _ _ _ [.tmp 4] _ from .tmp (by kernel_rfl) (.nil)) h
       ·rw [if_neg c29] at h
        have b30 : (rb_5 == 1) = false := beq_eq_false_iff_ne.mpr c29
        refine N_env [(10, .pointer ra_3), (76, .bool false)] (by simp only [b30, Bool.not_true, Bool.not_false]) ?_
        clear b30
        refine N_run 14 [(4, .bool false)] (fun _=>by kernel_rfl) ?_
        refine T_e ?_
        refine S_ret (by kernel_rfl) ?_
        show At _ _ _ _ _ (Q .ret)
        exact S_done (fn := Tryz.f3) [.bool false] hQ (show ResOK _ _ _ [.tmp 4] _ from .tmp (by kernel_rfl) (.nil)) h
      ·rw [if_neg c27] at h
       have b28 : (ra_5 == 0) = false := beq_eq_false_iff_ne.mpr c27
       refine N_env [(10, .pointer ra_3), (13, .int .i64 rb_5), (72, .bool false)] (by simp only [b28, Bool.not_true, Bool.not_false]) ?_
       clear b28
       refine N_run 18 [(4, .bool false)] (fun _=>by kernel_rfl) ?_
       refine T_e ?_
       refine S_ret (by kernel_rfl) ?_
       show At _ _ _ _ _ (Q .ret)
       exact S_done (fn := Tryz.f3) [.bool false] hQ (show ResOK _ _ _ [.tmp 4] _ from .tmp (by kernel_rfl) (.nil)) h
     ·rw [if_neg c25] at h
      have b26 : (decide (nv ≥ (xN : Int))) = false := decide_eq_false c25
      refine S_env [(0, .int .i64 nv), (1, .slice argsB argsN argsC), (10, .pointer ra_3), (62, .bool false)] (by simp only [b26, Bool.not_true, Bool.not_false]) ?_
      clear b26
      refine S_condF (.tmp 62) kk31 kk32 (by kernel_rfl) (by kernel_rfl) ?_
      refine S_skip (by kernel_rfl) ?_
      refine S_then ?_
      refine T_sr 12 kk37 kk38 ?_
      refine N_sub [] (sb (by kernel_rfl)) ?_
      refine N_call (some 90) 4 #[] (fun _=>by kernel_rfl) h ?_; clear h
      rintro v_12 H13 ⟨x_10, rfl, h⟩
      refine ⟨[(90, .bool x_10)], ps (by kernel_rfl), ?_⟩
      refine N_run 1 [(4, .bool x_10)] (fun _=>by kernel_rfl) ?_
      refine T_e ?_
      refine S_ret (by kernel_rfl) ?_
      show At _ _ _ _ _ (Q .ret)
      exact S_done (fn := Tryz.f3) [.bool x_10] hQ (show ResOK _ _ _ [.tmp 4] _ from .tmp (by kernel_rfl) (.nil)) h
  ·intro hk
   refine N_run 3 [(0, .int .i64 nv), (1, .slice argsB argsN argsC), (6, .int .u64 ra), (7, .int .i64 rb), (8, .int .u64 ra_2), (9, .int .i64 rb_2), (10, .pointer ra_3), (39, .bool (rb_3 != 0))] (fun _=>by kernel_rfl) ?_
   by_cases c5 : rb_3 = 0
   ·have b6 : (rb_3 != 0) = false := bne_eq_false_iff_eq.mpr c5
    refine N_env [(0, .int .i64 nv), (1, .slice argsB argsN argsC), (6, .int .u64 ra), (7, .int .i64 rb), (8, .int .u64 ra_2), (9, .int .i64 rb_2), (10, .pointer ra_3), (39, .bool false)] (by simp only [b6, Bool.not_true, Bool.not_false]) ?_
    refine N_run 4 [(0, .int .i64 nv), (1, .slice argsB argsN argsC), (7, .int .i64 rb), (8, .int .u64 ra_2), (9, .int .i64 rb_2), (10, .pointer ra_3), (43, .bool (ra != 0))] (fun _=>by kernel_rfl) ?_
    by_cases c7 : ra = 0
    ·have b8 : (ra != 0) = false := bne_eq_false_iff_eq.mpr c7
     refine N_env [(0, .int .i64 nv), (1, .slice argsB argsN argsC), (7, .int .i64 rb), (8, .int .u64 ra_2), (9, .int .i64 rb_2), (10, .pointer ra_3), (43, .bool false)] (by simp only [b8, Bool.not_true, Bool.not_false]) ?_
     refine N_run 4 [(0, .int .i64 nv), (1, .slice argsB argsN argsC), (8, .int .u64 ra_2), (9, .int .i64 rb_2), (10, .pointer ra_3), (47, .bool (rb != 1))] (fun _=>by kernel_rfl) ?_
     by_cases c9 : rb = 1
     ·have b10 : (rb != 1) = false := bne_eq_false_iff_eq.mpr c9
      refine N_env [(0, .int .i64 nv), (1, .slice argsB argsN argsC), (8, .int .u64 ra_2), (9, .int .i64 rb_2), (10, .pointer ra_3), (47, .bool false)] (by simp only [b10, Bool.not_true, Bool.not_false]) ?_
      refine N_run 4 [(0, .int .i64 nv), (1, .slice argsB argsN argsC), (9, .int .i64 rb_2), (10, .pointer ra_3), (51, .bool (ra_2 != 0))] (fun _=>by kernel_rfl) ?_
      by_cases c11 : ra_2 = 0
      ·have b12 : (ra_2 != 0) = false := bne_eq_false_iff_eq.mpr c11
       refine N_env [(0, .int .i64 nv), (1, .slice argsB argsN argsC), (9, .int .i64 rb_2), (10, .pointer ra_3), (51, .bool false)] (by simp only [b12, Bool.not_true, Bool.not_false]) ?_
       refine N_run 3 [(0, .int .i64 nv), (1, .slice argsB argsN argsC), (10, .pointer ra_3), (54, .bool (rb_2 != 1))] (fun _=>by kernel_rfl) ?_
       refine N_end (by kernel_rfl) ?_
       refine S_env [(0, .int .i64 nv), (1, .slice argsB argsN argsC), (10, .pointer ra_3), (54, .bool (((((rb_3 != 0) || (ra != 0)) || (rb != 1)) || (ra_2 != 0)) || (rb_2 != 1)))] (by simp only [b6, b8, b10, b12, Bool.true_or, Bool.false_or, Bool.or_true, Bool.or_false, Bool.true_and, Bool.false_and, Bool.and_true, Bool.and_false, Bool.not_true, Bool.not_false, cond_true, cond_false]) ?_
       exact hk
      ·have b12 : (ra_2 != 0) = true := bne_iff_ne.mpr c11
       refine N_env [(0, .int .i64 nv), (1, .slice argsB argsN argsC), (9, .int .i64 rb_2), (10, .pointer ra_3), (51, .bool true)] (by simp only [b12, Bool.not_true, Bool.not_false]) ?_
       refine N_run 3 [(0, .int .i64 nv), (1, .slice argsB argsN argsC), (10, .pointer ra_3), (54, .bool true)] (fun _=>by kernel_rfl) ?_
       refine N_end (by kernel_rfl) ?_
       refine S_env [(0, .int .i64 nv), (1, .slice argsB argsN argsC), (10, .pointer ra_3), (54, .bool (((((rb_3 != 0) || (ra != 0)) || (rb != 1)) || (ra_2 != 0)) || (rb_2 != 1)))] (by simp only [b6, b8, b10, b12, Bool.true_or, Bool.false_or, Bool.or_true, Bool.or_false, Bool.true_and, Bool.false_and, Bool.and_true, Bool.and_false, Bool.not_true, Bool.not_false, cond_true, cond_false]) ?_
       exact hk
     ·have b10 : (rb != 1) = true := bne_iff_ne.mpr c9
      refine N_env [(0, .int .i64 nv), (1, .slice argsB argsN argsC), (8, .int .u64 ra_2), (9, .int .i64 rb_2), (10, .pointer ra_3), (47, .bool true)] (by simp only [b10, Bool.not_true, Bool.not_false]) ?_
      refine N_run 7 [(0, .int .i64 nv), (1, .slice argsB argsN argsC), (10, .pointer ra_3), (54, .bool true)] (fun _=>by kernel_rfl) ?_
      refine N_end (by kernel_rfl) ?_
      refine S_env [(0, .int .i64 nv), (1, .slice argsB argsN argsC), (10, .pointer ra_3), (54, .bool (((((rb_3 != 0) || (ra != 0)) || (rb != 1)) || (ra_2 != 0)) || (rb_2 != 1)))] (by simp only [b6, b8, b10, Bool.true_or, Bool.false_or, Bool.or_true, Bool.or_false, Bool.true_and, Bool.false_and, Bool.and_true, Bool.and_false, Bool.not_true, Bool.not_false, cond_true, cond_false]) ?_
      exact hk
    ·have b8 : (ra != 0) = true := bne_iff_ne.mpr c7
     refine N_env [(0, .int .i64 nv), (1, .slice argsB argsN argsC), (7, .int .i64 rb), (8, .int .u64 ra_2), (9, .int .i64 rb_2), (10, .pointer ra_3), (43, .bool true)] (by simp only [b8, Bool.not_true, Bool.not_false]) ?_
     refine N_run 11 [(0, .int .i64 nv), (1, .slice argsB argsN argsC), (10, .pointer ra_3), (54, .bool true)] (fun _=>by kernel_rfl) ?_
     refine N_end (by kernel_rfl) ?_
     refine S_env [(0, .int .i64 nv), (1, .slice argsB argsN argsC), (10, .pointer ra_3), (54, .bool (((((rb_3 != 0) || (ra != 0)) || (rb != 1)) || (ra_2 != 0)) || (rb_2 != 1)))] (by simp only [b6, b8, Bool.true_or, Bool.false_or, Bool.or_true, Bool.or_false, Bool.true_and, Bool.false_and, Bool.and_true, Bool.and_false, Bool.not_true, Bool.not_false, cond_true, cond_false]) ?_
     exact hk
   ·have b6 : (rb_3 != 0) = true := bne_iff_ne.mpr c5
    refine N_env [(0, .int .i64 nv), (1, .slice argsB argsN argsC), (6, .int .u64 ra), (7, .int .i64 rb), (8, .int .u64 ra_2), (9, .int .i64 rb_2), (10, .pointer ra_3), (39, .bool true)] (by simp only [b6, Bool.not_true, Bool.not_false]) ?_
    refine N_run 15 [(0, .int .i64 nv), (1, .slice argsB argsN argsC), (10, .pointer ra_3), (54, .bool true)] (fun _=>by kernel_rfl) ?_
    refine N_end (by kernel_rfl) ?_
    refine S_env [(0, .int .i64 nv), (1, .slice argsB argsN argsC), (10, .pointer ra_3), (54, .bool (((((rb_3 != 0) || (ra != 0)) || (rb != 1)) || (ra_2 != 0)) || (rb_2 != 1)))] (by simp only [b6, Bool.true_or, Bool.false_or, Bool.or_true, Bool.or_false, Bool.true_and, Bool.false_and, Bool.and_true, Bool.and_false, Bool.not_true, Bool.not_false, cond_true, cond_false]) ?_
    exact hk
end morainelaw22_ListsNobody

end Go.Proofs.YthlohokmnajpoaaGreat
