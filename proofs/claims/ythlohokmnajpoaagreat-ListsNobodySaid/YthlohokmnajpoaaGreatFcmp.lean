/-
 Written by a program of mine (gen.py): for functions of this translation a predicate transformer over heaps (.pt), and the proof that it is sound for the call (.link).
-/
import Derived.Test.YthlohokmnajpoaaGreatFnsC
set_option linter.unusedSimpArgs false
set_option linter.unusedVariables false
set_option maxHeartbeats 1000000
noncomputable section
namespace Go.Proofs.YthlohokmnajpoaaGreat
open Go
/-! cmp.Compare[int] -/
namespace cmp_Compare_int
def kk0 := Func.code Tryz.f48
def kk1 := Code.fa kk0
def kk2 := Code.fb kk0
def kk3 := Code.fa kk2
def kk4 := Code.fb kk2
def kk5 := Code.fa kk4
def kk6 := Code.fb kk4
def kk7 := Code.fa kk6
def kk8 := Code.fb kk6
def kk9 := Code.fa kk7
def kk10 := Code.fb kk7
def kk11 := Code.fa kk10
def kk12 := Code.fb kk10
def kk13 := Code.fa kk11
def kk14 := Code.fb kk11
def kk15 := Code.fa kk13
def kk16 := Code.fb kk13
def kk17 := Code.fa kk16
def kk18 := Code.fb kk16
def kk19 := Code.fa kk17
def kk20 := Code.fb kk17
def kk21 := Code.fa kk14
def kk22 := Code.fb kk14
def kk23 := Code.fa kk8
def kk24 := Code.fb kk8
def kk25 := Code.fa kk23
def kk26 := Code.fb kk23
def kk27 := Code.fa kk26
def kk28 := Code.fb kk26
def kk29 := Code.fa kk27
def kk30 := Code.fb kk27
def kk31 := Code.fa kk24
def kk32 := Code.fb kk24
def kk33 := Code.fa kk31
def kk34 := Code.fb kk31
def kk35 := Code.fa kk34
def kk36 := Code.fb kk34
def kk37 := Code.fa kk35
def kk38 := Code.fb kk35
def kk39 := Code.fa kk32
def kk40 := Code.fb kk32
def kk41 := Code.fa kk39
def kk42 := Code.fb kk39
def kk43 := Code.fa kk42
def kk44 := Code.fb kk42
def kk45 := Code.fa kk43
def kk46 := Code.fb kk43
def kk47 := Code.fa kk40
def kk48 := Code.fb kk40
end cmp_Compare_int
def cmp_Compare_int.pt (x : Int) (y : Int) (H : Array Obj) (R : Value → Array Obj → Prop) : Prop :=
 cmp_isNaN_int.C x H (fun v H1 => ∃ x_2 : Bool, v = .bool x_2 ∧ 
 cmp_isNaN_int.C y H1 (fun v_2 H2 => ∃ x_3 : Bool, v_2 = .bool x_3 ∧ 
 if x_2 = true then (
 if x_3 = true then (
 R (.int .i64 0) H2)
 else
 R (.int .i64 (-1)) H2)
 else
 if x_3 = true then (
 R (.int .i64 1) H2)
 else
 if x < y then (
 R (.int .i64 (-1)) H2)
 else
 if x > y then (
 R (.int .i64 1) H2)
 else
 R (.int .i64 0) H2))
namespace cmp_Compare_int
set_option maxRecDepth 100000 in
theorem link {x : Int} {y : Int} {H : Array Obj} {R : Value → Array Obj → Prop} (h : pt x y H R) : C x y H R := by
 refine S_enter (fn := Tryz.f48) (c := kk0) 20 Tryz.func48 (by kernel_rfl) (by kernel_rfl) (Nat.le_of_ble_eq_true (by kernel_rfl)) ?_
 intro w0 Q hQ
 unfold pt at h
 refine S_sub [(0, .int .i64 x), (1, .int .i64 y)] (sb (by kernel_rfl)) ?_
 refine T_sr 0 kk1 kk2 ?_
 refine N_run 1 [(0, .int .i64 x), (1, .int .i64 y)] (fun _=>by kernel_rfl) ?_
 refine T_e ?_
 refine T_sr 1 kk3 kk4 ?_
 refine N_run 1 [(0, .int .i64 x), (1, .int .i64 y), (7, .int .i64 x)] (fun _=>by kernel_rfl) ?_
 refine N_call (some 8) 71 #[.int .i64 x] (fun _=>by kernel_rfl) h ?_; clear h
 rintro v H1 ⟨x_2, rfl, h⟩
 refine ⟨[(0, .int .i64 x), (1, .int .i64 y), (8, .bool x_2)], ps (by kernel_rfl), ?_⟩
 refine N_run 1 [(0, .int .i64 x), (1, .int .i64 y), (5, .bool x_2)] (fun _=>by kernel_rfl) ?_
 refine T_e ?_
 refine T_sr 2 kk5 kk6 ?_
 refine N_run 1 [(0, .int .i64 x), (1, .int .i64 y), (5, .bool x_2), (9, .int .i64 y)] (fun _=>by kernel_rfl) ?_
 refine N_call (some 10) 71 #[.int .i64 y] (fun _=>by kernel_rfl) h ?_; clear h
 rintro v_2 H2 ⟨x_3, rfl, h⟩
 refine ⟨[(0, .int .i64 x), (1, .int .i64 y), (5, .bool x_2), (10, .bool x_3)], ps (by kernel_rfl), ?_⟩
 refine N_run 1 [(0, .int .i64 x), (1, .int .i64 y), (5, .bool x_2), (6, .bool x_3)] (fun _=>by kernel_rfl) ?_
 refine T_e ?_
 refine S_seq kk7 kk8 (by kernel_rfl) ?_
 refine T_sr 3 kk9 kk10 ?_
 refine N_run 1 [(0, .int .i64 x), (1, .int .i64 y), (6, .bool x_3), (11, .bool x_2)] (fun _=>by kernel_rfl) ?_
 refine T_e ?_
 by_cases c1 : x_2 = true
 ·rw [if_pos c1] at h
  have b2 : x_2 = true := c1
  refine S_env [(0, .int .i64 x), (1, .int .i64 y), (6, .bool x_3), (11, .bool true)] (by simp only [b2, Bool.not_true, Bool.not_false]) ?_
  clear b2
  refine S_condT (.tmp 11) kk11 kk12 (by kernel_rfl) (by kernel_rfl) ?_
  refine S_seq kk13 kk14 (by kernel_rfl) ?_
  refine T_sr 4 kk15 kk16 ?_
  refine N_run 1 [(12, .bool x_3)] (fun _=>by kernel_rfl) ?_
  refine T_e ?_
  by_cases c3 : x_3 = true
  ·rw [if_pos c3] at h
   have b4 : x_3 = true := c3
   refine S_env [(12, .bool true)] (by simp only [b4, Bool.not_true, Bool.not_false]) ?_
   clear b4
   refine S_condT (.tmp 12) kk17 kk18 (by kernel_rfl) (by kernel_rfl) ?_
   refine T_sr 5 kk19 kk20 ?_
   refine N_run 1 [(4, .int .i64 0)] (fun _=>by kernel_rfl) ?_
   refine T_e ?_
   refine S_ret (by kernel_rfl) ?_
   show At _ _ _ _ _ (Q .ret)
   exact S_done (fn := Tryz.f48) [.int .i64 0] hQ (show ResOK _ _ _ [.tmp 4] _ from .tmp (by kernel_rfl) (.nil)) h
  ·rw [if_neg c3] at h
   have b4 : x_3 = false := eq_false_of_ne_true c3
   refine S_env [(12, .bool false)] (by simp only [b4, Bool.not_true, Bool.not_false]) ?_
   clear b4
   refine S_condF (.tmp 12) kk17 kk18 (by kernel_rfl) (by kernel_rfl) ?_
   refine S_skip (by kernel_rfl) ?_
   refine S_then ?_
   refine T_sr 6 kk21 kk22 ?_
   refine N_run 1 [(4, .int .i64 (-1))] (fun _=>by kernel_rfl) ?_
   refine T_e ?_
   refine S_ret (by kernel_rfl) ?_
   show At _ _ _ _ _ (Q .ret)
   exact S_done (fn := Tryz.f48) [.int .i64 (-1)] hQ (show ResOK _ _ _ [.tmp 4] _ from .tmp (by kernel_rfl) (.nil)) h
 ·rw [if_neg c1] at h
  have b2 : x_2 = false := eq_false_of_ne_true c1
  refine S_env [(0, .int .i64 x), (1, .int .i64 y), (6, .bool x_3), (11, .bool false)] (by simp only [b2, Bool.not_true, Bool.not_false]) ?_
  clear b2
  refine S_condF (.tmp 11) kk11 kk12 (by kernel_rfl) (by kernel_rfl) ?_
  refine S_skip (by kernel_rfl) ?_
  refine S_then ?_
  refine S_seq kk23 kk24 (by kernel_rfl) ?_
  refine T_sr 7 kk25 kk26 ?_
  refine N_run 1 [(0, .int .i64 x), (1, .int .i64 y), (13, .bool x_3)] (fun _=>by kernel_rfl) ?_
  refine T_e ?_
  by_cases c5 : x_3 = true
  ·rw [if_pos c5] at h
   have b6 : x_3 = true := c5
   refine S_env [(0, .int .i64 x), (1, .int .i64 y), (13, .bool true)] (by simp only [b6, Bool.not_true, Bool.not_false]) ?_
   clear b6
   refine S_condT (.tmp 13) kk27 kk28 (by kernel_rfl) (by kernel_rfl) ?_
   refine T_sr 8 kk29 kk30 ?_
   refine N_run 1 [(4, .int .i64 1)] (fun _=>by kernel_rfl) ?_
   refine T_e ?_
   refine S_ret (by kernel_rfl) ?_
   show At _ _ _ _ _ (Q .ret)
   exact S_done (fn := Tryz.f48) [.int .i64 1] hQ (show ResOK _ _ _ [.tmp 4] _ from .tmp (by kernel_rfl) (.nil)) h
  ·rw [if_neg c5] at h
   have b6 : x_3 = false := eq_false_of_ne_true c5
   refine S_env [(0, .int .i64 x), (1, .int .i64 y), (13, .bool false)] (by simp only [b6, Bool.not_true, Bool.not_false]) ?_
   clear b6
   refine S_condF (.tmp 13) kk27 kk28 (by kernel_rfl) (by kernel_rfl) ?_
   refine S_skip (by kernel_rfl) ?_
   refine S_then ?_
   refine S_seq kk31 kk32 (by kernel_rfl) ?_
   refine T_sr 9 kk33 kk34 ?_
   refine N_run 3 [(0, .int .i64 x), (1, .int .i64 y), (16, .bool (decide (x < y)))] (fun _=>by kernel_rfl) ?_
   refine T_e ?_
   by_cases c7 : x < y
   ·rw [if_pos c7] at h
    have b8 : (decide (x < y)) = true := decide_eq_true c7
    refine S_env [(0, .int .i64 x), (1, .int .i64 y), (16, .bool true)] (by simp only [b8, Bool.not_true, Bool.not_false]) ?_
    clear b8
    refine S_condT (.tmp 16) kk35 kk36 (by kernel_rfl) (by kernel_rfl) ?_
    refine T_sr 10 kk37 kk38 ?_
    refine N_run 1 [(4, .int .i64 (-1))] (fun _=>by kernel_rfl) ?_
    refine T_e ?_
    refine S_ret (by kernel_rfl) ?_
    show At _ _ _ _ _ (Q .ret)
    exact S_done (fn := Tryz.f48) [.int .i64 (-1)] hQ (show ResOK _ _ _ [.tmp 4] _ from .tmp (by kernel_rfl) (.nil)) h
   ·rw [if_neg c7] at h
    have b8 : (decide (x < y)) = false := decide_eq_false c7
    refine S_env [(0, .int .i64 x), (1, .int .i64 y), (16, .bool false)] (by simp only [b8, Bool.not_true, Bool.not_false]) ?_
    clear b8
    refine S_condF (.tmp 16) kk35 kk36 (by kernel_rfl) (by kernel_rfl) ?_
    refine S_skip (by kernel_rfl) ?_
    refine S_then ?_
    refine S_seq kk39 kk40 (by kernel_rfl) ?_
    refine T_sr 11 kk41 kk42 ?_
    refine N_run 3 [(19, .bool (decide (x > y)))] (fun _=>by kernel_rfl) ?_
    refine T_e ?_
    by_cases c9 : x > y
    ·rw [if_pos c9] at h
     have b10 : (decide (x > y)) = true := decide_eq_true c9
     refine S_env [(19, .bool true)] (by simp only [b10, Bool.not_true, Bool.not_false]) ?_
     clear b10
     refine S_condT (.tmp 19) kk43 kk44 (by kernel_rfl) (by kernel_rfl) ?_
     refine T_sr 12 kk45 kk46 ?_
     refine N_run 1 [(4, .int .i64 1)] (fun _=>by kernel_rfl) ?_
     refine T_e ?_
     refine S_ret (by kernel_rfl) ?_
     show At _ _ _ _ _ (Q .ret)
     exact S_done (fn := Tryz.f48) [.int .i64 1] hQ (show ResOK _ _ _ [.tmp 4] _ from .tmp (by kernel_rfl) (.nil)) h
    ·rw [if_neg c9] at h
     have b10 : (decide (x > y)) = false := decide_eq_false c9
     refine S_env [(19, .bool false)] (by simp only [b10, Bool.not_true, Bool.not_false]) ?_
     clear b10
     refine S_condF (.tmp 19) kk43 kk44 (by kernel_rfl) (by kernel_rfl) ?_
     refine S_skip (by kernel_rfl) ?_
     refine S_then ?_
     refine T_sr 13 kk47 kk48 ?_
     refine N_run 1 [(4, .int .i64 0)] (fun _=>by kernel_rfl) ?_
     refine T_e ?_
     refine S_ret (by kernel_rfl) ?_
     show At _ _ _ _ _ (Q .ret)
     exact S_done (fn := Tryz.f48) [.int .i64 0] hQ (show ResOK _ _ _ [.tmp 4] _ from .tmp (by kernel_rfl) (.nil)) h
end cmp_Compare_int

/-! cmp.isNaN[int] -/
namespace cmp_isNaN_int
def kk0 := Func.code Tryz.f71
def kk1 := Code.fa kk0
def kk2 := Code.fb kk0
def kk3 := Code.fa kk2
def kk4 := Code.fb kk2
end cmp_isNaN_int
def cmp_isNaN_int.pt (x : Int) (H : Array Obj) (R : Value → Array Obj → Prop) : Prop :=
 R (.bool (x != x)) H
namespace cmp_isNaN_int
set_option maxRecDepth 100000 in
theorem link {x : Int} {H : Array Obj} {R : Value → Array Obj → Prop} (h : pt x H R) : C x H R := by
 refine S_enter (fn := Tryz.f71) (c := kk0) 6 Tryz.func71 (by kernel_rfl) (by kernel_rfl) (Nat.le_of_ble_eq_true (by kernel_rfl)) ?_
 intro w0 Q hQ
 unfold pt at h
 refine S_sub [(0, .int .i64 x)] (sb (by kernel_rfl)) ?_
 refine T_sr 0 kk1 kk2 ?_
 refine N_run 1 [(0, .int .i64 x)] (fun _=>by kernel_rfl) ?_
 refine T_e ?_
 refine T_sr 1 kk3 kk4 ?_
 refine N_run 4 [(2, .bool (x != x))] (fun _=>by kernel_rfl) ?_
 refine T_e ?_
 refine S_ret (by kernel_rfl) ?_
 show At _ _ _ _ _ (Q .ret)
 exact S_done (fn := Tryz.f71) [.bool (x != x)] hQ (show ResOK _ _ _ [.tmp 2] _ from .tmp (by kernel_rfl) (.nil)) h
end cmp_isNaN_int

/-! cmp.Compare[uint32] -/
end Go.Proofs.YthlohokmnajpoaaGreat
