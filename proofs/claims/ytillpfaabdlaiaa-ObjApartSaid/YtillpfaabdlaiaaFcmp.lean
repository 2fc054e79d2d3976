/-
 Written by a program of mine (gen.py): for functions of this translation a predicate transformer over heaps (.pt), and the proof that it is sound for the call (.link).
-/
import Derived.Test.YtillpfaabdlaiaaFnsC
set_option linter.unusedSimpArgs false
set_option linter.unusedVariables false
set_option maxHeartbeats 1000000
noncomputable section
namespace Go.Proofs.Ytillpfaabdlaiaa
open Go
/-! cmp.Compare[int] -/
namespace cmp_Compare_int
def kk0 := Func.code Try.f60
def kk1 := Code.fa kk0
def kk2 := Code.fb kk0
def kk3 := Code.fa kk2
def kk4 := Code.fb kk2
def kk5 := Code.fa kk4
def kk6 := Code.fb kk4
def kk7 := Code.fa kk6
def kk8 := Code.fb kk6
def kk9 := Code.fa kk7
def kk10 := Code.fb kk7
def kk11 := Code.fa kk10
def kk12 := Code.fb kk10
def kk13 := Code.fa kk11
def kk14 := Code.fb kk11
def kk15 := Code.fa kk13
def kk16 := Code.fb kk13
def kk17 := Code.fa kk16
def kk18 := Code.fb kk16
def kk19 := Code.fa kk17
def kk20 := Code.fb kk17
def kk21 := Code.fa kk14
def kk22 := Code.fb kk14
def kk23 := Code.fa kk8
def kk24 := Code.fb kk8
def kk25 := Code.fa kk23
def kk26 := Code.fb kk23
def kk27 := Code.fa kk26
def kk28 := Code.fb kk26
def kk29 := Code.fa kk27
def kk30 := Code.fb kk27
def kk31 := Code.fa kk24
def kk32 := Code.fb kk24
def kk33 := Code.fa kk31
def kk34 := Code.fb kk31
def kk35 := Code.fa kk34
def kk36 := Code.fb kk34
def kk37 := Code.fa kk35
def kk38 := Code.fb kk35
def kk39 := Code.fa kk32
def kk40 := Code.fb kk32
def kk41 := Code.fa kk39
def kk42 := Code.fb kk39
def kk43 := Code.fa kk42
def kk44 := Code.fb kk42
def kk45 := Code.fa kk43
def kk46 := Code.fb kk43
def kk47 := Code.fa kk40
def kk48 := Code.fb kk40
end cmp_Compare_int
def cmp_Compare_int.pt (x : Int) (y : Int) (H : Array Obj) (R : Value → Array Obj → Prop) : Prop :=
 cmp_isNaN_int.C x H (fun v H1 => ∃ b : Bool, v = .bool b ∧ 
 cmp_isNaN_int.C y H1 (fun d H2 => ∃ a : Bool, d = .bool a ∧ 
 if b = true then (
 if a = true then (
 R (.int .i64 0) H2)
 else
 R (.int .i64 (-1)) H2)
 else
 if a = true then (
 R (.int .i64 1) H2)
 else
 if x < y then (
 R (.int .i64 (-1)) H2)
 else
 if x > y then (
 R (.int .i64 1) H2)
 else
 R (.int .i64 0) H2))
namespace cmp_Compare_int
set_option maxRecDepth 100000 in
theorem link {x : Int} {y : Int} {H : Array Obj} {R : Value → Array Obj → Prop} (h : pt x y H R) : C x y H R := by
 refine S_enter (fn := Try.f60) (c := kk0) 20 Try.func60 (by kernel_rfl) (by kernel_rfl) (Nat.le_of_ble_eq_true (by kernel_rfl)) ?_
 intro w0 Q hQ
 unfold pt at h
 refine T_su [(0, vi x), (1, vi y)] ?_
 refine T_sr 0 kk1 kk2 ?_
 refine T_ne 1 [(0, vi x), (1, vi y)] ?_
 refine T_sr 1 kk3 kk4 ?_
 refine T_n 1 [(0, vi x), (1, vi y), (7, vi x)] ?_
 refine N_call (some 8) 75 #[vi x] (fun _=>by kernel_rfl) h ?_; clear h
 rintro v H1 ⟨b, rfl, h⟩
 refine ⟨[(0, vi x), (1, vi y), (8, .bool b)], pk, ?_⟩
 refine T_ne 1 [(0, vi x), (1, vi y), (5, .bool b)] ?_
 refine T_sr 2 kk5 kk6 ?_
 refine T_n 1 [(0, vi x), (1, vi y), (5, .bool b), (9, vi y)] ?_
 refine N_call (some 10) 75 #[vi y] (fun _=>by kernel_rfl) h ?_; clear h
 rintro d H2 ⟨a, rfl, h⟩
 refine ⟨[(0, vi x), (1, vi y), (5, .bool b), (10, .bool a)], pk, ?_⟩
 refine T_ne 1 [(0, vi x), (1, vi y), (5, .bool b), (6, .bool a)] ?_
 refine T_s kk7 kk8 ?_
 refine T_sr 3 kk9 kk10 ?_
 refine T_ne 1 [(0, vi x), (1, vi y), (6, .bool a), (11, .bool b)] ?_
 by_cases c1 : b = true
 ·rw [if_pos c1] at h
  have b2 : b = true := c1
  refine S_env [(0, vi x), (1, vi y), (6, .bool a), (11, .bool true)] (by simp only [b2, Bool.not_true, Bool.not_false]) ?_
  clear b2
  refine T_t 11 kk11 kk12 ?_
  refine T_s kk13 kk14 ?_
  refine T_sr 4 kk15 kk16 ?_
  refine T_ne 1 [(12, .bool a)] ?_
  by_cases c3 : a = true
  ·rw [if_pos c3] at h
   have b4 : a = true := c3
   refine T_cT 12 kk17 kk18 b4 ?_
   refine T_sr 5 kk19 kk20 ?_
   refine T_ne 1 [(4, vi 0)] ?_
   refine S_ret (by kernel_rfl) ?_
   show At _ _ _ _ _ (Q .ret)
   exact S_done (fn := Try.f60) [vi 0] hQ (show ResOK _ _ _ [.tmp 4] _ from .tmp (by kernel_rfl) (.nil)) h
  ·rw [if_neg c3] at h
   have b4 : a = false := eq_false_of_ne_true c3
   refine S_env [(12, .bool false)] (by simp only [b4, Bool.not_true, Bool.not_false]) ?_
   clear b4
   refine T_f 12 kk17 kk18 ?_
   refine T_kt ?_
   refine T_sr 6 kk21 kk22 ?_
   refine T_ne 1 [(4, vi (-1))] ?_
   refine S_ret (by kernel_rfl) ?_
   show At _ _ _ _ _ (Q .ret)
   exact S_done (fn := Try.f60) [vi (-1)] hQ (show ResOK _ _ _ [.tmp 4] _ from .tmp (by kernel_rfl) (.nil)) h
 ·rw [if_neg c1] at h
  have b2 : b = false := eq_false_of_ne_true c1
  refine S_env [(0, vi x), (1, vi y), (6, .bool a), (11, .bool false)] (by simp only [b2, Bool.not_true, Bool.not_false]) ?_
  clear b2
  refine T_f 11 kk11 kk12 ?_
  refine T_kt ?_
  refine T_s kk23 kk24 ?_
  refine T_sr 7 kk25 kk26 ?_
  refine T_ne 1 [(0, vi x), (1, vi y), (13, .bool a)] ?_
  by_cases c5 : a = true
  ·rw [if_pos c5] at h
   have b6 : a = true := c5
   refine S_env [(0, vi x), (1, vi y), (13, .bool true)] (by simp only [b6, Bool.not_true, Bool.not_false]) ?_
   clear b6
   refine T_t 13 kk27 kk28 ?_
   refine T_sr 8 kk29 kk30 ?_
   refine T_ne 1 [(4, vi 1)] ?_
   refine S_ret (by kernel_rfl) ?_
   show At _ _ _ _ _ (Q .ret)
   exact S_done (fn := Try.f60) [vi 1] hQ (show ResOK _ _ _ [.tmp 4] _ from .tmp (by kernel_rfl) (.nil)) h
  ·rw [if_neg c5] at h
   have b6 : a = false := eq_false_of_ne_true c5
   refine S_env [(0, vi x), (1, vi y), (13, .bool false)] (by simp only [b6, Bool.not_true, Bool.not_false]) ?_
   clear b6
   refine T_f 13 kk27 kk28 ?_
   refine T_kt ?_
   refine T_s kk31 kk32 ?_
   refine T_sr 9 kk33 kk34 ?_
   refine T_ne 3 [(0, vi x), (1, vi y), (16, .bool (decide (x < y)))] ?_
   by_cases c7 : x < y
   ·rw [if_pos c7] at h
    have b8 : (decide (x < y)) = true := decide_eq_true c7
    refine S_env [(0, vi x), (1, vi y), (16, .bool true)] (by simp only [b8, Bool.not_true, Bool.not_false]) ?_
    clear b8
    refine T_t 16 kk35 kk36 ?_
    refine T_sr 10 kk37 kk38 ?_
    refine T_ne 1 [(4, vi (-1))] ?_
    refine S_ret (by kernel_rfl) ?_
    show At _ _ _ _ _ (Q .ret)
    exact S_done (fn := Try.f60) [vi (-1)] hQ (show ResOK _ _ _ [.tmp 4] _ from .tmp (by kernel_rfl) (.nil)) h
   ·rw [if_neg c7] at h
    have b8 : (decide (x < y)) = false := decide_eq_false c7
    refine S_env [(0, vi x), (1, vi y), (16, .bool false)] (by simp only [b8, Bool.not_true, Bool.not_false]) ?_
    clear b8
    refine T_f 16 kk35 kk36 ?_
    refine T_kt ?_
    refine T_s kk39 kk40 ?_
    refine T_sr 11 kk41 kk42 ?_
    refine T_ne 3 [(19, .bool (decide (x > y)))] ?_
    by_cases c9 : x > y
    ·rw [if_pos c9] at h
     have b10 : (decide (x > y)) = true := decide_eq_true c9
     refine T_cT 19 kk43 kk44 b10 ?_
     refine T_sr 12 kk45 kk46 ?_
     refine T_ne 1 [(4, vi 1)] ?_
     refine S_ret (by kernel_rfl) ?_
     show At _ _ _ _ _ (Q .ret)
     exact S_done (fn := Try.f60) [vi 1] hQ (show ResOK _ _ _ [.tmp 4] _ from .tmp (by kernel_rfl) (.nil)) h
    ·rw [if_neg c9] at h
     have b10 : (decide (x > y)) = false := decide_eq_false c9
     refine S_env [(19, .bool false)] (by simp only [b10, Bool.not_true, Bool.not_false]) ?_
     clear b10
     refine T_f 19 kk43 kk44 ?_
     refine T_kt ?_
     refine T_sr 13 kk47 kk48 ?_
     refine T_ne 1 [(4, vi 0)] ?_
     refine S_ret (by kernel_rfl) ?_
     show At _ _ _ _ _ (Q .ret)
     exact S_done (fn := Try.f60) [vi 0] hQ (show ResOK _ _ _ [.tmp 4] _ from .tmp (by kernel_rfl) (.nil)) h
end cmp_Compare_int

/-! cmp.isNaN[int] -/
namespace cmp_isNaN_int
def kk0 := Func.code Try.f75
def kk1 := Code.fa kk0
def kk2 := Code.fb kk0
def kk3 := Code.fa kk2
def kk4 := Code.fb kk2
end cmp_isNaN_int
def cmp_isNaN_int.pt (x : Int) (H : Array Obj) (R : Value → Array Obj → Prop) : Prop :=
 R (.bool (x != x)) H
namespace cmp_isNaN_int
set_option maxRecDepth 100000 in
theorem link {x : Int} {H : Array Obj} {R : Value → Array Obj → Prop} (h : pt x H R) : C x H R := by
 refine S_enter (fn := Try.f75) (c := kk0) 6 Try.func75 (by kernel_rfl) (by kernel_rfl) (Nat.le_of_ble_eq_true (by kernel_rfl)) ?_
 intro w0 Q hQ
 unfold pt at h
 refine T_su [(0, vi x)] ?_
 refine T_sr 0 kk1 kk2 ?_
 refine T_ne 1 [(0, vi x)] ?_
 refine T_sr 1 kk3 kk4 ?_
 refine T_ne 4 [(2, .bool (x != x))] ?_
 refine S_ret (by kernel_rfl) ?_
 show At _ _ _ _ _ (Q .ret)
 exact S_done (fn := Try.f75) [.bool (x != x)] hQ (show ResOK _ _ _ [.tmp 2] _ from .tmp (by kernel_rfl) (.nil)) h
end cmp_isNaN_int

end Go.Proofs.Ytillpfaabdlaiaa
