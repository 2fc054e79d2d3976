/-
 Written by a program of mine (gen.py): for functions of this translation a predicate transformer over heaps (.pt), and the proof that it is sound for the call (.link).
-/
import Derived.Test.YtillpfaabdlaiaaDoorFnsC
set_option linter.unusedSimpArgs false
set_option linter.unusedVariables false
set_option maxHeartbeats 1000000
noncomputable section
namespace Go.Proofs.YtillpfaabdlaiaaDoor
open Go
/-! moraine/morainelaw16.good -/
namespace morainelaw16_good
def kk0 := Func.code Tryd.f9
def kk1 := Code.fa kk0
def kk2 := Code.fb kk0
def kk3 := Code.fa kk2
def kk4 := Code.fb kk2
def kk5 := Code.fa kk4
def kk6 := Code.fb kk4
def kk7 := Code.fa kk5
def kk8 := Code.fb kk5
def kk9 := Code.fa kk8
def kk10 := Code.fb kk8
def kk11 := Code.fa kk9
def kk12 := Code.fb kk9
def kk13 := Code.fa kk6
def kk14 := Code.fb kk6
def kk15 := Code.fa kk13
def kk16 := Code.fb kk13
def kk17 := Code.fa kk16
def kk18 := Code.fb kk16
def kk19 := Code.fa kk17
def kk20 := Code.fb kk17
def kk21 := Code.fa kk14
def kk22 := Code.fb kk14
end morainelaw16_good
def morainelaw16_good.pt (s : ByteArray) (H : Array Obj) (R : Value → Array Obj → Prop) : Prop :=
 moraineref03_Runes.C s H (fun v H1 => ∃ b : Option Addr, ∃ a : Nat, ∃ d : Nat, ∃ rb : Bool, v = .tuple #[.slice b a d, .bool rb] ∧ 
 if ((!rb) || ((a : Int) == 0)) = true then (
 R (.int .i64 2) H1)
 else
 if (a : Int) > 62 then (
 R (.int .i64 1) H1)
 else
 R (.int .i64 0) H1)
namespace morainelaw16_good
set_option maxRecDepth 100000 in
theorem link {s : ByteArray} {H : Array Obj} {R : Value → Array Obj → Prop} (h : pt s H R) : C s H R := by
 refine S_enter (fn := Tryd.f9) (c := kk0) 20 Tryd.func9 (by kernel_rfl) (by kernel_rfl) (Nat.le_of_ble_eq_true (by kernel_rfl)) ?_
 intro w0 Q hQ
 unfold pt at h
 refine T_su [(0, .string s)] ?_
 refine T_sr 0 kk1 kk2 ?_
 refine T_ne 1 [(0, .string s)] ?_
 refine T_sr 1 kk3 kk4 ?_
 refine T_n 1 [(6, .string s)] ?_
 refine N_call (some 7) 19 #[.string s] (fun _=>by kernel_rfl) h ?_; clear h
 rintro v H1 ⟨b, a, d, rb, rfl, h⟩
 refine ⟨[(7, .tuple #[vs b a d, .bool rb])], pk, ?_⟩
 refine T_ne 5 [(3, vs b a d), (4, .bool rb)] ?_
 refine T_s kk5 kk6 ?_
 refine T_sr 2 kk7 kk8 ?_
 refine N_cut [(3, vs b a d), (16, .bool ((!rb) || ((a : Int) == 0)))] ?_ ?_
 ·refine S_then ?_
  by_cases c3 : ((!rb) || ((a : Int) == 0)) = true
  ·rw [if_pos c3] at h
   have b4 : ((!rb) || ((a : Int) == 0)) = true := c3
   refine S_env [(3, vs b a d), (16, .bool true)] (by simp only [b4, Bool.not_true, Bool.not_false]) ?_
   clear b4
   refine T_t 16 kk9 kk10 ?_
   refine T_sr 3 kk11 kk12 ?_
   refine T_ne 1 [(2, vi 2)] ?_
   refine S_ret (by kernel_rfl) ?_
   show At _ _ _ _ _ (Q .ret)
   exact S_done (fn := Tryd.f9) [vi 2] hQ (show ResOK _ _ _ [.tmp 2] _ from .tmp (by kernel_rfl) (.nil)) h
  ·rw [if_neg c3] at h
   have b4 : ((!rb) || ((a : Int) == 0)) = false := eq_false_of_ne_true c3
   refine S_env [(3, vs b a d), (16, .bool false)] (by simp only [b4, Bool.not_true, Bool.not_false]) ?_
   clear b4
   refine T_f 16 kk9 kk10 ?_
   refine T_kt ?_
   refine T_s kk13 kk14 ?_
   refine T_sr 4 kk15 kk16 ?_
   refine T_ne 3 [(19, .bool (decide ((a : Int) > 62)))] ?_
   by_cases c5 : (a : Int) > 62
   ·rw [if_pos c5] at h
    have b6 : (decide ((a : Int) > 62)) = true := decide_eq_true c5
    refine T_cT 19 kk17 kk18 b6 ?_
    refine T_sr 5 kk19 kk20 ?_
    refine T_ne 1 [(2, vi 1)] ?_
    refine S_ret (by kernel_rfl) ?_
    show At _ _ _ _ _ (Q .ret)
    exact S_done (fn := Tryd.f9) [vi 1] hQ (show ResOK _ _ _ [.tmp 2] _ from .tmp (by kernel_rfl) (.nil)) h
   ·rw [if_neg c5] at h
    have b6 : (decide ((a : Int) > 62)) = false := decide_eq_false c5
    refine S_env [(19, .bool false)] (by simp only [b6, Bool.not_true, Bool.not_false]) ?_
    clear b6
    refine T_f 19 kk17 kk18 ?_
    refine T_kt ?_
    refine T_sr 6 kk21 kk22 ?_
    refine T_ne 1 [(2, vi 0)] ?_
    refine S_ret (by kernel_rfl) ?_
    show At _ _ _ _ _ (Q .ret)
    exact S_done (fn := Tryd.f9) [vi 0] hQ (show ResOK _ _ _ [.tmp 2] _ from .tmp (by kernel_rfl) (.nil)) h
 ·intro hk
  refine T_n 3 [(3, vs b a d), (12, .bool (!rb))] ?_
  by_cases c1 : rb = true
  ·have b2 : (!rb) = false := congrArg Bool.not (c1)
   have b22 : rb = true := c1
   refine N_env [(3, vs b a d), (12, .bool false)] (by simp only [b2, b22, Bool.not_true, Bool.not_false]) ?_
   refine T_n 4 [(3, vs b a d), (16, .bool ((a : Int) == 0))] ?_
   refine N_end (by kernel_rfl) ?_
   refine S_env [(3, vs b a d), (16, .bool ((!rb) || ((a : Int) == 0)))] (by simp only [b2, Bool.true_or, Bool.false_or, Bool.or_true, Bool.or_false, Bool.true_and, Bool.false_and, Bool.and_true, Bool.and_false, Bool.not_true, Bool.not_false, cond_true, cond_false]) ?_
   exact hk
  ·have b2 : (!rb) = true := congrArg Bool.not (eq_false_of_ne_true c1)
   have b22 : rb = false := eq_false_of_ne_true c1
   refine N_env [(3, vs b a d), (12, .bool true)] (by simp only [b2, b22, Bool.not_true, Bool.not_false]) ?_
   refine T_n 4 [(3, vs b a d), (16, .bool true)] ?_
   refine N_end (by kernel_rfl) ?_
   refine S_env [(3, vs b a d), (16, .bool ((!rb) || ((a : Int) == 0)))] (by simp only [b2, Bool.true_or, Bool.false_or, Bool.or_true, Bool.or_false, Bool.true_and, Bool.false_and, Bool.and_true, Bool.and_false, Bool.not_true, Bool.not_false, cond_true, cond_false]) ?_
   exact hk
end morainelaw16_good

end Go.Proofs.YtillpfaabdlaiaaDoor
