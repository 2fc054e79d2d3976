/-
 Written by a program of mine (gen.py): for functions of this translation a predicate transformer over heaps (.pt), and the proof that it is sound for the call (.link).
-/
import Derived.Test.YtillpfaabdlaiaaDoorFnsC
set_option linter.unusedSimpArgs false
set_option linter.unusedVariables false
set_option maxHeartbeats 1000000
noncomputable section
namespace Go.Proofs.YtillpfaabdlaiaaDoor
open Go
/-! moraine/morainelaw16.awake -/
namespace morainelaw16_awake
def kk0 := Func.code Tryd.f5
def kk1 := Code.fa kk0
def kk2 := Code.fb kk0
def kk3 := Code.fa kk2
def kk4 := Code.fb kk2
def kk5 := Code.fa kk4
def kk6 := Code.fb kk4
def kk7 := Code.fa kk5
def kk8 := Code.fb kk5
def kk9 := Code.fa kk8
def kk10 := Code.fb kk8
def kk11 := Code.fa kk9
def kk12 := Code.fb kk9
def kk13 := Code.fa kk6
def kk14 := Code.fb kk6
def kk15 := Code.fa kk14
def kk16 := Code.fb kk14
def kk17 := Code.fa kk16
def kk18 := Code.fb kk16
def kk19 := Code.fa kk18
def kk20 := Code.fb kk18
end morainelaw16_awake
def morainelaw16_awake.pt  (H : Array Obj) (R : Value → Array Obj → Prop) : Prop :=
 morainelaw16_begun.C  H (fun v H1 => ∃ x : Option Addr, v = .pointer x ∧ 
 onPtr x (
 R (.bool false) H1) (fun xA =>
 ∃ f : Option Addr, hat H1 xA = some (.pointer f) ∧
 syms_Intern.C f (ByteArray.mk #[97]) H1 (fun m H2 => ∃ ra : Int, ∃ rb : Int, m = .tuple #[.int .u64 ra, .int .i64 rb] ∧ 
 ∃ g : Option Addr, hat H2 xA = some (.pointer g) ∧
 syms_Intern.C g (ByteArray.mk #[98]) H2 (fun l H3 => ∃ a : Int, ∃ d : Int, l = .tuple #[.int .u64 a, .int .i64 d] ∧ 
 ∃ i : Option Addr, hat H3 xA = some (.pointer i) ∧
 syms_Intern.C i (ByteArray.mk #[97]) H3 (fun o H4 => ∃ b : Int, ∃ e : Int, o = .tuple #[.int .u64 b, .int .i64 e] ∧ 
 if rb = 0 then (
 if d = 0 then (
 if e = 0 then (
 if ra = b then (
 if ra = a then (
 R (.bool false) H4)
 else
 ∃ j : Option Addr, hat H4 xA = some (.pointer j) ∧
 ∃ k : Addr, j = some k ∧
 ∃ xB : Option Addr, ∃ xN : Nat, ∃ xC : Nat, hat H4 (k.add 1) = some (.slice xB xN xC) ∧
 R (.bool ((xN : Int) == 2)) H4)
 else
 R (.bool false) H4)
 else
 R (.bool false) H4)
 else
 R (.bool false) H4)
 else
 R (.bool false) H4)))))
namespace morainelaw16_awake
set_option maxRecDepth 100000 in
theorem link  {H : Array Obj} {R : Value → Array Obj → Prop} (h : pt  H R) : C  H R := by
 refine S_enter (fn := Tryd.f5) (c := kk0) 66 Tryd.func5 (by kernel_rfl) (by kernel_rfl) (Nat.le_of_ble_eq_true (by kernel_rfl)) ?_
 intro w0 Q hQ
 unfold pt at h
 refine T_su [] ?_
 refine T_sr 0 kk1 kk2 ?_
 refine T_ne 1 [] ?_
 refine T_sr 1 kk3 kk4 ?_
 refine N_call (some 8) 11 #[] (fun _=>by kernel_rfl) h ?_; clear h
 rintro v H1 ⟨x, rfl, h⟩
 refine ⟨[(8, vp x)], pk, ?_⟩
 refine T_ne 1 [(1, vp x)] ?_
 refine T_s kk5 kk6 ?_
 refine T_sr 2 kk7 kk8 ?_
 refine T_n 1 [(1, vp x), (9, vp x)] ?_
 rcases x with _ | xA
 ·rw [onPtr_none] at h
  refine T_ne 1 [(1, vp none), (10, .bool true)] ?_
  refine T_t 10 kk9 kk10 ?_
  refine T_sr 3 kk11 kk12 ?_
  refine T_ne 1 [(0, .bool false)] ?_
  refine S_ret (by kernel_rfl) ?_
  show At _ _ _ _ _ (Q .ret)
  exact S_done (fn := Tryd.f5) [.bool false] hQ (show ResOK _ _ _ [.tmp 0] _ from .tmp (by kernel_rfl) (.nil)) h
 ·rw [onPtr_some] at h
  refine T_ne 1 [(1, vp (some xA)), (10, .bool false)] ?_
  refine T_f 10 kk9 kk10 ?_
  refine T_kt ?_
  refine T_sr 4 kk13 kk14 ?_
  refine T_n 3 [(1, vp (some xA)), (14, vp (some xA))] ?_
  obtain ⟨f, q1, h⟩ := h
  refine T_l (some 15) 24 q1 [(1, vp (some xA)), (15, vp f)] ?_
  refine N_call (some 16) 8 #[vp f, .string (ByteArray.mk #[97])] (fun _=>by kernel_rfl) h ?_; clear h
  rintro m H2 ⟨ra, rb, rfl, h⟩
  refine ⟨[(1, vp (some xA)), (16, .tuple #[vu ra, vi rb])], pk, ?_⟩
  refine T_ne 5 [(1, vp (some xA)), (2, vu ra), (3, vi rb)] ?_
  refine T_sr 5 kk15 kk16 ?_
  refine T_n 3 [(1, vp (some xA)), (2, vu ra), (3, vi rb), (22, vp (some xA))] ?_
  obtain ⟨g, q2, h⟩ := h
  refine T_l (some 23) 24 q2 [(1, vp (some xA)), (2, vu ra), (3, vi rb), (23, vp g)] ?_
  refine N_call (some 24) 8 #[vp g, .string (ByteArray.mk #[98])] (fun _=>by kernel_rfl) h ?_; clear h
  rintro l H3 ⟨a, d, rfl, h⟩
  refine ⟨[(1, vp (some xA)), (2, vu ra), (3, vi rb), (24, .tuple #[vu a, vi d])], pk, ?_⟩
  refine T_ne 5 [(1, vp (some xA)), (2, vu ra), (3, vi rb), (4, vu a), (5, vi d)] ?_
  refine T_sr 6 kk17 kk18 ?_
  refine T_n 3 [(1, vp (some xA)), (2, vu ra), (3, vi rb), (4, vu a), (5, vi d), (30, vp (some xA))] ?_
  obtain ⟨i, q3, h⟩ := h
  refine T_l (some 31) 24 q3 [(1, vp (some xA)), (2, vu ra), (3, vi rb), (4, vu a), (5, vi d), (31, vp i)] ?_
  refine N_call (some 32) 8 #[vp i, .string (ByteArray.mk #[97])] (fun _=>by kernel_rfl) h ?_; clear h
  rintro o H4 ⟨b, e, rfl, h⟩
  refine ⟨[(1, vp (some xA)), (2, vu ra), (3, vi rb), (4, vu a), (5, vi d), (32, .tuple #[vu b, vi e])], pk, ?_⟩
  refine T_ne 5 [(1, vp (some xA)), (2, vu ra), (3, vi rb), (4, vu a), (5, vi d), (6, vu b), (7, vi e)] ?_
  refine T_sr 7 kk19 kk20 ?_
  refine T_n 3 [(1, vp (some xA)), (2, vu ra), (4, vu a), (5, vi d), (6, vu b), (7, vi e), (37, .bool (rb == 0))] ?_
  by_cases c4 : rb = 0
  ·rw [if_pos c4] at h
   have b5 : (rb == 0) = true := beq_iff_eq.mpr c4
   refine N_env [(1, vp (some xA)), (2, vu ra), (4, vu a), (5, vi d), (6, vu b), (7, vi e), (37, .bool true)] (by simp only [b5, Bool.not_true, Bool.not_false]) ?_
   clear b5
   refine T_n 4 [(1, vp (some xA)), (2, vu ra), (4, vu a), (6, vu b), (7, vi e), (41, .bool (d == 0))] ?_
   by_cases c6 : d = 0
   ·rw [if_pos c6] at h
    have b7 : (d == 0) = true := beq_iff_eq.mpr c6
    refine N_env [(1, vp (some xA)), (2, vu ra), (4, vu a), (6, vu b), (7, vi e), (41, .bool true)] (by simp only [b7, Bool.not_true, Bool.not_false]) ?_
    clear b7
    refine T_n 4 [(1, vp (some xA)), (2, vu ra), (4, vu a), (6, vu b), (45, .bool (e == 0))] ?_
    by_cases c8 : e = 0
    ·rw [if_pos c8] at h
     have b9 : (e == 0) = true := beq_iff_eq.mpr c8
     refine N_env [(1, vp (some xA)), (2, vu ra), (4, vu a), (6, vu b), (45, .bool true)] (by simp only [b9, Bool.not_true, Bool.not_false]) ?_
     clear b9
     refine T_n 5 [(1, vp (some xA)), (2, vu ra), (4, vu a), (50, .bool (ra == b))] ?_
     by_cases c10 : ra = b
     ·rw [if_pos c10] at h
      have b11 : (ra == b) = true := beq_iff_eq.mpr c10
      refine N_env [(1, vp (some xA)), (2, vu ra), (4, vu a), (50, .bool true)] (by simp only [b11, Bool.not_true, Bool.not_false]) ?_
      clear b11
      refine T_n 5 [(1, vp (some xA)), (55, .bool (ra != a))] ?_
      by_cases c12 : ra = a
      ·rw [if_pos c12] at h
       have b13 : (ra != a) = false := bne_eq_false_iff_eq.mpr c12
       refine N_env [(1, vp (some xA)), (55, .bool false)] (by simp only [b13, Bool.not_true, Bool.not_false]) ?_
       clear b13
       refine T_ne 11 [(0, .bool false)] ?_
       refine S_ret (by kernel_rfl) ?_
       show At _ _ _ _ _ (Q .ret)
       exact S_done (fn := Tryd.f5) [.bool false] hQ (show ResOK _ _ _ [.tmp 0] _ from .tmp (by kernel_rfl) (.nil)) h
      ·rw [if_neg c12] at h
       have b13 : (ra != a) = true := bne_iff_ne.mpr c12
       refine N_env [(1, vp (some xA)), (55, .bool true)] (by simp only [b13, Bool.not_true, Bool.not_false]) ?_
       clear b13
       refine T_n 3 [(55, .bool true), (58, vp (some xA))] ?_
       obtain ⟨j, q14, h⟩ := h
       refine T_l (some 59) 24 q14 [(55, .bool true), (59, vp j)] ?_
       obtain ⟨k, rfl, h⟩ := h
       refine T_n 2 [(55, .bool true), (61, vp (some (k.add 1)))] ?_
       obtain ⟨xB, xN, xC, q15, h⟩ := h
       refine T_l (some 62) 40 q15 [(55, .bool true), (62, vs xB xN xC)] ?_
       refine T_ne 4 [(0, .bool ((xN : Int) == 2))] ?_
       refine S_ret (by kernel_rfl) ?_
       show At _ _ _ _ _ (Q .ret)
       exact S_done (fn := Tryd.f5) [.bool ((xN : Int) == 2)] hQ (show ResOK _ _ _ [.tmp 0] _ from .tmp (by kernel_rfl) (.nil)) h
     ·rw [if_neg c10] at h
      have b11 : (ra == b) = false := beq_eq_false_iff_ne.mpr c10
      refine N_env [(1, vp (some xA)), (2, vu ra), (4, vu a), (50, .bool false)] (by simp only [b11, Bool.not_true, Bool.not_false]) ?_
      clear b11
      refine T_ne 16 [(0, .bool false)] ?_
      refine S_ret (by kernel_rfl) ?_
      show At _ _ _ _ _ (Q .ret)
      exact S_done (fn := Tryd.f5) [.bool false] hQ (show ResOK _ _ _ [.tmp 0] _ from .tmp (by kernel_rfl) (.nil)) h
    ·rw [if_neg c8] at h
     have b9 : (e == 0) = false := beq_eq_false_iff_ne.mpr c8
     refine N_env [(1, vp (some xA)), (2, vu ra), (4, vu a), (6, vu b), (45, .bool false)] (by simp only [b9, Bool.not_true, Bool.not_false]) ?_
     clear b9
     refine T_ne 21 [(0, .bool false)] ?_
     refine S_ret (by kernel_rfl) ?_
     show At _ _ _ _ _ (Q .ret)
     exact S_done (fn := Tryd.f5) [.bool false] hQ (show ResOK _ _ _ [.tmp 0] _ from .tmp (by kernel_rfl) (.nil)) h
   ·rw [if_neg c6] at h
    have b7 : (d == 0) = false := beq_eq_false_iff_ne.mpr c6
    refine N_env [(1, vp (some xA)), (2, vu ra), (4, vu a), (6, vu b), (7, vi e), (41, .bool false)] (by simp only [b7, Bool.not_true, Bool.not_false]) ?_
    clear b7
    refine T_ne 25 [(0, .bool false)] ?_
    refine S_ret (by kernel_rfl) ?_
    show At _ _ _ _ _ (Q .ret)
    exact S_done (fn := Tryd.f5) [.bool false] hQ (show ResOK _ _ _ [.tmp 0] _ from .tmp (by kernel_rfl) (.nil)) h
  ·rw [if_neg c4] at h
   have b5 : (rb == 0) = false := beq_eq_false_iff_ne.mpr c4
   refine N_env [(1, vp (some xA)), (2, vu ra), (4, vu a), (5, vi d), (6, vu b), (7, vi e), (37, .bool false)] (by simp only [b5, Bool.not_true, Bool.not_false]) ?_
   clear b5
   refine T_ne 29 [(0, .bool false)] ?_
   refine S_ret (by kernel_rfl) ?_
   show At _ _ _ _ _ (Q .ret)
   exact S_done (fn := Tryd.f5) [.bool false] hQ (show ResOK _ _ _ [.tmp 0] _ from .tmp (by kernel_rfl) (.nil)) h
end morainelaw16_awake

end Go.Proofs.YtillpfaabdlaiaaDoor
