/-
 Written by a program of mine (gen.py): for functions of this translation a predicate transformer over heaps (.pt), and the proof that it is sound for the call (.link).
-/
import Derived.Test.YthlohokmnajpoaaFnsC
set_option linter.unusedSimpArgs false
set_option linter.unusedVariables false
set_option maxHeartbeats 1000000
noncomputable section
namespace Go.Proofs.Ythlohokmnajpoaa
open Go
/-! moraine/morainelaw22.of -/
namespace morainelaw22_of
def kk0 := Func.code Try.f9
def kk1 := Code.fa kk0
def kk2 := Code.fb kk0
def kk3 := Code.fa kk2
def kk4 := Code.fb kk2
def kk5 := Code.fa kk4
def kk6 := Code.fb kk4
def kk7 := Code.fa kk6
def kk8 := Code.fb kk6
end morainelaw22_of
def morainelaw22_of.pt (hv : Option Addr) (lB : Option Addr) (lN : Nat) (lC : Nat) (H : Array Obj) (R : Value → Array Obj → Prop) : Prop :=
 lists_Apply.C hv 12 lB lN lC H (fun v H1 => ∃ ra : Int, ∃ rb : Int, v = .tuple #[.int .u64 ra, .int .i64 rb] ∧ 
 lists_List.C hv ra H1 (fun v_2 H2 => ∃ raB : Option Addr, ∃ raN : Nat, ∃ raC : Nat, ∃ rb_2 : Bool, v_2 = .tuple #[.slice raB raN raC, .bool rb_2] ∧ 
 if rb = 0 then (
 if rb_2 = true then (
 morainelaw22_same.C raB raN raC lB lN lC H2 (fun v_3 H3 => ∃ x : Bool, v_3 = .bool x ∧ 
 R (.tuple #[.int .u64 ra, .bool x]) H3))
 else
 R (.tuple #[.int .u64 ra, .bool false]) H2)
 else
 R (.tuple #[.int .u64 ra, .bool false]) H2))
namespace morainelaw22_of
set_option maxRecDepth 100000 in
theorem link {hv : Option Addr} {lB : Option Addr} {lN : Nat} {lC : Nat} {H : Array Obj} {R : Value → Array Obj → Prop} (h : pt hv lB lN lC H R) : C hv lB lN lC H R := by
 refine S_enter (fn := Try.f9) (c := kk0) 33 Try.func9 (by kernel_rfl) (by kernel_rfl) (Nat.le_of_ble_eq_true (by kernel_rfl)) ?_
 intro w0 Q hQ
 unfold pt at h
 refine S_sub [(0, .pointer hv), (1, .slice lB lN lC)] (sb (by kernel_rfl)) ?_
 refine T_sr 0 kk1 kk2 ?_
 refine N_run 2 [(0, .pointer hv), (1, .slice lB lN lC)] (fun _=>by kernel_rfl) ?_
 refine T_e ?_
 refine T_sr 1 kk3 kk4 ?_
 refine N_run 2 [(0, .pointer hv), (1, .slice lB lN lC), (11, .pointer hv), (12, .slice lB lN lC)] (fun _=>by kernel_rfl) ?_
 refine N_call (some 13) 10 #[.pointer hv, .int .i64 12, .slice lB lN lC] (fun _=>by kernel_rfl) h ?_; clear h
 rintro v H1 ⟨ra, rb, rfl, h⟩
 refine ⟨[(0, .pointer hv), (1, .slice lB lN lC), (13, .tuple #[.int .u64 ra, .int .i64 rb])], ps (by kernel_rfl), ?_⟩
 refine N_run 5 [(0, .pointer hv), (1, .slice lB lN lC), (6, .int .u64 ra), (7, .int .i64 rb)] (fun _=>by kernel_rfl) ?_
 refine T_e ?_
 refine T_sr 2 kk5 kk6 ?_
 refine N_run 2 [(1, .slice lB lN lC), (6, .int .u64 ra), (7, .int .i64 rb), (17, .pointer hv), (18, .int .u64 ra)] (fun _=>by kernel_rfl) ?_
 refine N_call (some 19) 11 #[.pointer hv, .int .u64 ra] (fun _=>by kernel_rfl) h ?_; clear h
 rintro v_2 H2 ⟨raB, raN, raC, rb_2, rfl, h⟩
 refine ⟨[(1, .slice lB lN lC), (6, .int .u64 ra), (7, .int .i64 rb), (19, .tuple #[.slice raB raN raC, .bool rb_2])], ps (by kernel_rfl), ?_⟩
 refine N_run 5 [(1, .slice lB lN lC), (6, .int .u64 ra), (7, .int .i64 rb), (8, .slice raB raN raC), (9, .bool rb_2)] (fun _=>by kernel_rfl) ?_
 refine T_e ?_
 refine T_sr 3 kk7 kk8 ?_
 refine N_run 4 [(1, .slice lB lN lC), (8, .slice raB raN raC), (9, .bool rb_2), (22, .int .u64 ra), (25, .bool (rb == 0))] (fun _=>by kernel_rfl) ?_
 by_cases c1 : rb = 0
 ·rw [if_pos c1] at h
  have b2 : (rb == 0) = true := beq_iff_eq.mpr c1
  refine N_env [(1, .slice lB lN lC), (8, .slice raB raN raC), (9, .bool rb_2), (22, .int .u64 ra), (25, .bool true)] (by simp only [b2, Bool.not_true, Bool.not_false]) ?_
  clear b2
  refine N_run 3 [(1, .slice lB lN lC), (8, .slice raB raN raC), (22, .int .u64 ra), (28, .bool rb_2)] (fun _=>by kernel_rfl) ?_
  by_cases c3 : rb_2 = true
  ·rw [if_pos c3] at h
   have b4 : rb_2 = true := c3
   refine N_env [(1, .slice lB lN lC), (8, .slice raB raN raC), (22, .int .u64 ra), (28, .bool true)] (by simp only [b4, Bool.not_true, Bool.not_false]) ?_
   clear b4
   refine N_run 2 [(22, .int .u64 ra), (28, .bool true), (29, .slice raB raN raC), (30, .slice lB lN lC)] (fun _=>by kernel_rfl) ?_
   refine N_call (some 31) 12 #[.slice raB raN raC, .slice lB lN lC] (fun _=>by kernel_rfl) h ?_; clear h
   rintro v_3 H3 ⟨x, rfl, h⟩
   refine ⟨[(22, .int .u64 ra), (28, .bool true), (31, .bool x)], ps (by kernel_rfl), ?_⟩
   refine N_run 3 [(4, .int .u64 ra), (5, .bool x)] (fun _=>by kernel_rfl) ?_
   refine T_e ?_
   refine S_ret (by kernel_rfl) ?_
   show At _ _ _ _ _ (Q .ret)
   exact S_done (fn := Try.f9) [.int .u64 ra, .bool x] hQ (show ResOK _ _ _ [.tmp 4, .tmp 5] _ from .tmp (by kernel_rfl) (.tmp (by kernel_rfl) (.nil))) h
  ·rw [if_neg c3] at h
   have b4 : rb_2 = false := eq_false_of_ne_true c3
   refine N_env [(1, .slice lB lN lC), (8, .slice raB raN raC), (22, .int .u64 ra), (28, .bool false)] (by simp only [b4, Bool.not_true, Bool.not_false]) ?_
   clear b4
   refine N_run 6 [(4, .int .u64 ra), (5, .bool false)] (fun _=>by kernel_rfl) ?_
   refine T_e ?_
   refine S_ret (by kernel_rfl) ?_
   show At _ _ _ _ _ (Q .ret)
   exact S_done (fn := Try.f9) [.int .u64 ra, .bool false] hQ (show ResOK _ _ _ [.tmp 4, .tmp 5] _ from .tmp (by kernel_rfl) (.tmp (by kernel_rfl) (.nil))) h
 ·rw [if_neg c1] at h
  have b2 : (rb == 0) = false := beq_eq_false_iff_ne.mpr c1
  refine N_env [(1, .slice lB lN lC), (8, .slice raB raN raC), (9, .bool rb_2), (22, .int .u64 ra), (25, .bool false)] (by simp only [b2, Bool.not_true, Bool.not_false]) ?_
  clear b2
  refine N_run 9 [(4, .int .u64 ra), (5, .bool false)] (fun _=>by kernel_rfl) ?_
  refine T_e ?_
  refine S_ret (by kernel_rfl) ?_
  show At _ _ _ _ _ (Q .ret)
  exact S_done (fn := Try.f9) [.int .u64 ra, .bool false] hQ (show ResOK _ _ _ [.tmp 4, .tmp 5] _ from .tmp (by kernel_rfl) (.tmp (by kernel_rfl) (.nil))) h
end morainelaw22_of

end Go.Proofs.Ythlohokmnajpoaa
