/-
  Written by a program of mine (gen.py): for functions of this translation a predicate transformer over heaps (.pt), and the proof that it is sound for the call (.link).
-/
import Derived.Test.YtfohlkiikppefaaFnsC
set_option linter.unusedSimpArgs false
set_option linter.unusedVariables false
set_option maxHeartbeats 1000000
noncomputable section
namespace Go.Proofs.Ytfohlkiikppefaa
open Go
/-! moraine/morainelaw10.setHalf -/
namespace morainelaw10_setHalf
def kk0 := Func.code Try.f31
def kk1 := Code.fa kk0
def kk2 := Code.fb kk0
def kk3 := Code.fa kk2
def kk4 := Code.fb kk2
def kk5 := Code.fa kk3
def kk6 := Code.fb kk3
def kk7 := Code.fa kk6
def kk8 := Code.fb kk6
def kk9 := Code.fa kk7
def kk10 := Code.fb kk7
def kk11 := Code.fa kk4
def kk12 := Code.fb kk4
end morainelaw10_setHalf
def morainelaw10_setHalf.pt (hv : Option Addr) (dov : Int) (wv : Int) (v : Int) (H : Array Obj) (R : Value → Array Obj → Prop) : Prop :=
 if dov = 6 then (
  obj_Heap_SetCar.C hv wv v H (fun v_2 H1 => ∃ x : Int, v_2 = .int .i64 x ∧ 
   R (.int .i64 x) H1))
 else
 obj_Heap_SetCdr.C hv wv v H (fun v_3 H2 => ∃ x_2 : Int, v_3 = .int .i64 x_2 ∧ 
  R (.int .i64 x_2) H2)
namespace morainelaw10_setHalf
set_option maxRecDepth 100000 in
theorem link {hv : Option Addr} {dov : Int} {wv : Int} {v : Int} {H : Array Obj} {R : Value → Array Obj → Prop} (h : pt hv dov wv v H R) : C hv dov wv v H R := by
  refine S_enter (fn := Try.f31) (c := kk0) 19 Try.func31 (by kernel_rfl) (by kernel_rfl) (Nat.le_of_ble_eq_true (by kernel_rfl)) ?_
  intro w0 Q hQ
  unfold pt at h
  refine S_sub [(0, .pointer hv), (1, .int .i64 dov), (2, .int .u64 wv), (3, .int .u64 v)] (sb (by kernel_rfl)) ?_
  refine S_seq kk1 kk2 (by kernel_rfl) ?_
  refine S_region 0 (Code.ops kk1) (by kernel_rfl) ?_
  refine N_run 1 [(0, .pointer hv), (1, .int .i64 dov), (2, .int .u64 wv), (3, .int .u64 v)] (fun w => by kernel_rfl) ?_
  refine N_end (by kernel_rfl) ?_
  refine S_then ?_
  refine S_seq kk3 kk4 (by kernel_rfl) ?_
  refine S_seq kk5 kk6 (by kernel_rfl) ?_
  refine S_region 1 (Code.ops kk5) (by kernel_rfl) ?_
  refine N_run 2 [(0, .pointer hv), (2, .int .u64 wv), (3, .int .u64 v), (10, .bool (dov == 6))] (fun w => by kernel_rfl) ?_
  refine N_end (by kernel_rfl) ?_
  refine S_then ?_
  by_cases c1 : dov = 6
  · rw [if_pos c1] at h
    have b2 : (dov == 6) = true := beq_iff_eq.mpr c1
    refine S_env [(0, .pointer hv), (2, .int .u64 wv), (3, .int .u64 v), (10, .bool true)] (by simp only [b2, Bool.not_true, Bool.not_false]) ?_
    clear b2
    refine S_condT (.tmp 10) kk7 kk8 (by kernel_rfl) (by kernel_rfl) ?_
    refine S_seq kk9 kk10 (by kernel_rfl) ?_
    refine S_region 2 (Code.ops kk9) (by kernel_rfl) ?_
    refine N_run 3 [(11, .pointer hv), (12, .int .u64 wv), (13, .int .u64 v)] (fun w => by kernel_rfl) ?_
    refine N_call (some 14) 48 #[.pointer hv, .int .u64 wv, .int .u64 v] (fun w => by kernel_rfl) h ?_; clear h
    rintro v_2 H1 ⟨x, rfl, h⟩
    refine ⟨[(14, .int .i64 x)], ps (by kernel_rfl), ?_⟩
    refine N_run 1 [(8, .int .i64 x)] (fun w => by kernel_rfl) ?_
    refine N_end (by kernel_rfl) ?_
    refine S_then ?_
    refine S_ret (by kernel_rfl) ?_
    show At _ _ _ _ _ (Q .ret)
    exact S_done (fn := Try.f31) [.int .i64 x] hQ (show ResOK _ _ _ [.tmp 8] _ from .tmp (by kernel_rfl) (.nil)) h
  · rw [if_neg c1] at h
    have b2 : (dov == 6) = false := beq_eq_false_iff_ne.mpr c1
    refine S_env [(0, .pointer hv), (2, .int .u64 wv), (3, .int .u64 v), (10, .bool false)] (by simp only [b2, Bool.not_true, Bool.not_false]) ?_
    clear b2
    refine S_condF (.tmp 10) kk7 kk8 (by kernel_rfl) (by kernel_rfl) ?_
    refine S_skip (by kernel_rfl) ?_
    refine S_then ?_
    refine S_seq kk11 kk12 (by kernel_rfl) ?_
    refine S_region 3 (Code.ops kk11) (by kernel_rfl) ?_
    refine N_run 3 [(15, .pointer hv), (16, .int .u64 wv), (17, .int .u64 v)] (fun w => by kernel_rfl) ?_
    refine N_call (some 18) 62 #[.pointer hv, .int .u64 wv, .int .u64 v] (fun w => by kernel_rfl) h ?_; clear h
    rintro v_3 H2 ⟨x_2, rfl, h⟩
    refine ⟨[(18, .int .i64 x_2)], ps (by kernel_rfl), ?_⟩
    refine N_run 1 [(8, .int .i64 x_2)] (fun w => by kernel_rfl) ?_
    refine N_end (by kernel_rfl) ?_
    refine S_then ?_
    refine S_ret (by kernel_rfl) ?_
    show At _ _ _ _ _ (Q .ret)
    exact S_done (fn := Try.f31) [.int .i64 x_2] hQ (show ResOK _ _ _ [.tmp 8] _ from .tmp (by kernel_rfl) (.nil)) h
end morainelaw10_setHalf

end Go.Proofs.Ytfohlkiikppefaa
