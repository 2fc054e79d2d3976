/-
 Written by a program of mine (gen.py): for functions of this translation a predicate transformer over heaps (.pt), and the proof that it is sound for the call (.link).
-/
import Derived.Test.YthlohokmnajpoaaGreatDoorFnsC
set_option linter.unusedSimpArgs false
set_option linter.unusedVariables false
set_option maxHeartbeats 1000000
noncomputable section
namespace Go.Proofs.YthlohokmnajpoaaGreatDoor
open Go
/-! moraine/morainelaw23.does -/
namespace morainelaw23_does
def kk0 := Func.code Tryz.f23
def kk1 := Code.fa kk0
def kk2 := Code.fb kk0
def kk3 := Code.fa kk2
def kk4 := Code.fb kk2
def kk5 := Code.fa kk4
def kk6 := Code.fb kk4
end morainelaw23_does
def morainelaw23_does.pt (hv : Option Addr) (nv : Int) (argsB : Option Addr) (argsN : Nat) (argsC : Nat) (H : Array Obj) (R : Value → Array Obj → Prop) : Prop :=
 texts_Apply.C hv nv argsB argsN argsC H (fun v H1 => ∃ ra : Int, ∃ rb : Int, v = .tuple #[.int .u64 ra, .int .i64 rb] ∧ 
 R (.tuple #[.int .u64 ra, .bool (rb == 0)]) H1)
namespace morainelaw23_does
set_option maxRecDepth 100000 in
theorem link {hv : Option Addr} {nv : Int} {argsB : Option Addr} {argsN : Nat} {argsC : Nat} {H : Array Obj} {R : Value → Array Obj → Prop} (h : pt hv nv argsB argsN argsC H R) : C hv nv argsB argsN argsC H R := by
 refine S_enter (fn := Tryz.f23) (c := kk0) 20 Tryz.func23 (by kernel_rfl) (by kernel_rfl) (Nat.le_of_ble_eq_true (by kernel_rfl)) ?_
 intro w0 Q hQ
 unfold pt at h
 refine T_su [(0, vp hv), (1, vi nv), (2, vs argsB argsN argsC)] ?_
 refine T_sr 0 kk1 kk2 ?_
 refine T_ne 2 [(0, vp hv), (1, vi nv), (2, vs argsB argsN argsC)] ?_
 refine T_sr 1 kk3 kk4 ?_
 refine T_n 3 [(11, vp hv), (12, vi nv), (13, vs argsB argsN argsC)] ?_
 refine N_call (some 14) 28 #[vp hv, vi nv, vs argsB argsN argsC] (fun _=>by kernel_rfl) h ?_; clear h
 rintro v H1 ⟨ra, rb, rfl, h⟩
 refine ⟨[(14, .tuple #[vu ra, vi rb])], pk, ?_⟩
 refine T_ne 5 [(8, vu ra), (9, vi rb)] ?_
 refine T_sr 2 kk5 kk6 ?_
 refine T_ne 5 [(6, vu ra), (7, .bool (rb == 0))] ?_
 refine S_ret (by kernel_rfl) ?_
 show At _ _ _ _ _ (Q .ret)
 exact S_done (fn := Tryz.f23) [vu ra, .bool (rb == 0)] hQ (show ResOK _ _ _ [.tmp 6, .tmp 7] _ from .tmp (by kernel_rfl) (.tmp (by kernel_rfl) (.nil))) h
end morainelaw23_does

end Go.Proofs.YthlohokmnajpoaaGreatDoor
