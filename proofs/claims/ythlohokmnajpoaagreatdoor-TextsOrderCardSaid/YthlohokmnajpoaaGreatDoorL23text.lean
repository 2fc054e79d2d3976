/-
 Written by a program of mine (gen.py): for functions of this translation a predicate transformer over heaps (.pt), and the proof that it is sound for the call (.link).
-/
import Derived.Test.YthlohokmnajpoaaGreatDoorFnsC
set_option linter.unusedSimpArgs false
set_option linter.unusedVariables false
set_option maxHeartbeats 1000000
noncomputable section
namespace Go.Proofs.YthlohokmnajpoaaGreatDoor
open Go
/-! moraine/morainelaw23.text -/
namespace morainelaw23_text
def kk0 := Func.code Tryz.f24
def kk1 := Code.fa kk0
def kk2 := Code.fb kk0
def kk3 := Code.fa kk2
def kk4 := Code.fb kk2
def kk5 := Code.fa kk4
def kk6 := Code.fb kk4
end morainelaw23_text
def morainelaw23_text.pt (hv : Option Addr) (wv : Int) (H : Array Obj) (R : Value → Array Obj → Prop) : Prop :=
 obj_Heap_Text.C hv wv H (fun v H1 => ∃ ra : ByteArray, ∃ rb : Int, v = .tuple #[.string ra, .int .i64 rb] ∧ 
 R (.string ra) H1)
namespace morainelaw23_text
set_option maxRecDepth 100000 in
theorem link {hv : Option Addr} {wv : Int} {H : Array Obj} {R : Value → Array Obj → Prop} (h : pt hv wv H R) : C hv wv H R := by
 refine S_enter (fn := Tryz.f24) (c := kk0) 14 Tryz.func24 (by kernel_rfl) (by kernel_rfl) (Nat.le_of_ble_eq_true (by kernel_rfl)) ?_
 intro w0 Q hQ
 unfold pt at h
 refine T_su [(0, vp hv), (1, vu wv)] ?_
 refine T_sr 0 kk1 kk2 ?_
 refine T_ne 1 [(0, vp hv), (1, vu wv)] ?_
 refine T_sr 1 kk3 kk4 ?_
 refine T_n 2 [(8, vp hv), (9, vu wv)] ?_
 refine N_call (some 10) 50 #[vp hv, vu wv] (fun _=>by kernel_rfl) h ?_; clear h
 rintro v H1 ⟨ra, rb, rfl, h⟩
 refine ⟨[(10, .tuple #[.string ra, vi rb])], pk, ?_⟩
 refine T_ne 5 [(5, .string ra)] ?_
 refine T_sr 2 kk5 kk6 ?_
 refine T_ne 2 [(4, .string ra)] ?_
 refine S_ret (by kernel_rfl) ?_
 show At _ _ _ _ _ (Q .ret)
 exact S_done (fn := Tryz.f24) [.string ra] hQ (show ResOK _ _ _ [.tmp 4] _ from .tmp (by kernel_rfl) (.nil)) h
end morainelaw23_text

end Go.Proofs.YthlohokmnajpoaaGreatDoor
