/-
 Written by a program of mine (gen.py): for functions of this translation a predicate transformer over heaps (.pt), and the proof that it is sound for the call (.link).
-/
import Derived.Test.YthlohokmnajpoaaGreatDoorFnsC
set_option linter.unusedSimpArgs false
set_option linter.unusedVariables false
set_option maxHeartbeats 1000000
noncomputable section
namespace Go.Proofs.YthlohokmnajpoaaGreatDoor
open Go
/-! strings.IndexByte -/
namespace strings_IndexByte
def kk0 := Func.code Tryz.f157
def kk1 := Code.fa kk0
def kk2 := Code.fb kk0
def kk3 := Code.fa kk2
def kk4 := Code.fb kk2
end strings_IndexByte
def strings_IndexByte.pt (s : ByteArray) (c : Int) (H : Array Obj) (R : Value → Array Obj → Prop) : Prop :=
 internal_stringslite_IndexByte.C s c H (fun v H1 => ∃ x : Int, v = .int .i64 x ∧ 
 R (.int .i64 x) H1)
namespace strings_IndexByte
set_option maxRecDepth 100000 in
theorem link {s : ByteArray} {c : Int} {H : Array Obj} {R : Value → Array Obj → Prop} (h : pt s c H R) : C s c H R := by
 refine S_enter (fn := Tryz.f157) (c := kk0) 8 Tryz.func157 (by kernel_rfl) (by kernel_rfl) (Nat.le_of_ble_eq_true (by kernel_rfl)) ?_
 intro w0 Q hQ
 unfold pt at h
 refine T_su [(0, .string s), (1, .int .u8 c)] ?_
 refine T_sr 0 kk1 kk2 ?_
 refine T_ne 1 [(0, .string s), (1, .int .u8 c)] ?_
 refine T_sr 1 kk3 kk4 ?_
 refine T_n 2 [(5, .string s), (6, .int .u8 c)] ?_
 refine N_call (some 7) 189 #[.string s, .int .u8 c] (fun _=>by kernel_rfl) h ?_; clear h
 rintro v H1 ⟨x, rfl, h⟩
 refine ⟨[(7, vi x)], pk, ?_⟩
 refine T_ne 1 [(4, vi x)] ?_
 refine S_ret (by kernel_rfl) ?_
 show At _ _ _ _ _ (Q .ret)
 exact S_done (fn := Tryz.f157) [vi x] hQ (show ResOK _ _ _ [.tmp 4] _ from .tmp (by kernel_rfl) (.nil)) h
end strings_IndexByte

end Go.Proofs.YthlohokmnajpoaaGreatDoor
