/-
 Written by a program of mine (gen.py): for functions of this translation a predicate transformer over heaps (.pt), and the proof that it is sound for the call (.link).
-/
import Derived.Test.YthlohokmnajpoaaGreatDoorFnsC
set_option linter.unusedSimpArgs false
set_option linter.unusedVariables false
set_option maxHeartbeats 1000000
noncomputable section
namespace Go.Proofs.YthlohokmnajpoaaGreatDoor
open Go
/-! internal/stringslite.IndexByte -/
namespace internal_stringslite_IndexByte
def kk0 := Func.code Tryz.f189
def kk1 := Code.fa kk0
def kk2 := Code.fb kk0
def kk3 := Code.fa kk2
def kk4 := Code.fb kk2
end internal_stringslite_IndexByte
def internal_stringslite_IndexByte.pt (s : ByteArray) (c : Int) (H : Array Obj) (R : Value → Array Obj → Prop) : Prop :=
 R (.int .i64 (firstIdx s (Int.toNat c).toUInt8)) H
namespace internal_stringslite_IndexByte
set_option maxRecDepth 100000 in
theorem link {s : ByteArray} {c : Int} {H : Array Obj} {R : Value → Array Obj → Prop} (h : pt s c H R) : C s c H R := by
 refine S_enter (fn := Tryz.f189) (c := kk0) 8 Tryz.func189 (by kernel_rfl) (by kernel_rfl) (Nat.le_of_ble_eq_true (by kernel_rfl)) ?_
 intro w0 Q hQ
 unfold pt at h
 refine T_su [(0, .string s), (1, .int .u8 c)] ?_
 refine T_sr 0 kk1 kk2 ?_
 refine T_ne 1 [(0, .string s), (1, .int .u8 c)] ?_
 refine T_sr 1 kk3 kk4 ?_
 refine T_n 2 [(5, .string s), (6, .int .u8 c)] ?_
 refine T_v (some 7) (callFunc 199 #[.string s, .int .u8 c]) (vi (firstIdx s (Int.toNat c).toUInt8)) (fun w _ => indexByte_run (P := Tryz.prog) (fn := Tryz.f199) Tryz.func199 (by kernel_rfl) (by kernel_rfl) (by kernel_rfl) (by kernel_rfl) s c w) [(7, vi (firstIdx s (Int.toNat c).toUInt8))] ?_
 refine T_ne 1 [(4, vi (firstIdx s (Int.toNat c).toUInt8))] ?_
 refine S_ret (by kernel_rfl) ?_
 show At _ _ _ _ _ (Q .ret)
 exact S_done (fn := Tryz.f189) [vi (firstIdx s (Int.toNat c).toUInt8)] hQ (show ResOK _ _ _ [.tmp 4] _ from .tmp (by kernel_rfl) (.nil)) h
end internal_stringslite_IndexByte

end Go.Proofs.YthlohokmnajpoaaGreatDoor
