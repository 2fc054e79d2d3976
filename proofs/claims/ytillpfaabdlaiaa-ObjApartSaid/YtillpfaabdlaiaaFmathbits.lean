/-
 Written by a program of mine (gen.py): for functions of this translation a predicate transformer over heaps (.pt), and the proof that it is sound for the call (.link).
-/
import Derived.Test.YtillpfaabdlaiaaFnsC
set_option linter.unusedSimpArgs false
set_option linter.unusedVariables false
set_option maxHeartbeats 1000000
noncomputable section
namespace Go.Proofs.Ytillpfaabdlaiaa
open Go
/-! math/bits.Mul -/
namespace math_bits_Mul
def kk0 := Func.code Try.f48
def kk1 := Code.fa kk0
def kk2 := Code.fb kk0
def kk3 := Code.fa kk2
def kk4 := Code.fb kk2
def kk5 := Code.fa kk3
def kk6 := Code.fb kk3
def kk7 := Code.fa kk4
def kk8 := Code.fb kk4
def kk9 := Code.fa kk8
def kk10 := Code.fb kk8
end math_bits_Mul
def math_bits_Mul.pt (x : Int) (y : Int) (H : Array Obj) (R : Value → Array Obj → Prop) : Prop :=
 math_bits_Mul64.C x y H (fun v H1 => ∃ ra : Int, ∃ rb : Int, v = .tuple #[.int .u64 ra, .int .u64 rb] ∧ 
 R (.tuple #[.int .u64 ra, .int .u64 rb]) H1)
namespace math_bits_Mul
set_option maxRecDepth 100000 in
theorem link {x : Int} {y : Int} {H : Array Obj} {R : Value → Array Obj → Prop} (h : pt x y H R) : C x y H R := by
 refine S_enter (fn := Try.f48) (c := kk0) 30 Try.func48 (by kernel_rfl) (by kernel_rfl) (Nat.le_of_ble_eq_true (by kernel_rfl)) ?_
 intro w0 Q hQ
 unfold pt at h
 refine T_su [(0, vu x), (1, vu y)] ?_
 refine T_sr 0 kk1 kk2 ?_
 refine T_ne 2 [(0, vu x), (1, vu y)] ?_
 refine T_s kk3 kk4 ?_
 refine S_condF (.const (.bool false)) kk5 kk6 (by kernel_rfl) (by kernel_rfl) ?_
 refine T_kt ?_
 refine T_sr 3 kk7 kk8 ?_
 refine T_n 2 [(23, vu x), (24, vu y)] ?_
 refine N_call (some 25) 68 #[vu x, vu y] (fun _=>by kernel_rfl) h ?_; clear h
 rintro v H1 ⟨ra, rb, rfl, h⟩
 refine ⟨[(25, .tuple #[vu ra, vu rb])], pk, ?_⟩
 refine T_ne 5 [(8, vu ra), (9, vu rb)] ?_
 refine T_sr 4 kk9 kk10 ?_
 refine T_ne 4 [(4, vu ra), (5, vu rb)] ?_
 refine S_ret (by kernel_rfl) ?_
 show At _ _ _ _ _ (Q .ret)
 exact S_done (fn := Try.f48) [vu ra, vu rb] hQ (show ResOK _ _ _ [.tmp 4, .tmp 5] _ from .tmp (by kernel_rfl) (.tmp (by kernel_rfl) (.nil))) h
end math_bits_Mul

/-! math/bits.Mul32 -/
namespace math_bits_Mul64
def kk0 := Func.code Try.f68
def kk1 := Code.fa kk0
def kk2 := Code.fb kk0
def kk3 := Code.fa kk2
def kk4 := Code.fb kk2
def kk5 := Code.fa kk4
def kk6 := Code.fb kk4
def kk7 := Code.fa kk6
def kk8 := Code.fb kk6
def kk9 := Code.fa kk8
def kk10 := Code.fb kk8
def kk11 := Code.fa kk10
def kk12 := Code.fb kk10
def kk13 := Code.fa kk12
def kk14 := Code.fb kk12
def kk15 := Code.fa kk14
def kk16 := Code.fb kk14
def kk17 := Code.fa kk16
def kk18 := Code.fb kk16
def kk19 := Code.fa kk18
def kk20 := Code.fb kk18
def kk21 := Code.fa kk20
def kk22 := Code.fb kk20
def kk23 := Code.fa kk22
def kk24 := Code.fb kk22
end math_bits_Mul64
def math_bits_Mul64.pt (x : Int) (y : Int) (H : Array Obj) (R : Value → Array Obj → Prop) : Prop :=
 R (.tuple #[.int .u64 (IntKind.wrap .u64 ((IntKind.wrap .u64 ((IntKind.wrap .u64 ((ishr .u64 x 32) * (ishr .u64 y 32))) + (ishr .u64 (IntKind.wrap .u64 ((IntKind.wrap .u64 ((ishr .u64 x 32) * (iand .u64 y 4294967295))) + (ishr .u64 (IntKind.wrap .u64 ((iand .u64 x 4294967295) * (iand .u64 y 4294967295))) 32))) 32))) + (ishr .u64 (IntKind.wrap .u64 ((iand .u64 (IntKind.wrap .u64 ((IntKind.wrap .u64 ((ishr .u64 x 32) * (iand .u64 y 4294967295))) + (ishr .u64 (IntKind.wrap .u64 ((iand .u64 x 4294967295) * (iand .u64 y 4294967295))) 32))) 4294967295) + (IntKind.wrap .u64 ((iand .u64 x 4294967295) * (ishr .u64 y 32))))) 32))), .int .u64 (IntKind.wrap .u64 (x * y))]) H
namespace math_bits_Mul64
set_option maxRecDepth 100000 in
theorem link {x : Int} {y : Int} {H : Array Obj} {R : Value → Array Obj → Prop} (h : pt x y H R) : C x y H R := by
 refine S_enter (fn := Try.f68) (c := kk0) 51 Try.func68 (by kernel_rfl) (by kernel_rfl) (Nat.le_of_ble_eq_true (by kernel_rfl)) ?_
 intro w0 Q hQ
 unfold pt at h
 refine T_su [(0, vu x), (1, vu y)] ?_
 refine T_sr 0 kk1 kk2 ?_
 refine T_ne 2 [(0, vu x), (1, vu y)] ?_
 refine T_sr 1 kk3 kk4 ?_
 refine T_ne 3 [(0, vu x), (1, vu y), (6, vu (iand .u64 x 4294967295))] ?_
 refine T_sr 2 kk5 kk6 ?_
 refine T_ne 3 [(0, vu x), (1, vu y), (6, vu (iand .u64 x 4294967295)), (7, vu (ishr .u64 x 32))] ?_
 refine T_sr 3 kk7 kk8 ?_
 refine T_ne 3 [(0, vu x), (1, vu y), (6, vu (iand .u64 x 4294967295)), (7, vu (ishr .u64 x 32)), (8, vu (iand .u64 y 4294967295))] ?_
 refine T_sr 4 kk9 kk10 ?_
 refine T_ne 3 [(0, vu x), (1, vu y), (6, vu (iand .u64 x 4294967295)), (7, vu (ishr .u64 x 32)), (8, vu (iand .u64 y 4294967295)), (9, vu (ishr .u64 y 32))] ?_
 refine T_sr 5 kk11 kk12 ?_
 refine T_ne 4 [(0, vu x), (1, vu y), (6, vu (iand .u64 x 4294967295)), (7, vu (ishr .u64 x 32)), (8, vu (iand .u64 y 4294967295)), (9, vu (ishr .u64 y 32)), (10, vu (IntKind.wrap .u64 ((iand .u64 x 4294967295) * (iand .u64 y 4294967295))))] ?_
 refine T_sr 6 kk13 kk14 ?_
 refine T_ne 7 [(0, vu x), (1, vu y), (6, vu (iand .u64 x 4294967295)), (7, vu (ishr .u64 x 32)), (9, vu (ishr .u64 y 32)), (11, vu (IntKind.wrap .u64 ((IntKind.wrap .u64 ((ishr .u64 x 32) * (iand .u64 y 4294967295))) + (ishr .u64 (IntKind.wrap .u64 ((iand .u64 x 4294967295) * (iand .u64 y 4294967295))) 32))))] ?_
 refine T_sr 7 kk15 kk16 ?_
 refine T_ne 3 [(0, vu x), (1, vu y), (6, vu (iand .u64 x 4294967295)), (7, vu (ishr .u64 x 32)), (9, vu (ishr .u64 y 32)), (11, vu (IntKind.wrap .u64 ((IntKind.wrap .u64 ((ishr .u64 x 32) * (iand .u64 y 4294967295))) + (ishr .u64 (IntKind.wrap .u64 ((iand .u64 x 4294967295) * (iand .u64 y 4294967295))) 32)))), (12, vu (iand .u64 (IntKind.wrap .u64 ((IntKind.wrap .u64 ((ishr .u64 x 32) * (iand .u64 y 4294967295))) + (ishr .u64 (IntKind.wrap .u64 ((iand .u64 x 4294967295) * (iand .u64 y 4294967295))) 32))) 4294967295))] ?_
 refine T_sr 8 kk17 kk18 ?_
 refine T_ne 3 [(0, vu x), (1, vu y), (6, vu (iand .u64 x 4294967295)), (7, vu (ishr .u64 x 32)), (9, vu (ishr .u64 y 32)), (12, vu (iand .u64 (IntKind.wrap .u64 ((IntKind.wrap .u64 ((ishr .u64 x 32) * (iand .u64 y 4294967295))) + (ishr .u64 (IntKind.wrap .u64 ((iand .u64 x 4294967295) * (iand .u64 y 4294967295))) 32))) 4294967295)), (13, vu (ishr .u64 (IntKind.wrap .u64 ((IntKind.wrap .u64 ((ishr .u64 x 32) * (iand .u64 y 4294967295))) + (ishr .u64 (IntKind.wrap .u64 ((iand .u64 x 4294967295) * (iand .u64 y 4294967295))) 32))) 32))] ?_
 refine T_sr 9 kk19 kk20 ?_
 refine T_ne 6 [(0, vu x), (1, vu y), (7, vu (ishr .u64 x 32)), (9, vu (ishr .u64 y 32)), (12, vu (IntKind.wrap .u64 ((iand .u64 (IntKind.wrap .u64 ((IntKind.wrap .u64 ((ishr .u64 x 32) * (iand .u64 y 4294967295))) + (ishr .u64 (IntKind.wrap .u64 ((iand .u64 x 4294967295) * (iand .u64 y 4294967295))) 32))) 4294967295) + (IntKind.wrap .u64 ((iand .u64 x 4294967295) * (ishr .u64 y 32)))))), (13, vu (ishr .u64 (IntKind.wrap .u64 ((IntKind.wrap .u64 ((ishr .u64 x 32) * (iand .u64 y 4294967295))) + (ishr .u64 (IntKind.wrap .u64 ((iand .u64 x 4294967295) * (iand .u64 y 4294967295))) 32))) 32))] ?_
 refine T_sr 10 kk21 kk22 ?_
 refine T_ne 9 [(0, vu x), (1, vu y), (4, vu (IntKind.wrap .u64 ((IntKind.wrap .u64 ((IntKind.wrap .u64 ((ishr .u64 x 32) * (ishr .u64 y 32))) + (ishr .u64 (IntKind.wrap .u64 ((IntKind.wrap .u64 ((ishr .u64 x 32) * (iand .u64 y 4294967295))) + (ishr .u64 (IntKind.wrap .u64 ((iand .u64 x 4294967295) * (iand .u64 y 4294967295))) 32))) 32))) + (ishr .u64 (IntKind.wrap .u64 ((iand .u64 (IntKind.wrap .u64 ((IntKind.wrap .u64 ((ishr .u64 x 32) * (iand .u64 y 4294967295))) + (ishr .u64 (IntKind.wrap .u64 ((iand .u64 x 4294967295) * (iand .u64 y 4294967295))) 32))) 4294967295) + (IntKind.wrap .u64 ((iand .u64 x 4294967295) * (ishr .u64 y 32))))) 32))))] ?_
 refine T_sr 11 kk23 kk24 ?_
 refine T_ne 4 [(4, vu (IntKind.wrap .u64 ((IntKind.wrap .u64 ((IntKind.wrap .u64 ((ishr .u64 x 32) * (ishr .u64 y 32))) + (ishr .u64 (IntKind.wrap .u64 ((IntKind.wrap .u64 ((ishr .u64 x 32) * (iand .u64 y 4294967295))) + (ishr .u64 (IntKind.wrap .u64 ((iand .u64 x 4294967295) * (iand .u64 y 4294967295))) 32))) 32))) + (ishr .u64 (IntKind.wrap .u64 ((iand .u64 (IntKind.wrap .u64 ((IntKind.wrap .u64 ((ishr .u64 x 32) * (iand .u64 y 4294967295))) + (ishr .u64 (IntKind.wrap .u64 ((iand .u64 x 4294967295) * (iand .u64 y 4294967295))) 32))) 4294967295) + (IntKind.wrap .u64 ((iand .u64 x 4294967295) * (ishr .u64 y 32))))) 32)))), (5, vu (IntKind.wrap .u64 (x * y)))] ?_
 refine S_ret (by kernel_rfl) ?_
 show At _ _ _ _ _ (Q .ret)
 exact S_done (fn := Try.f68) [vu (IntKind.wrap .u64 ((IntKind.wrap .u64 ((IntKind.wrap .u64 ((ishr .u64 x 32) * (ishr .u64 y 32))) + (ishr .u64 (IntKind.wrap .u64 ((IntKind.wrap .u64 ((ishr .u64 x 32) * (iand .u64 y 4294967295))) + (ishr .u64 (IntKind.wrap .u64 ((iand .u64 x 4294967295) * (iand .u64 y 4294967295))) 32))) 32))) + (ishr .u64 (IntKind.wrap .u64 ((iand .u64 (IntKind.wrap .u64 ((IntKind.wrap .u64 ((ishr .u64 x 32) * (iand .u64 y 4294967295))) + (ishr .u64 (IntKind.wrap .u64 ((iand .u64 x 4294967295) * (iand .u64 y 4294967295))) 32))) 4294967295) + (IntKind.wrap .u64 ((iand .u64 x 4294967295) * (ishr .u64 y 32))))) 32))), vu (IntKind.wrap .u64 (x * y))] hQ (show ResOK _ _ _ [.tmp 4, .tmp 5] _ from .tmp (by kernel_rfl) (.tmp (by kernel_rfl) (.nil))) h
end math_bits_Mul64

end Go.Proofs.Ytillpfaabdlaiaa
