/-
  Written by a program of mine (gen.py): for functions of this translation a predicate transformer over heaps (.pt), and the proof that it is sound for the call (.link).
-/
import Derived.Test.YtfohlkiikppefaaFnsC
set_option linter.unusedSimpArgs false
set_option linter.unusedVariables false
set_option maxHeartbeats 1000000
noncomputable section
namespace Go.Proofs.Ytfohlkiikppefaa
open Go
/-! math/bits.Mul -/
namespace math_bits_Mul
def kk0 := Func.code Try.f97
def kk1 := Code.fa kk0
def kk2 := Code.fb kk0
def kk3 := Code.fa kk2
def kk4 := Code.fb kk2
def kk5 := Code.fa kk3
def kk6 := Code.fb kk3
def kk7 := Code.fa kk4
def kk8 := Code.fb kk4
def kk9 := Code.fa kk8
def kk10 := Code.fb kk8
end math_bits_Mul
def math_bits_Mul.pt (x : Int) (y : Int) (H : Array Obj) (R : Value → Array Obj → Prop) : Prop :=
 math_bits_Mul64.C x y H (fun v H1 => ∃ ra : Int, ∃ rb : Int, v = .tuple #[.int .u64 ra, .int .u64 rb] ∧ 
  R (.tuple #[.int .u64 ra, .int .u64 rb]) H1)
namespace math_bits_Mul
set_option maxRecDepth 100000 in
theorem link {x : Int} {y : Int} {H : Array Obj} {R : Value → Array Obj → Prop} (h : pt x y H R) : C x y H R := by
  refine S_enter (fn := Try.f97) (c := kk0) 30 Try.func97 (by kernel_rfl) (by kernel_rfl) (Nat.le_of_ble_eq_true (by kernel_rfl)) ?_
  intro w0 Q hQ
  unfold pt at h
  refine S_sub [(0, .int .u64 x), (1, .int .u64 y)] (sb (by kernel_rfl)) ?_
  refine S_seq kk1 kk2 (by kernel_rfl) ?_
  refine S_region 0 (Code.ops kk1) (by kernel_rfl) ?_
  refine N_run 2 [(0, .int .u64 x), (1, .int .u64 y)] (fun w => by kernel_rfl) ?_
  refine N_end (by kernel_rfl) ?_
  refine S_then ?_
  refine S_seq kk3 kk4 (by kernel_rfl) ?_
  refine S_condF (.const (.bool false)) kk5 kk6 (by kernel_rfl) (by kernel_rfl) ?_
  refine S_skip (by kernel_rfl) ?_
  refine S_then ?_
  refine S_seq kk7 kk8 (by kernel_rfl) ?_
  refine S_region 3 (Code.ops kk7) (by kernel_rfl) ?_
  refine N_run 2 [(23, .int .u64 x), (24, .int .u64 y)] (fun w => by kernel_rfl) ?_
  refine N_call (some 25) 113 #[.int .u64 x, .int .u64 y] (fun w => by kernel_rfl) h ?_; clear h
  rintro v H1 ⟨ra, rb, rfl, h⟩
  refine ⟨[(25, .tuple #[.int .u64 ra, .int .u64 rb])], ps (by kernel_rfl), ?_⟩
  refine N_run 5 [(8, .int .u64 ra), (9, .int .u64 rb)] (fun w => by kernel_rfl) ?_
  refine N_end (by kernel_rfl) ?_
  refine S_then ?_
  refine S_seq kk9 kk10 (by kernel_rfl) ?_
  refine S_region 4 (Code.ops kk9) (by kernel_rfl) ?_
  refine N_run 4 [(4, .int .u64 ra), (5, .int .u64 rb)] (fun w => by kernel_rfl) ?_
  refine N_end (by kernel_rfl) ?_
  refine S_then ?_
  refine S_ret (by kernel_rfl) ?_
  show At _ _ _ _ _ (Q .ret)
  exact S_done (fn := Try.f97) [.int .u64 ra, .int .u64 rb] hQ (show ResOK _ _ _ [.tmp 4, .tmp 5] _ from .tmp (by kernel_rfl) (.tmp (by kernel_rfl) (.nil))) h
end math_bits_Mul

/-! math/bits.Mul32 -/
namespace math_bits_Mul32
def kk0 := Func.code Try.f112
def kk1 := Code.fa kk0
def kk2 := Code.fb kk0
def kk3 := Code.fa kk2
def kk4 := Code.fb kk2
def kk5 := Code.fa kk4
def kk6 := Code.fb kk4
end math_bits_Mul32
def math_bits_Mul32.pt (x : Int) (y : Int) (H : Array Obj) (R : Value → Array Obj → Prop) : Prop :=
 R (.tuple #[.int .u32 (IntKind.wrap .u32 (ishr .u64 (IntKind.wrap .u64 ((IntKind.wrap .u64 x) * (IntKind.wrap .u64 y))) 32)), .int .u32 (IntKind.wrap .u32 (IntKind.wrap .u64 ((IntKind.wrap .u64 x) * (IntKind.wrap .u64 y))))]) H
namespace math_bits_Mul32
set_option maxRecDepth 100000 in
theorem link {x : Int} {y : Int} {H : Array Obj} {R : Value → Array Obj → Prop} (h : pt x y H R) : C x y H R := by
  refine S_enter (fn := Try.f112) (c := kk0) 17 Try.func112 (by kernel_rfl) (by kernel_rfl) (Nat.le_of_ble_eq_true (by kernel_rfl)) ?_
  intro w0 Q hQ
  unfold pt at h
  refine S_sub [(0, .int .u32 x), (1, .int .u32 y)] (sb (by kernel_rfl)) ?_
  refine S_seq kk1 kk2 (by kernel_rfl) ?_
  refine S_region 0 (Code.ops kk1) (by kernel_rfl) ?_
  refine N_run 2 [(0, .int .u32 x), (1, .int .u32 y)] (fun w => by kernel_rfl) ?_
  refine N_end (by kernel_rfl) ?_
  refine S_then ?_
  refine S_seq kk3 kk4 (by kernel_rfl) ?_
  refine S_region 1 (Code.ops kk3) (by kernel_rfl) ?_
  refine N_run 6 [(6, .int .u64 (IntKind.wrap .u64 ((IntKind.wrap .u64 x) * (IntKind.wrap .u64 y))))] (fun w => by kernel_rfl) ?_
  refine N_end (by kernel_rfl) ?_
  refine S_then ?_
  refine S_seq kk5 kk6 (by kernel_rfl) ?_
  refine S_region 2 (Code.ops kk5) (by kernel_rfl) ?_
  refine N_run 7 [(4, .int .u32 (IntKind.wrap .u32 (ishr .u64 (IntKind.wrap .u64 ((IntKind.wrap .u64 x) * (IntKind.wrap .u64 y))) 32))), (5, .int .u32 (IntKind.wrap .u32 (IntKind.wrap .u64 ((IntKind.wrap .u64 x) * (IntKind.wrap .u64 y)))))] (fun w => by kernel_rfl) ?_
  refine N_end (by kernel_rfl) ?_
  refine S_then ?_
  refine S_ret (by kernel_rfl) ?_
  show At _ _ _ _ _ (Q .ret)
  exact S_done (fn := Try.f112) [.int .u32 (IntKind.wrap .u32 (ishr .u64 (IntKind.wrap .u64 ((IntKind.wrap .u64 x) * (IntKind.wrap .u64 y))) 32)), .int .u32 (IntKind.wrap .u32 (IntKind.wrap .u64 ((IntKind.wrap .u64 x) * (IntKind.wrap .u64 y))))] hQ (show ResOK _ _ _ [.tmp 4, .tmp 5] _ from .tmp (by kernel_rfl) (.tmp (by kernel_rfl) (.nil))) h
end math_bits_Mul32

/-! math/bits.Mul64 -/
namespace math_bits_Mul64
def kk0 := Func.code Try.f113
def kk1 := Code.fa kk0
def kk2 := Code.fb kk0
def kk3 := Code.fa kk2
def kk4 := Code.fb kk2
def kk5 := Code.fa kk4
def kk6 := Code.fb kk4
def kk7 := Code.fa kk6
def kk8 := Code.fb kk6
def kk9 := Code.fa kk8
def kk10 := Code.fb kk8
def kk11 := Code.fa kk10
def kk12 := Code.fb kk10
def kk13 := Code.fa kk12
def kk14 := Code.fb kk12
def kk15 := Code.fa kk14
def kk16 := Code.fb kk14
def kk17 := Code.fa kk16
def kk18 := Code.fb kk16
def kk19 := Code.fa kk18
def kk20 := Code.fb kk18
def kk21 := Code.fa kk20
def kk22 := Code.fb kk20
def kk23 := Code.fa kk22
def kk24 := Code.fb kk22
end math_bits_Mul64
def math_bits_Mul64.pt (x : Int) (y : Int) (H : Array Obj) (R : Value → Array Obj → Prop) : Prop :=
 R (.tuple #[.int .u64 (IntKind.wrap .u64 ((IntKind.wrap .u64 ((IntKind.wrap .u64 ((ishr .u64 x 32) * (ishr .u64 y 32))) + (ishr .u64 (IntKind.wrap .u64 ((IntKind.wrap .u64 ((ishr .u64 x 32) * (iand .u64 y 4294967295))) + (ishr .u64 (IntKind.wrap .u64 ((iand .u64 x 4294967295) * (iand .u64 y 4294967295))) 32))) 32))) + (ishr .u64 (IntKind.wrap .u64 ((iand .u64 (IntKind.wrap .u64 ((IntKind.wrap .u64 ((ishr .u64 x 32) * (iand .u64 y 4294967295))) + (ishr .u64 (IntKind.wrap .u64 ((iand .u64 x 4294967295) * (iand .u64 y 4294967295))) 32))) 4294967295) + (IntKind.wrap .u64 ((iand .u64 x 4294967295) * (ishr .u64 y 32))))) 32))), .int .u64 (IntKind.wrap .u64 (x * y))]) H
namespace math_bits_Mul64
set_option maxRecDepth 100000 in
theorem link {x : Int} {y : Int} {H : Array Obj} {R : Value → Array Obj → Prop} (h : pt x y H R) : C x y H R := by
  refine S_enter (fn := Try.f113) (c := kk0) 51 Try.func113 (by kernel_rfl) (by kernel_rfl) (Nat.le_of_ble_eq_true (by kernel_rfl)) ?_
  intro w0 Q hQ
  unfold pt at h
  refine S_sub [(0, .int .u64 x), (1, .int .u64 y)] (sb (by kernel_rfl)) ?_
  refine S_seq kk1 kk2 (by kernel_rfl) ?_
  refine S_region 0 (Code.ops kk1) (by kernel_rfl) ?_
  refine N_run 2 [(0, .int .u64 x), (1, .int .u64 y)] (fun w => by kernel_rfl) ?_
  refine N_end (by kernel_rfl) ?_
  refine S_then ?_
  refine S_seq kk3 kk4 (by kernel_rfl) ?_
  refine S_region 1 (Code.ops kk3) (by kernel_rfl) ?_
  refine N_run 3 [(0, .int .u64 x), (1, .int .u64 y), (6, .int .u64 (iand .u64 x 4294967295))] (fun w => by kernel_rfl) ?_
  refine N_end (by kernel_rfl) ?_
  refine S_then ?_
  refine S_seq kk5 kk6 (by kernel_rfl) ?_
  refine S_region 2 (Code.ops kk5) (by kernel_rfl) ?_
  refine N_run 3 [(0, .int .u64 x), (1, .int .u64 y), (6, .int .u64 (iand .u64 x 4294967295)), (7, .int .u64 (ishr .u64 x 32))] (fun w => by kernel_rfl) ?_
  refine N_end (by kernel_rfl) ?_
  refine S_then ?_
  refine S_seq kk7 kk8 (by kernel_rfl) ?_
  refine S_region 3 (Code.ops kk7) (by kernel_rfl) ?_
  refine N_run 3 [(0, .int .u64 x), (1, .int .u64 y), (6, .int .u64 (iand .u64 x 4294967295)), (7, .int .u64 (ishr .u64 x 32)), (8, .int .u64 (iand .u64 y 4294967295))] (fun w => by kernel_rfl) ?_
  refine N_end (by kernel_rfl) ?_
  refine S_then ?_
  refine S_seq kk9 kk10 (by kernel_rfl) ?_
  refine S_region 4 (Code.ops kk9) (by kernel_rfl) ?_
  refine N_run 3 [(0, .int .u64 x), (1, .int .u64 y), (6, .int .u64 (iand .u64 x 4294967295)), (7, .int .u64 (ishr .u64 x 32)), (8, .int .u64 (iand .u64 y 4294967295)), (9, .int .u64 (ishr .u64 y 32))] (fun w => by kernel_rfl) ?_
  refine N_end (by kernel_rfl) ?_
  refine S_then ?_
  refine S_seq kk11 kk12 (by kernel_rfl) ?_
  refine S_region 5 (Code.ops kk11) (by kernel_rfl) ?_
  refine N_run 4 [(0, .int .u64 x), (1, .int .u64 y), (6, .int .u64 (iand .u64 x 4294967295)), (7, .int .u64 (ishr .u64 x 32)), (8, .int .u64 (iand .u64 y 4294967295)), (9, .int .u64 (ishr .u64 y 32)), (10, .int .u64 (IntKind.wrap .u64 ((iand .u64 x 4294967295) * (iand .u64 y 4294967295))))] (fun w => by kernel_rfl) ?_
  refine N_end (by kernel_rfl) ?_
  refine S_then ?_
  refine S_seq kk13 kk14 (by kernel_rfl) ?_
  refine S_region 6 (Code.ops kk13) (by kernel_rfl) ?_
  refine N_run 7 [(0, .int .u64 x), (1, .int .u64 y), (6, .int .u64 (iand .u64 x 4294967295)), (7, .int .u64 (ishr .u64 x 32)), (9, .int .u64 (ishr .u64 y 32)), (11, .int .u64 (IntKind.wrap .u64 ((IntKind.wrap .u64 ((ishr .u64 x 32) * (iand .u64 y 4294967295))) + (ishr .u64 (IntKind.wrap .u64 ((iand .u64 x 4294967295) * (iand .u64 y 4294967295))) 32))))] (fun w => by kernel_rfl) ?_
  refine N_end (by kernel_rfl) ?_
  refine S_then ?_
  refine S_seq kk15 kk16 (by kernel_rfl) ?_
  refine S_region 7 (Code.ops kk15) (by kernel_rfl) ?_
  refine N_run 3 [(0, .int .u64 x), (1, .int .u64 y), (6, .int .u64 (iand .u64 x 4294967295)), (7, .int .u64 (ishr .u64 x 32)), (9, .int .u64 (ishr .u64 y 32)), (11, .int .u64 (IntKind.wrap .u64 ((IntKind.wrap .u64 ((ishr .u64 x 32) * (iand .u64 y 4294967295))) + (ishr .u64 (IntKind.wrap .u64 ((iand .u64 x 4294967295) * (iand .u64 y 4294967295))) 32)))), (12, .int .u64 (iand .u64 (IntKind.wrap .u64 ((IntKind.wrap .u64 ((ishr .u64 x 32) * (iand .u64 y 4294967295))) + (ishr .u64 (IntKind.wrap .u64 ((iand .u64 x 4294967295) * (iand .u64 y 4294967295))) 32))) 4294967295))] (fun w => by kernel_rfl) ?_
  refine N_end (by kernel_rfl) ?_
  refine S_then ?_
  refine S_seq kk17 kk18 (by kernel_rfl) ?_
  refine S_region 8 (Code.ops kk17) (by kernel_rfl) ?_
  refine N_run 3 [(0, .int .u64 x), (1, .int .u64 y), (6, .int .u64 (iand .u64 x 4294967295)), (7, .int .u64 (ishr .u64 x 32)), (9, .int .u64 (ishr .u64 y 32)), (12, .int .u64 (iand .u64 (IntKind.wrap .u64 ((IntKind.wrap .u64 ((ishr .u64 x 32) * (iand .u64 y 4294967295))) + (ishr .u64 (IntKind.wrap .u64 ((iand .u64 x 4294967295) * (iand .u64 y 4294967295))) 32))) 4294967295)), (13, .int .u64 (ishr .u64 (IntKind.wrap .u64 ((IntKind.wrap .u64 ((ishr .u64 x 32) * (iand .u64 y 4294967295))) + (ishr .u64 (IntKind.wrap .u64 ((iand .u64 x 4294967295) * (iand .u64 y 4294967295))) 32))) 32))] (fun w => by kernel_rfl) ?_
  refine N_end (by kernel_rfl) ?_
  refine S_then ?_
  refine S_seq kk19 kk20 (by kernel_rfl) ?_
  refine S_region 9 (Code.ops kk19) (by kernel_rfl) ?_
  refine N_run 6 [(0, .int .u64 x), (1, .int .u64 y), (7, .int .u64 (ishr .u64 x 32)), (9, .int .u64 (ishr .u64 y 32)), (12, .int .u64 (IntKind.wrap .u64 ((iand .u64 (IntKind.wrap .u64 ((IntKind.wrap .u64 ((ishr .u64 x 32) * (iand .u64 y 4294967295))) + (ishr .u64 (IntKind.wrap .u64 ((iand .u64 x 4294967295) * (iand .u64 y 4294967295))) 32))) 4294967295) + (IntKind.wrap .u64 ((iand .u64 x 4294967295) * (ishr .u64 y 32)))))), (13, .int .u64 (ishr .u64 (IntKind.wrap .u64 ((IntKind.wrap .u64 ((ishr .u64 x 32) * (iand .u64 y 4294967295))) + (ishr .u64 (IntKind.wrap .u64 ((iand .u64 x 4294967295) * (iand .u64 y 4294967295))) 32))) 32))] (fun w => by kernel_rfl) ?_
  refine N_end (by kernel_rfl) ?_
  refine S_then ?_
  refine S_seq kk21 kk22 (by kernel_rfl) ?_
  refine S_region 10 (Code.ops kk21) (by kernel_rfl) ?_
  refine N_run 9 [(0, .int .u64 x), (1, .int .u64 y), (4, .int .u64 (IntKind.wrap .u64 ((IntKind.wrap .u64 ((IntKind.wrap .u64 ((ishr .u64 x 32) * (ishr .u64 y 32))) + (ishr .u64 (IntKind.wrap .u64 ((IntKind.wrap .u64 ((ishr .u64 x 32) * (iand .u64 y 4294967295))) + (ishr .u64 (IntKind.wrap .u64 ((iand .u64 x 4294967295) * (iand .u64 y 4294967295))) 32))) 32))) + (ishr .u64 (IntKind.wrap .u64 ((iand .u64 (IntKind.wrap .u64 ((IntKind.wrap .u64 ((ishr .u64 x 32) * (iand .u64 y 4294967295))) + (ishr .u64 (IntKind.wrap .u64 ((iand .u64 x 4294967295) * (iand .u64 y 4294967295))) 32))) 4294967295) + (IntKind.wrap .u64 ((iand .u64 x 4294967295) * (ishr .u64 y 32))))) 32))))] (fun w => by kernel_rfl) ?_
  refine N_end (by kernel_rfl) ?_
  refine S_then ?_
  refine S_seq kk23 kk24 (by kernel_rfl) ?_
  refine S_region 11 (Code.ops kk23) (by kernel_rfl) ?_
  refine N_run 4 [(4, .int .u64 (IntKind.wrap .u64 ((IntKind.wrap .u64 ((IntKind.wrap .u64 ((ishr .u64 x 32) * (ishr .u64 y 32))) + (ishr .u64 (IntKind.wrap .u64 ((IntKind.wrap .u64 ((ishr .u64 x 32) * (iand .u64 y 4294967295))) + (ishr .u64 (IntKind.wrap .u64 ((iand .u64 x 4294967295) * (iand .u64 y 4294967295))) 32))) 32))) + (ishr .u64 (IntKind.wrap .u64 ((iand .u64 (IntKind.wrap .u64 ((IntKind.wrap .u64 ((ishr .u64 x 32) * (iand .u64 y 4294967295))) + (ishr .u64 (IntKind.wrap .u64 ((iand .u64 x 4294967295) * (iand .u64 y 4294967295))) 32))) 4294967295) + (IntKind.wrap .u64 ((iand .u64 x 4294967295) * (ishr .u64 y 32))))) 32)))), (5, .int .u64 (IntKind.wrap .u64 (x * y)))] (fun w => by kernel_rfl) ?_
  refine N_end (by kernel_rfl) ?_
  refine S_then ?_
  refine S_ret (by kernel_rfl) ?_
  show At _ _ _ _ _ (Q .ret)
  exact S_done (fn := Try.f113) [.int .u64 (IntKind.wrap .u64 ((IntKind.wrap .u64 ((IntKind.wrap .u64 ((ishr .u64 x 32) * (ishr .u64 y 32))) + (ishr .u64 (IntKind.wrap .u64 ((IntKind.wrap .u64 ((ishr .u64 x 32) * (iand .u64 y 4294967295))) + (ishr .u64 (IntKind.wrap .u64 ((iand .u64 x 4294967295) * (iand .u64 y 4294967295))) 32))) 32))) + (ishr .u64 (IntKind.wrap .u64 ((iand .u64 (IntKind.wrap .u64 ((IntKind.wrap .u64 ((ishr .u64 x 32) * (iand .u64 y 4294967295))) + (ishr .u64 (IntKind.wrap .u64 ((iand .u64 x 4294967295) * (iand .u64 y 4294967295))) 32))) 4294967295) + (IntKind.wrap .u64 ((iand .u64 x 4294967295) * (ishr .u64 y 32))))) 32))), .int .u64 (IntKind.wrap .u64 (x * y))] hQ (show ResOK _ _ _ [.tmp 4, .tmp 5] _ from .tmp (by kernel_rfl) (.tmp (by kernel_rfl) (.nil))) h
end math_bits_Mul64

end Go.Proofs.Ytfohlkiikppefaa
