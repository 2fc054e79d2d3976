/-
  Written by a program of mine (gen.py): for functions of this translation a predicate transformer over heaps (.pt), and the proof that it is sound for the call (.link).
-/
import Derived.Test.YtgofbcapgikboaaFnsC
set_option linter.unusedSimpArgs false
set_option linter.unusedVariables false
namespace Go.Proofs.Ytgofbcapgikboaa
open Go
/-! moraine/moraineref01.Of -/
noncomputable def moraineref01_Of.k0 : Code := Func.code Try.f19
noncomputable def moraineref01_Of.k1 : Code := Code.fa moraineref01_Of.k0
noncomputable def moraineref01_Of.k2 : Code := Code.fb moraineref01_Of.k0
noncomputable def moraineref01_Of.k3 : Code := Code.fa moraineref01_Of.k2
noncomputable def moraineref01_Of.k4 : Code := Code.fb moraineref01_Of.k2
noncomputable def moraineref01_Of.k5 : Code := Code.fa moraineref01_Of.k4
noncomputable def moraineref01_Of.k6 : Code := Code.fb moraineref01_Of.k4
noncomputable def moraineref01_Of.k7 : Code := Code.fa moraineref01_Of.k6
noncomputable def moraineref01_Of.k8 : Code := Code.fb moraineref01_Of.k6
noncomputable def moraineref01_Of.k9 : Code := Code.fa moraineref01_Of.k8
noncomputable def moraineref01_Of.k10 : Code := Code.fb moraineref01_Of.k8
noncomputable def moraineref01_Of.k11 : Code := Code.fa moraineref01_Of.k9
noncomputable def moraineref01_Of.k12 : Code := Code.fb moraineref01_Of.k9
noncomputable def moraineref01_Of.k13 : Code := Code.fa moraineref01_Of.k12
noncomputable def moraineref01_Of.k14 : Code := Code.fa moraineref01_Of.k13
noncomputable def moraineref01_Of.k15 : Code := Code.fb moraineref01_Of.k13
noncomputable def moraineref01_Of.k16 : Code := Code.fa moraineref01_Of.k15
noncomputable def moraineref01_Of.k17 : Code := Code.fb moraineref01_Of.k15
noncomputable def moraineref01_Of.k18 : Code := Code.fa moraineref01_Of.k16
noncomputable def moraineref01_Of.k19 : Code := Code.fb moraineref01_Of.k16
noncomputable def moraineref01_Of.k20 : Code := Code.fa moraineref01_Of.k18
noncomputable def moraineref01_Of.k21 : Code := Code.fb moraineref01_Of.k18
noncomputable def moraineref01_Of.k22 : Code := Code.fa moraineref01_Of.k21
noncomputable def moraineref01_Of.k23 : Code := Code.fb moraineref01_Of.k21
noncomputable def moraineref01_Of.k24 : Code := Code.fa moraineref01_Of.k22
noncomputable def moraineref01_Of.k25 : Code := Code.fb moraineref01_Of.k22
noncomputable def moraineref01_Of.k26 : Code := Code.fa moraineref01_Of.k19
noncomputable def moraineref01_Of.k27 : Code := Code.fb moraineref01_Of.k19
noncomputable def moraineref01_Of.k28 : Code := Code.fa moraineref01_Of.k17
noncomputable def moraineref01_Of.k29 : Code := Code.fb moraineref01_Of.k17
noncomputable def moraineref01_Of.k30 : Code := Code.fa moraineref01_Of.k28
noncomputable def moraineref01_Of.k31 : Code := Code.fb moraineref01_Of.k28
noncomputable def moraineref01_Of.k32 : Code := Code.fa moraineref01_Of.k31
noncomputable def moraineref01_Of.k33 : Code := Code.fb moraineref01_Of.k31
noncomputable def moraineref01_Of.k34 : Code := Code.fa moraineref01_Of.k29
noncomputable def moraineref01_Of.k35 : Code := Code.fb moraineref01_Of.k29
noncomputable def moraineref01_Of.k36 : Code := Code.fa moraineref01_Of.k34
noncomputable def moraineref01_Of.k37 : Code := Code.fb moraineref01_Of.k34
noncomputable def moraineref01_Of.k38 : Code := Code.fa moraineref01_Of.k37
noncomputable def moraineref01_Of.k39 : Code := Code.fb moraineref01_Of.k37
noncomputable def moraineref01_Of.k40 : Code := Code.fa moraineref01_Of.k38
noncomputable def moraineref01_Of.k41 : Code := Code.fb moraineref01_Of.k38
noncomputable def moraineref01_Of.k42 : Code := Code.fa moraineref01_Of.k10
noncomputable def moraineref01_Of.k43 : Code := Code.fb moraineref01_Of.k10
noncomputable def moraineref01_Of.k44 : Code := Code.fa moraineref01_Of.k35
noncomputable def moraineref01_Of.k45 : Code := Code.fb moraineref01_Of.k35
noncomputable def moraineref01_Of.k46 : Code := Code.fa moraineref01_Of.k45
noncomputable def moraineref01_Of.k47 : Code := Code.fb moraineref01_Of.k45
noncomputable def moraineref01_Of.k48 : Code := Code.fa moraineref01_Of.k46
noncomputable def moraineref01_Of.k49 : Code := Code.fb moraineref01_Of.k46
noncomputable def moraineref01_Of.k50 : Code := Code.fa moraineref01_Of.k48
noncomputable def moraineref01_Of.k51 : Code := Code.fb moraineref01_Of.k48
noncomputable def moraineref01_Of.k52 : Code := Code.fa moraineref01_Of.k51
noncomputable def moraineref01_Of.k53 : Code := Code.fb moraineref01_Of.k51
noncomputable def moraineref01_Of.k54 : Code := Code.fa moraineref01_Of.k52
noncomputable def moraineref01_Of.k55 : Code := Code.fb moraineref01_Of.k52
noncomputable def moraineref01_Of.k56 : Code := Code.fa moraineref01_Of.k49
noncomputable def moraineref01_Of.k57 : Code := Code.fb moraineref01_Of.k49
noncomputable def moraineref01_Of.k58 : Code := Code.fa moraineref01_Of.k57
noncomputable def moraineref01_Of.k59 : Code := Code.fb moraineref01_Of.k57
noncomputable def moraineref01_Of.k60 : Code := Code.fa moraineref01_Of.k58
noncomputable def moraineref01_Of.k61 : Code := Code.fb moraineref01_Of.k58
noncomputable def moraineref01_Of.k62 : Code := Code.fa moraineref01_Of.k47
noncomputable def moraineref01_Of.k63 : Code := Code.fb moraineref01_Of.k47
noncomputable def moraineref01_Of.k64 : Code := Code.fa moraineref01_Of.k63
noncomputable def moraineref01_Of.k65 : Code := Code.fb moraineref01_Of.k63
noncomputable def moraineref01_Of.k66 : Code := Code.fa moraineref01_Of.k64
noncomputable def moraineref01_Of.k67 : Code := Code.fb moraineref01_Of.k64
noncomputable def moraineref01_Of.k68 : Code := Code.fa moraineref01_Of.k67
noncomputable def moraineref01_Of.k69 : Code := Code.fb moraineref01_Of.k67
noncomputable def moraineref01_Of.k70 : Code := Code.fa moraineref01_Of.k69
noncomputable def moraineref01_Of.k71 : Code := Code.fb moraineref01_Of.k69
noncomputable def moraineref01_Of.k72 : Code := Code.fa moraineref01_Of.k70
noncomputable def moraineref01_Of.k73 : Code := Code.fb moraineref01_Of.k70
noncomputable def moraineref01_Of.k74 : Code := Code.fa moraineref01_Of.k33
noncomputable def moraineref01_Of.k75 : Code := Code.fb moraineref01_Of.k33
noncomputable def moraineref01_Of.k76 : Code := Code.fa moraineref01_Of.k75
noncomputable def moraineref01_Of.k77 : Code := Code.fb moraineref01_Of.k75
noncomputable def moraineref01_Of.k78 : Code := Code.fa moraineref01_Of.k77
noncomputable def moraineref01_Of.k79 : Code := Code.fb moraineref01_Of.k77
noncomputable def moraineref01_Of.k80 : Code := Code.fa moraineref01_Of.k79
noncomputable def moraineref01_Of.k81 : Code := Code.fb moraineref01_Of.k79
def moraineref01_Of.pt (wv : Int) (H : Array Obj) (R : Value → Array Obj → Prop) : Prop :=
 ∀ (b : Nat) (H1 : Array Obj), b = H.size → H1 = H.push (.cells #[.int .i64 0, .int .i64 0, .int .i64 0, .int .i64 0, .int .u64 0] 30) →
 if (IntKind.wrap .i64 (Int.tmod wv 8)) = 0 then (
  moraineref01_power.C 60 H1 (fun v H2 => ∃ x : Int, v = .int .u64 x ∧ 
   if (IntKind.wrap .u64 (Int.tdiv wv 8)) ≥ x then (
    moraineref01_power.C 61 H2 (fun v_2 H3 => ∃ x_2 : Int, v_2 = .int .u64 x_2 ∧ 
     CanPuts H3 (Addr.mk b 0 none) 0 5 ∧ ∀ H4 : Array Obj, H4 = hputs H3 (Addr.mk b 0 none) [.int .i64 1, .int .i64 0, .int .i64 0, .int .i64 (IntKind.wrap .i64 (0 - (IntKind.wrap .i64 (IntKind.wrap .u64 (x_2 - (IntKind.wrap .u64 (Int.tdiv wv 8))))))), .int .u64 0] 0 →
     ∃ rKind : Int, ∃ rTag : Int, ∃ rA : Int, ∃ rX : Int, ∃ rMore : Int, RowAt H4 (Addr.mk b 0 none) 0 [.int .i64 rKind, .int .i64 rTag, .int .i64 rA, .int .i64 rX, .int .u64 rMore] ∧
     R (.agg #[.int .i64 rKind, .int .i64 rTag, .int .i64 rA, .int .i64 rX, .int .u64 rMore]) H4))
   else
   CanPuts H2 (Addr.mk b 0 none) 0 5 ∧ ∀ H5 : Array Obj, H5 = hputs H2 (Addr.mk b 0 none) [.int .i64 1, .int .i64 0, .int .i64 0, .int .i64 (IntKind.wrap .i64 (IntKind.wrap .u64 (Int.tdiv wv 8))), .int .u64 0] 0 →
   ∃ rKind_2 : Int, ∃ rTag_2 : Int, ∃ rA_2 : Int, ∃ rX_2 : Int, ∃ rMore_2 : Int, RowAt H5 (Addr.mk b 0 none) 0 [.int .i64 rKind_2, .int .i64 rTag_2, .int .i64 rA_2, .int .i64 rX_2, .int .u64 rMore_2] ∧
   R (.agg #[.int .i64 rKind_2, .int .i64 rTag_2, .int .i64 rA_2, .int .i64 rX_2, .int .u64 rMore_2]) H5))
 else
 ∃ J : Bool → Array Obj → Prop, (
  if (IntKind.wrap .i64 (Int.tmod wv 8)) = 1 then (
   J true H1)
  else
  if (IntKind.wrap .i64 (Int.tmod wv 8)) = 2 then (
   J true H1)
  else
  if (IntKind.wrap .i64 (Int.tmod wv 8)) = 3 then (
   J true H1)
  else
  J ((IntKind.wrap .i64 (Int.tmod wv 8)) == 6) H1) ∧ ∀ (s35 : Bool) (H6 : Array Obj), J s35 H6 →
 if s35 = true then (
  if (IntKind.wrap .u64 (Int.tdiv wv 8)) < 65536 then (
   CanPuts H6 (Addr.mk b 0 none) 0 5 ∧ ∀ H7 : Array Obj, H7 = hputs H6 (Addr.mk b 0 none) [.int .i64 2, .int .i64 (IntKind.wrap .i64 (Int.tmod wv 8)), .int .i64 (IntKind.wrap .i64 (IntKind.wrap .u64 (Int.tdiv wv 8))), .int .i64 0, .int .u64 0] 0 →
   ∃ rKind_3 : Int, ∃ rTag_3 : Int, ∃ rA_3 : Int, ∃ rX_3 : Int, ∃ rMore_3 : Int, RowAt H7 (Addr.mk b 0 none) 0 [.int .i64 rKind_3, .int .i64 rTag_3, .int .i64 rA_3, .int .i64 rX_3, .int .u64 rMore_3] ∧
   R (.agg #[.int .i64 rKind_3, .int .i64 rTag_3, .int .i64 rA_3, .int .i64 rX_3, .int .u64 rMore_3]) H7)
  else
  CanPuts H6 (Addr.mk b 0 none) 0 5 ∧ ∀ H8 : Array Obj, H8 = hputs H6 (Addr.mk b 0 none) [.int .i64 0, .int .i64 0, .int .i64 0, .int .i64 0, .int .u64 0] 0 →
  ∃ rKind_4 : Int, ∃ rTag_4 : Int, ∃ rA_4 : Int, ∃ rX_4 : Int, ∃ rMore_4 : Int, RowAt H8 (Addr.mk b 0 none) 0 [.int .i64 rKind_4, .int .i64 rTag_4, .int .i64 rA_4, .int .i64 rX_4, .int .u64 rMore_4] ∧
  R (.agg #[.int .i64 rKind_4, .int .i64 rTag_4, .int .i64 rA_4, .int .i64 rX_4, .int .u64 rMore_4]) H8)
 else
 if (IntKind.wrap .i64 (Int.tmod wv 8)) = 4 then (
  if ((decide ((IntKind.wrap .i64 (Int.tmod (IntKind.wrap .u64 (Int.tdiv wv 8)) 32)) < 7)) && ((IntKind.wrap .u64 (Int.tdiv (IntKind.wrap .u64 (Int.tdiv wv 8)) 32)) == 0)) = true then (
   CanPuts H6 (Addr.mk b 0 none) 0 5 ∧ ∀ H9 : Array Obj, H9 = hputs H6 (Addr.mk b 0 none) [.int .i64 3, .int .i64 0, .int .i64 (IntKind.wrap .i64 (Int.tmod (IntKind.wrap .u64 (Int.tdiv wv 8)) 32)), .int .i64 0, .int .u64 0] 0 →
   ∃ rKind_5 : Int, ∃ rTag_5 : Int, ∃ rA_5 : Int, ∃ rX_5 : Int, ∃ rMore_5 : Int, RowAt H9 (Addr.mk b 0 none) 0 [.int .i64 rKind_5, .int .i64 rTag_5, .int .i64 rA_5, .int .i64 rX_5, .int .u64 rMore_5] ∧
   R (.agg #[.int .i64 rKind_5, .int .i64 rTag_5, .int .i64 rA_5, .int .i64 rX_5, .int .u64 rMore_5]) H9)
  else
  if ((((IntKind.wrap .i64 (Int.tmod (IntKind.wrap .u64 (Int.tdiv wv 8)) 32)) == 7) && (decide ((IntKind.wrap .u64 (Int.tdiv (IntKind.wrap .u64 (Int.tdiv wv 8)) 32)) ≤ 1114111))) && ((decide ((IntKind.wrap .u64 (Int.tdiv (IntKind.wrap .u64 (Int.tdiv wv 8)) 32)) < 55296)) || (decide ((IntKind.wrap .u64 (Int.tdiv (IntKind.wrap .u64 (Int.tdiv wv 8)) 32)) > 57343)))) = true then (
   CanPuts H6 (Addr.mk b 0 none) 0 5 ∧ ∀ H10 : Array Obj, H10 = hputs H6 (Addr.mk b 0 none) [.int .i64 4, .int .i64 0, .int .i64 (IntKind.wrap .i64 (IntKind.wrap .u64 (Int.tdiv (IntKind.wrap .u64 (Int.tdiv wv 8)) 32))), .int .i64 0, .int .u64 0] 0 →
   ∃ rKind_6 : Int, ∃ rTag_6 : Int, ∃ rA_6 : Int, ∃ rX_6 : Int, ∃ rMore_6 : Int, RowAt H10 (Addr.mk b 0 none) 0 [.int .i64 rKind_6, .int .i64 rTag_6, .int .i64 rA_6, .int .i64 rX_6, .int .u64 rMore_6] ∧
   R (.agg #[.int .i64 rKind_6, .int .i64 rTag_6, .int .i64 rA_6, .int .i64 rX_6, .int .u64 rMore_6]) H10)
  else
  CanPuts H6 (Addr.mk b 0 none) 0 5 ∧ ∀ H11 : Array Obj, H11 = hputs H6 (Addr.mk b 0 none) [.int .i64 0, .int .i64 0, .int .i64 0, .int .i64 0, .int .u64 0] 0 →
  ∃ rKind_7 : Int, ∃ rTag_7 : Int, ∃ rA_7 : Int, ∃ rX_7 : Int, ∃ rMore_7 : Int, RowAt H11 (Addr.mk b 0 none) 0 [.int .i64 rKind_7, .int .i64 rTag_7, .int .i64 rA_7, .int .i64 rX_7, .int .u64 rMore_7] ∧
  R (.agg #[.int .i64 rKind_7, .int .i64 rTag_7, .int .i64 rA_7, .int .i64 rX_7, .int .u64 rMore_7]) H11)
 else
 if (IntKind.wrap .i64 (Int.tmod wv 8)) = 5 then (
  if (((decide ((IntKind.wrap .i64 (Int.tmod (IntKind.wrap .u64 (Int.tdiv wv 8)) 32)) ≥ 1)) && (decide ((IntKind.wrap .i64 (Int.tmod (IntKind.wrap .u64 (Int.tdiv wv 8)) 32)) ≤ 13))) && (decide ((IntKind.wrap .i64 (Int.tmod (IntKind.wrap .u64 (Int.tdiv (IntKind.wrap .u64 (Int.tdiv wv 8)) 32)) 256)) ≤ 62))) = true then (
   CanPuts H6 (Addr.mk b 0 none) 0 5 ∧ ∀ H12 : Array Obj, H12 = hputs H6 (Addr.mk b 0 none) [.int .i64 5, .int .i64 (IntKind.wrap .i64 (Int.tmod (IntKind.wrap .u64 (Int.tdiv wv 8)) 32)), .int .i64 (IntKind.wrap .i64 (Int.tmod (IntKind.wrap .u64 (Int.tdiv (IntKind.wrap .u64 (Int.tdiv wv 8)) 32)) 256)), .int .i64 0, .int .u64 (IntKind.wrap .u64 (Int.tdiv (IntKind.wrap .u64 (Int.tdiv (IntKind.wrap .u64 (Int.tdiv wv 8)) 32)) 256))] 0 →
   ∃ rKind_8 : Int, ∃ rTag_8 : Int, ∃ rA_8 : Int, ∃ rX_8 : Int, ∃ rMore_8 : Int, RowAt H12 (Addr.mk b 0 none) 0 [.int .i64 rKind_8, .int .i64 rTag_8, .int .i64 rA_8, .int .i64 rX_8, .int .u64 rMore_8] ∧
   R (.agg #[.int .i64 rKind_8, .int .i64 rTag_8, .int .i64 rA_8, .int .i64 rX_8, .int .u64 rMore_8]) H12)
  else
  CanPuts H6 (Addr.mk b 0 none) 0 5 ∧ ∀ H13 : Array Obj, H13 = hputs H6 (Addr.mk b 0 none) [.int .i64 0, .int .i64 0, .int .i64 0, .int .i64 0, .int .u64 0] 0 →
  ∃ rKind_9 : Int, ∃ rTag_9 : Int, ∃ rA_9 : Int, ∃ rX_9 : Int, ∃ rMore_9 : Int, RowAt H13 (Addr.mk b 0 none) 0 [.int .i64 rKind_9, .int .i64 rTag_9, .int .i64 rA_9, .int .i64 rX_9, .int .u64 rMore_9] ∧
  R (.agg #[.int .i64 rKind_9, .int .i64 rTag_9, .int .i64 rA_9, .int .i64 rX_9, .int .u64 rMore_9]) H13)
 else
 CanPuts H6 (Addr.mk b 0 none) 0 5 ∧ ∀ H14 : Array Obj, H14 = hputs H6 (Addr.mk b 0 none) [.int .i64 0, .int .i64 0, .int .i64 0, .int .i64 0, .int .u64 0] 0 →
 ∃ rKind_10 : Int, ∃ rTag_10 : Int, ∃ rA_10 : Int, ∃ rX_10 : Int, ∃ rMore_10 : Int, RowAt H14 (Addr.mk b 0 none) 0 [.int .i64 rKind_10, .int .i64 rTag_10, .int .i64 rA_10, .int .i64 rX_10, .int .u64 rMore_10] ∧
 R (.agg #[.int .i64 rKind_10, .int .i64 rTag_10, .int .i64 rA_10, .int .i64 rX_10, .int .u64 rMore_10]) H14
set_option maxRecDepth 100000 in
theorem moraineref01_Of.link {wv : Int} {H : Array Obj} {R : Value → Array Obj → Prop} (h : moraineref01_Of.pt wv H R) : moraineref01_Of.C wv H R := by
  refine S_enter (fn := Try.f19) (c := moraineref01_Of.k0) 94 Try.func19 (by kernel_rfl) (by kernel_rfl) (Nat.le_of_ble_eq_true (by kernel_rfl)) ?_
  intro w0 Q hQ
  unfold moraineref01_Of.pt at h
  refine S_sub [(0, .int .u64 wv)] (sb (by kernel_rfl)) ?_
  refine S_seq moraineref01_Of.k1 moraineref01_Of.k2 (by kernel_rfl) ?_
  refine S_region 0 (Code.ops moraineref01_Of.k1) (by kernel_rfl) ?_
  refine N_new (some 2) (fun b => .pointer (some (Addr.mk b 0 none))) (.cells #[.int .i64 0, .int .i64 0, .int .i64 0, .int .i64 0, .int .u64 0] 30) (fun w => by kernel_rfl) ?_
  intro b H1 e1 e2
  replace h := h b H1 e1 e2
  refine ⟨[(0, .int .u64 wv), (2, .pointer (some (Addr.mk b 0 none)))], ps (by kernel_rfl), ?_⟩
  refine N_end (by kernel_rfl) ?_
  refine S_then ?_
  refine S_seq moraineref01_Of.k3 moraineref01_Of.k4 (by kernel_rfl) ?_
  refine S_region 1 (Code.ops moraineref01_Of.k3) (by kernel_rfl) ?_
  refine N_run 2 [(2, .pointer (some (Addr.mk b 0 none))), (3, .int .u64 wv)] (fun w => by kernel_rfl) ?_
  refine N_end (by kernel_rfl) ?_
  refine S_then ?_
  refine S_seq moraineref01_Of.k5 moraineref01_Of.k6 (by kernel_rfl) ?_
  refine S_region 2 (Code.ops moraineref01_Of.k5) (by kernel_rfl) ?_
  refine N_run 7 [(2, .pointer (some (Addr.mk b 0 none))), (4, .int .i64 (IntKind.wrap .i64 (Int.tmod wv 8))), (5, .int .u64 (IntKind.wrap .u64 (Int.tdiv wv 8)))] (fun w => by kernel_rfl) ?_
  refine N_end (by kernel_rfl) ?_
  refine S_then ?_
  refine S_seq moraineref01_Of.k7 moraineref01_Of.k8 (by kernel_rfl) ?_
  refine S_region 3 (Code.ops moraineref01_Of.k7) (by kernel_rfl) ?_
  refine N_run 7 [(2, .pointer (some (Addr.mk b 0 none))), (4, .int .i64 (IntKind.wrap .i64 (Int.tmod wv 8))), (5, .int .u64 (IntKind.wrap .u64 (Int.tdiv wv 8))), (6, .int .i64 (IntKind.wrap .i64 (Int.tmod (IntKind.wrap .u64 (Int.tdiv wv 8)) 32))), (7, .int .u64 (IntKind.wrap .u64 (Int.tdiv (IntKind.wrap .u64 (Int.tdiv wv 8)) 32)))] (fun w => by kernel_rfl) ?_
  refine N_end (by kernel_rfl) ?_
  refine S_then ?_
  refine S_seq moraineref01_Of.k9 moraineref01_Of.k10 (by kernel_rfl) ?_
  refine S_seq moraineref01_Of.k11 moraineref01_Of.k12 (by kernel_rfl) ?_
  refine S_region 4 (Code.ops moraineref01_Of.k11) (by kernel_rfl) ?_
  refine N_run 1 [(2, .pointer (some (Addr.mk b 0 none))), (4, .int .i64 (IntKind.wrap .i64 (Int.tmod wv 8))), (5, .int .u64 (IntKind.wrap .u64 (Int.tdiv wv 8))), (6, .int .i64 (IntKind.wrap .i64 (Int.tmod (IntKind.wrap .u64 (Int.tdiv wv 8)) 32))), (7, .int .u64 (IntKind.wrap .u64 (Int.tdiv (IntKind.wrap .u64 (Int.tdiv wv 8)) 32))), (20, .int .i64 (IntKind.wrap .i64 (Int.tmod wv 8)))] (fun w => by kernel_rfl) ?_
  refine N_end (by kernel_rfl) ?_
  refine S_then ?_
  refine S_block 0 moraineref01_Of.k13 (by kernel_rfl) ?_
  refine S_seq moraineref01_Of.k14 moraineref01_Of.k15 (by kernel_rfl) ?_
  refine S_region 5 (Code.ops moraineref01_Of.k14) (by kernel_rfl) ?_
  refine N_run 2 [(2, .pointer (some (Addr.mk b 0 none))), (4, .int .i64 (IntKind.wrap .i64 (Int.tmod wv 8))), (5, .int .u64 (IntKind.wrap .u64 (Int.tdiv wv 8))), (6, .int .i64 (IntKind.wrap .i64 (Int.tmod (IntKind.wrap .u64 (Int.tdiv wv 8)) 32))), (7, .int .u64 (IntKind.wrap .u64 (Int.tdiv (IntKind.wrap .u64 (Int.tdiv wv 8)) 32))), (20, .int .i64 (IntKind.wrap .i64 (Int.tmod wv 8))), (21, .bool ((IntKind.wrap .i64 (Int.tmod wv 8)) == 0))] (fun w => by kernel_rfl) ?_
  refine N_end (by kernel_rfl) ?_
  refine S_then ?_
  by_cases c3 : (IntKind.wrap .i64 (Int.tmod wv 8)) = 0
  · rw [if_pos c3] at h
    have b4 : ((IntKind.wrap .i64 (Int.tmod wv 8)) == 0) = true := beq_iff_eq.mpr c3
    refine S_env [(2, .pointer (some (Addr.mk b 0 none))), (4, .int .i64 (IntKind.wrap .i64 (Int.tmod wv 8))), (5, .int .u64 (IntKind.wrap .u64 (Int.tdiv wv 8))), (6, .int .i64 (IntKind.wrap .i64 (Int.tmod (IntKind.wrap .u64 (Int.tdiv wv 8)) 32))), (7, .int .u64 (IntKind.wrap .u64 (Int.tdiv (IntKind.wrap .u64 (Int.tdiv wv 8)) 32))), (20, .int .i64 (IntKind.wrap .i64 (Int.tmod wv 8))), (21, .bool true)] (by simp only [b4, Bool.not_true, Bool.not_false]) ?_
    clear b4
    refine S_condT (.tmp 21) moraineref01_Of.k16 moraineref01_Of.k17 (by kernel_rfl) (by kernel_rfl) ?_
    refine S_seq moraineref01_Of.k18 moraineref01_Of.k19 (by kernel_rfl) ?_
    refine S_seq moraineref01_Of.k20 moraineref01_Of.k21 (by kernel_rfl) ?_
    refine S_region 6 (Code.ops moraineref01_Of.k20) (by kernel_rfl) ?_
    refine N_run 1 [(2, .pointer (some (Addr.mk b 0 none))), (5, .int .u64 (IntKind.wrap .u64 (Int.tdiv wv 8))), (23, .int .u64 (IntKind.wrap .u64 (Int.tdiv wv 8)))] (fun w => by kernel_rfl) ?_
    refine N_call (some 24) 26 #[.int .i64 60] (fun w => by kernel_rfl) h ?_
    rintro v H2 ⟨x, rfl, h⟩
    refine ⟨[(2, .pointer (some (Addr.mk b 0 none))), (5, .int .u64 (IntKind.wrap .u64 (Int.tdiv wv 8))), (23, .int .u64 (IntKind.wrap .u64 (Int.tdiv wv 8))), (24, .int .u64 x)], ps (by kernel_rfl), ?_⟩
    refine N_run 1 [(2, .pointer (some (Addr.mk b 0 none))), (5, .int .u64 (IntKind.wrap .u64 (Int.tdiv wv 8))), (25, .bool (decide ((IntKind.wrap .u64 (Int.tdiv wv 8)) ≥ x)))] (fun w => by kernel_rfl) ?_
    refine N_end (by kernel_rfl) ?_
    refine S_then ?_
    by_cases c5 : (IntKind.wrap .u64 (Int.tdiv wv 8)) ≥ x
    · rw [if_pos c5] at h
      have b6 : (decide ((IntKind.wrap .u64 (Int.tdiv wv 8)) ≥ x)) = true := decide_eq_true c5
      refine S_env [(2, .pointer (some (Addr.mk b 0 none))), (5, .int .u64 (IntKind.wrap .u64 (Int.tdiv wv 8))), (25, .bool true)] (by simp only [b6, Bool.not_true, Bool.not_false]) ?_
      clear b6
      refine S_condT (.tmp 25) moraineref01_Of.k22 moraineref01_Of.k23 (by kernel_rfl) (by kernel_rfl) ?_
      refine S_seq moraineref01_Of.k24 moraineref01_Of.k25 (by kernel_rfl) ?_
      refine S_region 7 (Code.ops moraineref01_Of.k24) (by kernel_rfl) ?_
      refine N_sub [(2, .pointer (some (Addr.mk b 0 none))), (5, .int .u64 (IntKind.wrap .u64 (Int.tdiv wv 8)))] (sb (by kernel_rfl)) ?_
      refine N_call (some 26) 26 #[.int .i64 61] (fun w => by kernel_rfl) h ?_
      rintro v_2 H3 ⟨x_2, rfl, h⟩
      refine ⟨[(2, .pointer (some (Addr.mk b 0 none))), (5, .int .u64 (IntKind.wrap .u64 (Int.tdiv wv 8))), (26, .int .u64 x_2)], ps (by kernel_rfl), ?_⟩
      refine N_run 5 [(2, .pointer (some (Addr.mk b 0 none))), (31, .agg #[.int .i64 1, .int .i64 0, .int .i64 0, .int .i64 (IntKind.wrap .i64 (0 - (IntKind.wrap .i64 (IntKind.wrap .u64 (x_2 - (IntKind.wrap .u64 (Int.tdiv wv 8))))))), .int .u64 0])] (fun w => by kernel_rfl) ?_
      obtain ⟨q8, h⟩ := h
      refine N_skipop none (storeN 30 (.pointer (some (Addr.mk b 0 none))) (.agg #[.int .i64 1, .int .i64 0, .int .i64 0, .int .i64 (IntKind.wrap .i64 (0 - (IntKind.wrap .i64 (IntKind.wrap .u64 (x_2 - (IntKind.wrap .u64 (Int.tdiv wv 8))))))), .int .u64 0])) (fun H1 => H1 = hputs H3 (Addr.mk b 0 none) [.int .i64 1, .int .i64 0, .int .i64 0, .int .i64 (IntKind.wrap .i64 (0 - (IntKind.wrap .i64 (IntKind.wrap .u64 (x_2 - (IntKind.wrap .u64 (Int.tdiv wv 8))))))), .int .u64 0] 0) (fun w => by kernel_rfl) (ss_store [.int .i64 1, .int .i64 0, .int .i64 0, .int .i64 (IntKind.wrap .i64 (0 - (IntKind.wrap .i64 (IntKind.wrap .u64 (x_2 - (IntKind.wrap .u64 (Int.tdiv wv 8))))))), .int .u64 0] 5 (by kernel_rfl) (by kernel_rfl) (fun w => by kernel_rfl) (by kernel_rfl) q8) ?_
      intro H4 e7
      replace h := h H4 e7
      refine ⟨[(2, .pointer (some (Addr.mk b 0 none)))], ps (by kernel_rfl), ?_⟩
      refine N_end (by kernel_rfl) ?_
      refine S_then ?_
      refine S_ret (by kernel_rfl) ?_
      show At _ _ _ _ (Q .ret)
      obtain ⟨rKind, rTag, rA, rX, rMore, q9, h⟩ := h
      exact S_done (fn := Try.f19) [.agg #[.int .i64 rKind, .int .i64 rTag, .int .i64 rA, .int .i64 rX, .int .u64 rMore]] hQ (show ResOK _ _ _ [.cell 2 30] _ from .cell (by kernel_rfl) (loadOK_row (fun w => by kernel_rfl) (fun w => by kernel_rfl) q9) (.nil)) h
    · rw [if_neg c5] at h
      have b6 : (decide ((IntKind.wrap .u64 (Int.tdiv wv 8)) ≥ x)) = false := decide_eq_false c5
      refine S_env [(2, .pointer (some (Addr.mk b 0 none))), (5, .int .u64 (IntKind.wrap .u64 (Int.tdiv wv 8))), (25, .bool false)] (by simp only [b6, Bool.not_true, Bool.not_false]) ?_
      clear b6
      refine S_condF (.tmp 25) moraineref01_Of.k22 moraineref01_Of.k23 (by kernel_rfl) (by kernel_rfl) ?_
      refine S_skip (by kernel_rfl) ?_
      refine S_then ?_
      refine S_seq moraineref01_Of.k26 moraineref01_Of.k27 (by kernel_rfl) ?_
      refine S_region 8 (Code.ops moraineref01_Of.k26) (by kernel_rfl) ?_
      refine N_run 3 [(2, .pointer (some (Addr.mk b 0 none))), (34, .agg #[.int .i64 1, .int .i64 0, .int .i64 0, .int .i64 (IntKind.wrap .i64 (IntKind.wrap .u64 (Int.tdiv wv 8))), .int .u64 0])] (fun w => by kernel_rfl) ?_
      obtain ⟨q11, h⟩ := h
      refine N_skipop none (storeN 30 (.pointer (some (Addr.mk b 0 none))) (.agg #[.int .i64 1, .int .i64 0, .int .i64 0, .int .i64 (IntKind.wrap .i64 (IntKind.wrap .u64 (Int.tdiv wv 8))), .int .u64 0])) (fun H1 => H1 = hputs H2 (Addr.mk b 0 none) [.int .i64 1, .int .i64 0, .int .i64 0, .int .i64 (IntKind.wrap .i64 (IntKind.wrap .u64 (Int.tdiv wv 8))), .int .u64 0] 0) (fun w => by kernel_rfl) (ss_store [.int .i64 1, .int .i64 0, .int .i64 0, .int .i64 (IntKind.wrap .i64 (IntKind.wrap .u64 (Int.tdiv wv 8))), .int .u64 0] 5 (by kernel_rfl) (by kernel_rfl) (fun w => by kernel_rfl) (by kernel_rfl) q11) ?_
      intro H5 e10
      replace h := h H5 e10
      refine ⟨[(2, .pointer (some (Addr.mk b 0 none)))], ps (by kernel_rfl), ?_⟩
      refine N_end (by kernel_rfl) ?_
      refine S_then ?_
      refine S_ret (by kernel_rfl) ?_
      show At _ _ _ _ (Q .ret)
      obtain ⟨rKind_2, rTag_2, rA_2, rX_2, rMore_2, q12, h⟩ := h
      exact S_done (fn := Try.f19) [.agg #[.int .i64 rKind_2, .int .i64 rTag_2, .int .i64 rA_2, .int .i64 rX_2, .int .u64 rMore_2]] hQ (show ResOK _ _ _ [.cell 2 30] _ from .cell (by kernel_rfl) (loadOK_row (fun w => by kernel_rfl) (fun w => by kernel_rfl) q12) (.nil)) h
  · rw [if_neg c3] at h
    have b4 : ((IntKind.wrap .i64 (Int.tmod wv 8)) == 0) = false := beq_eq_false_iff_ne.mpr c3
    refine S_env [(2, .pointer (some (Addr.mk b 0 none))), (4, .int .i64 (IntKind.wrap .i64 (Int.tmod wv 8))), (5, .int .u64 (IntKind.wrap .u64 (Int.tdiv wv 8))), (6, .int .i64 (IntKind.wrap .i64 (Int.tmod (IntKind.wrap .u64 (Int.tdiv wv 8)) 32))), (7, .int .u64 (IntKind.wrap .u64 (Int.tdiv (IntKind.wrap .u64 (Int.tdiv wv 8)) 32))), (20, .int .i64 (IntKind.wrap .i64 (Int.tmod wv 8))), (21, .bool false)] (by simp only [b4, Bool.not_true, Bool.not_false]) ?_
    clear b4
    refine S_condF (.tmp 21) moraineref01_Of.k16 moraineref01_Of.k17 (by kernel_rfl) (by kernel_rfl) ?_
    refine S_seq moraineref01_Of.k28 moraineref01_Of.k29 (by kernel_rfl) ?_
    refine S_seq moraineref01_Of.k30 moraineref01_Of.k31 (by kernel_rfl) ?_
    refine S_region 9 (Code.ops moraineref01_Of.k30) (by kernel_rfl) ?_
    refine N_run 2 [(2, .pointer (some (Addr.mk b 0 none))), (4, .int .i64 (IntKind.wrap .i64 (Int.tmod wv 8))), (5, .int .u64 (IntKind.wrap .u64 (Int.tdiv wv 8))), (6, .int .i64 (IntKind.wrap .i64 (Int.tmod (IntKind.wrap .u64 (Int.tdiv wv 8)) 32))), (7, .int .u64 (IntKind.wrap .u64 (Int.tdiv (IntKind.wrap .u64 (Int.tdiv wv 8)) 32))), (20, .int .i64 (IntKind.wrap .i64 (Int.tmod wv 8))), (35, .bool ((IntKind.wrap .i64 (Int.tmod wv 8)) == 1))] (fun w => by kernel_rfl) ?_
    refine N_end (by kernel_rfl) ?_
    refine S_then ?_
    obtain ⟨J, h, j14⟩ := h
    refine S_join (σ := Bool) (fun s => [(2, .pointer (some (Addr.mk b 0 none))), (4, .int .i64 (IntKind.wrap .i64 (Int.tmod wv 8))), (5, .int .u64 (IntKind.wrap .u64 (Int.tdiv wv 8))), (6, .int .i64 (IntKind.wrap .i64 (Int.tmod (IntKind.wrap .u64 (Int.tdiv wv 8)) 32))), (7, .int .u64 (IntKind.wrap .u64 (Int.tdiv (IntKind.wrap .u64 (Int.tdiv wv 8)) 32))), (20, .int .i64 (IntKind.wrap .i64 (Int.tmod wv 8))), (35, .bool s)]) (fun s H => J s H) ?_ ?_
    · rintro s35 H6 j15
      replace h := j14 s35 H6 j15
      refine S_sub [(2, .pointer (some (Addr.mk b 0 none))), (4, .int .i64 (IntKind.wrap .i64 (Int.tmod wv 8))), (5, .int .u64 (IntKind.wrap .u64 (Int.tdiv wv 8))), (6, .int .i64 (IntKind.wrap .i64 (Int.tmod (IntKind.wrap .u64 (Int.tdiv wv 8)) 32))), (7, .int .u64 (IntKind.wrap .u64 (Int.tdiv (IntKind.wrap .u64 (Int.tdiv wv 8)) 32))), (20, .int .i64 (IntKind.wrap .i64 (Int.tmod wv 8))), (35, .bool s35)] (sb (by kernel_rfl)) ?_
      refine S_then ?_
      by_cases c16 : s35 = true
      · rw [if_pos c16] at h
        have b17 : s35 = true := c16
        refine S_env [(2, .pointer (some (Addr.mk b 0 none))), (4, .int .i64 (IntKind.wrap .i64 (Int.tmod wv 8))), (5, .int .u64 (IntKind.wrap .u64 (Int.tdiv wv 8))), (6, .int .i64 (IntKind.wrap .i64 (Int.tmod (IntKind.wrap .u64 (Int.tdiv wv 8)) 32))), (7, .int .u64 (IntKind.wrap .u64 (Int.tdiv (IntKind.wrap .u64 (Int.tdiv wv 8)) 32))), (20, .int .i64 (IntKind.wrap .i64 (Int.tmod wv 8))), (35, .bool true)] (by simp only [b17, Bool.not_true, Bool.not_false]) ?_
        clear b17
        refine S_condT (.tmp 35) moraineref01_Of.k34 moraineref01_Of.k35 (by kernel_rfl) (by kernel_rfl) ?_
        refine S_seq moraineref01_Of.k36 moraineref01_Of.k37 (by kernel_rfl) ?_
        refine S_region 13 (Code.ops moraineref01_Of.k36) (by kernel_rfl) ?_
        refine N_run 2 [(2, .pointer (some (Addr.mk b 0 none))), (4, .int .i64 (IntKind.wrap .i64 (Int.tmod wv 8))), (5, .int .u64 (IntKind.wrap .u64 (Int.tdiv wv 8))), (41, .bool (decide ((IntKind.wrap .u64 (Int.tdiv wv 8)) < 65536)))] (fun w => by kernel_rfl) ?_
        refine N_end (by kernel_rfl) ?_
        refine S_then ?_
        by_cases c18 : (IntKind.wrap .u64 (Int.tdiv wv 8)) < 65536
        · rw [if_pos c18] at h
          have b19 : (decide ((IntKind.wrap .u64 (Int.tdiv wv 8)) < 65536)) = true := decide_eq_true c18
          refine S_env [(2, .pointer (some (Addr.mk b 0 none))), (4, .int .i64 (IntKind.wrap .i64 (Int.tmod wv 8))), (5, .int .u64 (IntKind.wrap .u64 (Int.tdiv wv 8))), (41, .bool true)] (by simp only [b19, Bool.not_true, Bool.not_false]) ?_
          clear b19
          refine S_condT (.tmp 41) moraineref01_Of.k38 moraineref01_Of.k39 (by kernel_rfl) (by kernel_rfl) ?_
          refine S_seq moraineref01_Of.k40 moraineref01_Of.k41 (by kernel_rfl) ?_
          refine S_region 14 (Code.ops moraineref01_Of.k40) (by kernel_rfl) ?_
          refine N_run 4 [(2, .pointer (some (Addr.mk b 0 none))), (45, .agg #[.int .i64 2, .int .i64 (IntKind.wrap .i64 (Int.tmod wv 8)), .int .i64 (IntKind.wrap .i64 (IntKind.wrap .u64 (Int.tdiv wv 8))), .int .i64 0, .int .u64 0])] (fun w => by kernel_rfl) ?_
          obtain ⟨q21, h⟩ := h
          refine N_skipop none (storeN 30 (.pointer (some (Addr.mk b 0 none))) (.agg #[.int .i64 2, .int .i64 (IntKind.wrap .i64 (Int.tmod wv 8)), .int .i64 (IntKind.wrap .i64 (IntKind.wrap .u64 (Int.tdiv wv 8))), .int .i64 0, .int .u64 0])) (fun H1 => H1 = hputs H6 (Addr.mk b 0 none) [.int .i64 2, .int .i64 (IntKind.wrap .i64 (Int.tmod wv 8)), .int .i64 (IntKind.wrap .i64 (IntKind.wrap .u64 (Int.tdiv wv 8))), .int .i64 0, .int .u64 0] 0) (fun w => by kernel_rfl) (ss_store [.int .i64 2, .int .i64 (IntKind.wrap .i64 (Int.tmod wv 8)), .int .i64 (IntKind.wrap .i64 (IntKind.wrap .u64 (Int.tdiv wv 8))), .int .i64 0, .int .u64 0] 5 (by kernel_rfl) (by kernel_rfl) (fun w => by kernel_rfl) (by kernel_rfl) q21) ?_
          intro H7 e20
          replace h := h H7 e20
          refine ⟨[(2, .pointer (some (Addr.mk b 0 none)))], ps (by kernel_rfl), ?_⟩
          refine N_end (by kernel_rfl) ?_
          refine S_then ?_
          refine S_ret (by kernel_rfl) ?_
          show At _ _ _ _ (Q .ret)
          obtain ⟨rKind_3, rTag_3, rA_3, rX_3, rMore_3, q22, h⟩ := h
          exact S_done (fn := Try.f19) [.agg #[.int .i64 rKind_3, .int .i64 rTag_3, .int .i64 rA_3, .int .i64 rX_3, .int .u64 rMore_3]] hQ (show ResOK _ _ _ [.cell 2 30] _ from .cell (by kernel_rfl) (loadOK_row (fun w => by kernel_rfl) (fun w => by kernel_rfl) q22) (.nil)) h
        · rw [if_neg c18] at h
          have b19 : (decide ((IntKind.wrap .u64 (Int.tdiv wv 8)) < 65536)) = false := decide_eq_false c18
          refine S_env [(2, .pointer (some (Addr.mk b 0 none))), (4, .int .i64 (IntKind.wrap .i64 (Int.tmod wv 8))), (5, .int .u64 (IntKind.wrap .u64 (Int.tdiv wv 8))), (41, .bool false)] (by simp only [b19, Bool.not_true, Bool.not_false]) ?_
          clear b19
          refine S_condF (.tmp 41) moraineref01_Of.k38 moraineref01_Of.k39 (by kernel_rfl) (by kernel_rfl) ?_
          refine S_skip (by kernel_rfl) ?_
          refine S_blockEnd ?_
          refine S_then ?_
          refine S_seq moraineref01_Of.k42 moraineref01_Of.k43 (by kernel_rfl) ?_
          refine S_region 24 (Code.ops moraineref01_Of.k42) (by kernel_rfl) ?_
          refine N_run 1 [(2, .pointer (some (Addr.mk b 0 none))), (93, .agg #[.int .i64 0, .int .i64 0, .int .i64 0, .int .i64 0, .int .u64 0])] (fun w => by kernel_rfl) ?_
          obtain ⟨q24, h⟩ := h
          refine N_skipop none (storeN 30 (.pointer (some (Addr.mk b 0 none))) (.agg #[.int .i64 0, .int .i64 0, .int .i64 0, .int .i64 0, .int .u64 0])) (fun H1 => H1 = hputs H6 (Addr.mk b 0 none) [.int .i64 0, .int .i64 0, .int .i64 0, .int .i64 0, .int .u64 0] 0) (fun w => by kernel_rfl) (ss_store [.int .i64 0, .int .i64 0, .int .i64 0, .int .i64 0, .int .u64 0] 5 (by kernel_rfl) (by kernel_rfl) (fun w => by kernel_rfl) (by kernel_rfl) q24) ?_
          intro H8 e23
          replace h := h H8 e23
          refine ⟨[(2, .pointer (some (Addr.mk b 0 none)))], ps (by kernel_rfl), ?_⟩
          refine N_end (by kernel_rfl) ?_
          refine S_then ?_
          refine S_ret (by kernel_rfl) ?_
          show At _ _ _ _ (Q .ret)
          obtain ⟨rKind_4, rTag_4, rA_4, rX_4, rMore_4, q25, h⟩ := h
          exact S_done (fn := Try.f19) [.agg #[.int .i64 rKind_4, .int .i64 rTag_4, .int .i64 rA_4, .int .i64 rX_4, .int .u64 rMore_4]] hQ (show ResOK _ _ _ [.cell 2 30] _ from .cell (by kernel_rfl) (loadOK_row (fun w => by kernel_rfl) (fun w => by kernel_rfl) q25) (.nil)) h
      · rw [if_neg c16] at h
        have b17 : s35 = false := eq_false_of_ne_true c16
        refine S_env [(2, .pointer (some (Addr.mk b 0 none))), (4, .int .i64 (IntKind.wrap .i64 (Int.tmod wv 8))), (5, .int .u64 (IntKind.wrap .u64 (Int.tdiv wv 8))), (6, .int .i64 (IntKind.wrap .i64 (Int.tmod (IntKind.wrap .u64 (Int.tdiv wv 8)) 32))), (7, .int .u64 (IntKind.wrap .u64 (Int.tdiv (IntKind.wrap .u64 (Int.tdiv wv 8)) 32))), (20, .int .i64 (IntKind.wrap .i64 (Int.tmod wv 8))), (35, .bool false)] (by simp only [b17, Bool.not_true, Bool.not_false]) ?_
        clear b17
        refine S_condF (.tmp 35) moraineref01_Of.k34 moraineref01_Of.k35 (by kernel_rfl) (by kernel_rfl) ?_
        refine S_seq moraineref01_Of.k44 moraineref01_Of.k45 (by kernel_rfl) ?_
        refine S_region 15 (Code.ops moraineref01_Of.k44) (by kernel_rfl) ?_
        refine N_run 2 [(2, .pointer (some (Addr.mk b 0 none))), (6, .int .i64 (IntKind.wrap .i64 (Int.tmod (IntKind.wrap .u64 (Int.tdiv wv 8)) 32))), (7, .int .u64 (IntKind.wrap .u64 (Int.tdiv (IntKind.wrap .u64 (Int.tdiv wv 8)) 32))), (20, .int .i64 (IntKind.wrap .i64 (Int.tmod wv 8))), (46, .bool ((IntKind.wrap .i64 (Int.tmod wv 8)) == 4))] (fun w => by kernel_rfl) ?_
        refine N_end (by kernel_rfl) ?_
        refine S_then ?_
        by_cases c26 : (IntKind.wrap .i64 (Int.tmod wv 8)) = 4
        · rw [if_pos c26] at h
          have b27 : ((IntKind.wrap .i64 (Int.tmod wv 8)) == 4) = true := beq_iff_eq.mpr c26
          refine S_env [(2, .pointer (some (Addr.mk b 0 none))), (6, .int .i64 (IntKind.wrap .i64 (Int.tmod (IntKind.wrap .u64 (Int.tdiv wv 8)) 32))), (7, .int .u64 (IntKind.wrap .u64 (Int.tdiv (IntKind.wrap .u64 (Int.tdiv wv 8)) 32))), (20, .int .i64 (IntKind.wrap .i64 (Int.tmod wv 8))), (46, .bool true)] (by simp only [b27, Bool.not_true, Bool.not_false]) ?_
          clear b27
          refine S_condT (.tmp 46) moraineref01_Of.k46 moraineref01_Of.k47 (by kernel_rfl) (by kernel_rfl) ?_
          refine S_seq moraineref01_Of.k48 moraineref01_Of.k49 (by kernel_rfl) ?_
          refine S_seq moraineref01_Of.k50 moraineref01_Of.k51 (by kernel_rfl) ?_
          refine S_region 16 (Code.ops moraineref01_Of.k50) (by kernel_rfl) ?_
          refine N_cut [(2, .pointer (some (Addr.mk b 0 none))), (6, .int .i64 (IntKind.wrap .i64 (Int.tmod (IntKind.wrap .u64 (Int.tdiv wv 8)) 32))), (7, .int .u64 (IntKind.wrap .u64 (Int.tdiv (IntKind.wrap .u64 (Int.tdiv wv 8)) 32))), (53, .bool ((decide ((IntKind.wrap .i64 (Int.tmod (IntKind.wrap .u64 (Int.tdiv wv 8)) 32)) < 7)) && ((IntKind.wrap .u64 (Int.tdiv (IntKind.wrap .u64 (Int.tdiv wv 8)) 32)) == 0)))] ?_ ?_
          · refine S_then ?_
            by_cases c30 : ((decide ((IntKind.wrap .i64 (Int.tmod (IntKind.wrap .u64 (Int.tdiv wv 8)) 32)) < 7)) && ((IntKind.wrap .u64 (Int.tdiv (IntKind.wrap .u64 (Int.tdiv wv 8)) 32)) == 0)) = true
            · rw [if_pos c30] at h
              have b31 : ((decide ((IntKind.wrap .i64 (Int.tmod (IntKind.wrap .u64 (Int.tdiv wv 8)) 32)) < 7)) && ((IntKind.wrap .u64 (Int.tdiv (IntKind.wrap .u64 (Int.tdiv wv 8)) 32)) == 0)) = true := c30
              refine S_env [(2, .pointer (some (Addr.mk b 0 none))), (6, .int .i64 (IntKind.wrap .i64 (Int.tmod (IntKind.wrap .u64 (Int.tdiv wv 8)) 32))), (7, .int .u64 (IntKind.wrap .u64 (Int.tdiv (IntKind.wrap .u64 (Int.tdiv wv 8)) 32))), (53, .bool true)] (by simp only [b31, Bool.not_true, Bool.not_false]) ?_
              clear b31
              refine S_condT (.tmp 53) moraineref01_Of.k52 moraineref01_Of.k53 (by kernel_rfl) (by kernel_rfl) ?_
              refine S_seq moraineref01_Of.k54 moraineref01_Of.k55 (by kernel_rfl) ?_
              refine S_region 17 (Code.ops moraineref01_Of.k54) (by kernel_rfl) ?_
              refine N_run 2 [(2, .pointer (some (Addr.mk b 0 none))), (55, .agg #[.int .i64 3, .int .i64 0, .int .i64 (IntKind.wrap .i64 (Int.tmod (IntKind.wrap .u64 (Int.tdiv wv 8)) 32)), .int .i64 0, .int .u64 0])] (fun w => by kernel_rfl) ?_
              obtain ⟨q33, h⟩ := h
              refine N_skipop none (storeN 30 (.pointer (some (Addr.mk b 0 none))) (.agg #[.int .i64 3, .int .i64 0, .int .i64 (IntKind.wrap .i64 (Int.tmod (IntKind.wrap .u64 (Int.tdiv wv 8)) 32)), .int .i64 0, .int .u64 0])) (fun H1 => H1 = hputs H6 (Addr.mk b 0 none) [.int .i64 3, .int .i64 0, .int .i64 (IntKind.wrap .i64 (Int.tmod (IntKind.wrap .u64 (Int.tdiv wv 8)) 32)), .int .i64 0, .int .u64 0] 0) (fun w => by kernel_rfl) (ss_store [.int .i64 3, .int .i64 0, .int .i64 (IntKind.wrap .i64 (Int.tmod (IntKind.wrap .u64 (Int.tdiv wv 8)) 32)), .int .i64 0, .int .u64 0] 5 (by kernel_rfl) (by kernel_rfl) (fun w => by kernel_rfl) (by kernel_rfl) q33) ?_
              intro H9 e32
              replace h := h H9 e32
              refine ⟨[(2, .pointer (some (Addr.mk b 0 none)))], ps (by kernel_rfl), ?_⟩
              refine N_end (by kernel_rfl) ?_
              refine S_then ?_
              refine S_ret (by kernel_rfl) ?_
              show At _ _ _ _ (Q .ret)
              obtain ⟨rKind_5, rTag_5, rA_5, rX_5, rMore_5, q34, h⟩ := h
              exact S_done (fn := Try.f19) [.agg #[.int .i64 rKind_5, .int .i64 rTag_5, .int .i64 rA_5, .int .i64 rX_5, .int .u64 rMore_5]] hQ (show ResOK _ _ _ [.cell 2 30] _ from .cell (by kernel_rfl) (loadOK_row (fun w => by kernel_rfl) (fun w => by kernel_rfl) q34) (.nil)) h
            · rw [if_neg c30] at h
              have b31 : ((decide ((IntKind.wrap .i64 (Int.tmod (IntKind.wrap .u64 (Int.tdiv wv 8)) 32)) < 7)) && ((IntKind.wrap .u64 (Int.tdiv (IntKind.wrap .u64 (Int.tdiv wv 8)) 32)) == 0)) = false := eq_false_of_ne_true c30
              refine S_env [(2, .pointer (some (Addr.mk b 0 none))), (6, .int .i64 (IntKind.wrap .i64 (Int.tmod (IntKind.wrap .u64 (Int.tdiv wv 8)) 32))), (7, .int .u64 (IntKind.wrap .u64 (Int.tdiv (IntKind.wrap .u64 (Int.tdiv wv 8)) 32))), (53, .bool false)] (by simp only [b31, Bool.not_true, Bool.not_false]) ?_
              clear b31
              refine S_condF (.tmp 53) moraineref01_Of.k52 moraineref01_Of.k53 (by kernel_rfl) (by kernel_rfl) ?_
              refine S_skip (by kernel_rfl) ?_
              refine S_then ?_
              refine S_seq moraineref01_Of.k56 moraineref01_Of.k57 (by kernel_rfl) ?_
              refine S_region 18 (Code.ops moraineref01_Of.k56) (by kernel_rfl) ?_
              refine N_cut [(2, .pointer (some (Addr.mk b 0 none))), (7, .int .u64 (IntKind.wrap .u64 (Int.tdiv (IntKind.wrap .u64 (Int.tdiv wv 8)) 32))), (69, .bool ((((IntKind.wrap .i64 (Int.tmod (IntKind.wrap .u64 (Int.tdiv wv 8)) 32)) == 7) && (decide ((IntKind.wrap .u64 (Int.tdiv (IntKind.wrap .u64 (Int.tdiv wv 8)) 32)) ≤ 1114111))) && ((decide ((IntKind.wrap .u64 (Int.tdiv (IntKind.wrap .u64 (Int.tdiv wv 8)) 32)) < 55296)) || (decide ((IntKind.wrap .u64 (Int.tdiv (IntKind.wrap .u64 (Int.tdiv wv 8)) 32)) > 57343)))))] ?_ ?_
              · refine S_then ?_
                by_cases c41 : ((((IntKind.wrap .i64 (Int.tmod (IntKind.wrap .u64 (Int.tdiv wv 8)) 32)) == 7) && (decide ((IntKind.wrap .u64 (Int.tdiv (IntKind.wrap .u64 (Int.tdiv wv 8)) 32)) ≤ 1114111))) && ((decide ((IntKind.wrap .u64 (Int.tdiv (IntKind.wrap .u64 (Int.tdiv wv 8)) 32)) < 55296)) || (decide ((IntKind.wrap .u64 (Int.tdiv (IntKind.wrap .u64 (Int.tdiv wv 8)) 32)) > 57343)))) = true
                · rw [if_pos c41] at h
                  have b42 : ((((IntKind.wrap .i64 (Int.tmod (IntKind.wrap .u64 (Int.tdiv wv 8)) 32)) == 7) && (decide ((IntKind.wrap .u64 (Int.tdiv (IntKind.wrap .u64 (Int.tdiv wv 8)) 32)) ≤ 1114111))) && ((decide ((IntKind.wrap .u64 (Int.tdiv (IntKind.wrap .u64 (Int.tdiv wv 8)) 32)) < 55296)) || (decide ((IntKind.wrap .u64 (Int.tdiv (IntKind.wrap .u64 (Int.tdiv wv 8)) 32)) > 57343)))) = true := c41
                  refine S_env [(2, .pointer (some (Addr.mk b 0 none))), (7, .int .u64 (IntKind.wrap .u64 (Int.tdiv (IntKind.wrap .u64 (Int.tdiv wv 8)) 32))), (69, .bool true)] (by simp only [b42, Bool.not_true, Bool.not_false]) ?_
                  clear b42
                  refine S_condT (.tmp 69) moraineref01_Of.k58 moraineref01_Of.k59 (by kernel_rfl) (by kernel_rfl) ?_
                  refine S_seq moraineref01_Of.k60 moraineref01_Of.k61 (by kernel_rfl) ?_
                  refine S_region 19 (Code.ops moraineref01_Of.k60) (by kernel_rfl) ?_
                  refine N_run 3 [(2, .pointer (some (Addr.mk b 0 none))), (72, .agg #[.int .i64 4, .int .i64 0, .int .i64 (IntKind.wrap .i64 (IntKind.wrap .u64 (Int.tdiv (IntKind.wrap .u64 (Int.tdiv wv 8)) 32))), .int .i64 0, .int .u64 0])] (fun w => by kernel_rfl) ?_
                  obtain ⟨q44, h⟩ := h
                  refine N_skipop none (storeN 30 (.pointer (some (Addr.mk b 0 none))) (.agg #[.int .i64 4, .int .i64 0, .int .i64 (IntKind.wrap .i64 (IntKind.wrap .u64 (Int.tdiv (IntKind.wrap .u64 (Int.tdiv wv 8)) 32))), .int .i64 0, .int .u64 0])) (fun H1 => H1 = hputs H6 (Addr.mk b 0 none) [.int .i64 4, .int .i64 0, .int .i64 (IntKind.wrap .i64 (IntKind.wrap .u64 (Int.tdiv (IntKind.wrap .u64 (Int.tdiv wv 8)) 32))), .int .i64 0, .int .u64 0] 0) (fun w => by kernel_rfl) (ss_store [.int .i64 4, .int .i64 0, .int .i64 (IntKind.wrap .i64 (IntKind.wrap .u64 (Int.tdiv (IntKind.wrap .u64 (Int.tdiv wv 8)) 32))), .int .i64 0, .int .u64 0] 5 (by kernel_rfl) (by kernel_rfl) (fun w => by kernel_rfl) (by kernel_rfl) q44) ?_
                  intro H10 e43
                  replace h := h H10 e43
                  refine ⟨[(2, .pointer (some (Addr.mk b 0 none)))], ps (by kernel_rfl), ?_⟩
                  refine N_end (by kernel_rfl) ?_
                  refine S_then ?_
                  refine S_ret (by kernel_rfl) ?_
                  show At _ _ _ _ (Q .ret)
                  obtain ⟨rKind_6, rTag_6, rA_6, rX_6, rMore_6, q45, h⟩ := h
                  exact S_done (fn := Try.f19) [.agg #[.int .i64 rKind_6, .int .i64 rTag_6, .int .i64 rA_6, .int .i64 rX_6, .int .u64 rMore_6]] hQ (show ResOK _ _ _ [.cell 2 30] _ from .cell (by kernel_rfl) (loadOK_row (fun w => by kernel_rfl) (fun w => by kernel_rfl) q45) (.nil)) h
                · rw [if_neg c41] at h
                  have b42 : ((((IntKind.wrap .i64 (Int.tmod (IntKind.wrap .u64 (Int.tdiv wv 8)) 32)) == 7) && (decide ((IntKind.wrap .u64 (Int.tdiv (IntKind.wrap .u64 (Int.tdiv wv 8)) 32)) ≤ 1114111))) && ((decide ((IntKind.wrap .u64 (Int.tdiv (IntKind.wrap .u64 (Int.tdiv wv 8)) 32)) < 55296)) || (decide ((IntKind.wrap .u64 (Int.tdiv (IntKind.wrap .u64 (Int.tdiv wv 8)) 32)) > 57343)))) = false := eq_false_of_ne_true c41
                  refine S_env [(2, .pointer (some (Addr.mk b 0 none))), (7, .int .u64 (IntKind.wrap .u64 (Int.tdiv (IntKind.wrap .u64 (Int.tdiv wv 8)) 32))), (69, .bool false)] (by simp only [b42, Bool.not_true, Bool.not_false]) ?_
                  clear b42
                  refine S_condF (.tmp 69) moraineref01_Of.k58 moraineref01_Of.k59 (by kernel_rfl) (by kernel_rfl) ?_
                  refine S_skip (by kernel_rfl) ?_
                  refine S_blockEnd ?_
                  refine S_then ?_
                  refine S_seq moraineref01_Of.k42 moraineref01_Of.k43 (by kernel_rfl) ?_
                  refine S_region 24 (Code.ops moraineref01_Of.k42) (by kernel_rfl) ?_
                  refine N_run 1 [(2, .pointer (some (Addr.mk b 0 none))), (93, .agg #[.int .i64 0, .int .i64 0, .int .i64 0, .int .i64 0, .int .u64 0])] (fun w => by kernel_rfl) ?_
                  obtain ⟨q47, h⟩ := h
                  refine N_skipop none (storeN 30 (.pointer (some (Addr.mk b 0 none))) (.agg #[.int .i64 0, .int .i64 0, .int .i64 0, .int .i64 0, .int .u64 0])) (fun H1 => H1 = hputs H6 (Addr.mk b 0 none) [.int .i64 0, .int .i64 0, .int .i64 0, .int .i64 0, .int .u64 0] 0) (fun w => by kernel_rfl) (ss_store [.int .i64 0, .int .i64 0, .int .i64 0, .int .i64 0, .int .u64 0] 5 (by kernel_rfl) (by kernel_rfl) (fun w => by kernel_rfl) (by kernel_rfl) q47) ?_
                  intro H11 e46
                  replace h := h H11 e46
                  refine ⟨[(2, .pointer (some (Addr.mk b 0 none)))], ps (by kernel_rfl), ?_⟩
                  refine N_end (by kernel_rfl) ?_
                  refine S_then ?_
                  refine S_ret (by kernel_rfl) ?_
                  show At _ _ _ _ (Q .ret)
                  obtain ⟨rKind_7, rTag_7, rA_7, rX_7, rMore_7, q48, h⟩ := h
                  exact S_done (fn := Try.f19) [.agg #[.int .i64 rKind_7, .int .i64 rTag_7, .int .i64 rA_7, .int .i64 rX_7, .int .u64 rMore_7]] hQ (show ResOK _ _ _ [.cell 2 30] _ from .cell (by kernel_rfl) (loadOK_row (fun w => by kernel_rfl) (fun w => by kernel_rfl) q48) (.nil)) h
              · intro hk
                refine N_run 3 [(2, .pointer (some (Addr.mk b 0 none))), (7, .int .u64 (IntKind.wrap .u64 (Int.tdiv (IntKind.wrap .u64 (Int.tdiv wv 8)) 32))), (58, .bool ((IntKind.wrap .i64 (Int.tmod (IntKind.wrap .u64 (Int.tdiv wv 8)) 32)) == 7))] (fun w => by kernel_rfl) ?_
                by_cases c35 : (IntKind.wrap .i64 (Int.tmod (IntKind.wrap .u64 (Int.tdiv wv 8)) 32)) = 7
                · have b36 : ((IntKind.wrap .i64 (Int.tmod (IntKind.wrap .u64 (Int.tdiv wv 8)) 32)) == 7) = true := beq_iff_eq.mpr c35
                  refine N_env [(2, .pointer (some (Addr.mk b 0 none))), (7, .int .u64 (IntKind.wrap .u64 (Int.tdiv (IntKind.wrap .u64 (Int.tdiv wv 8)) 32))), (58, .bool true)] (by simp only [b36, Bool.not_true, Bool.not_false]) ?_
                  refine N_run 4 [(2, .pointer (some (Addr.mk b 0 none))), (7, .int .u64 (IntKind.wrap .u64 (Int.tdiv (IntKind.wrap .u64 (Int.tdiv wv 8)) 32))), (62, .bool (decide ((IntKind.wrap .u64 (Int.tdiv (IntKind.wrap .u64 (Int.tdiv wv 8)) 32)) ≤ 1114111)))] (fun w => by kernel_rfl) ?_
                  by_cases c37 : (IntKind.wrap .u64 (Int.tdiv (IntKind.wrap .u64 (Int.tdiv wv 8)) 32)) ≤ 1114111
                  · have b38 : (decide ((IntKind.wrap .u64 (Int.tdiv (IntKind.wrap .u64 (Int.tdiv wv 8)) 32)) ≤ 1114111)) = true := decide_eq_true c37
                    refine N_env [(2, .pointer (some (Addr.mk b 0 none))), (7, .int .u64 (IntKind.wrap .u64 (Int.tdiv (IntKind.wrap .u64 (Int.tdiv wv 8)) 32))), (62, .bool true)] (by simp only [b38, Bool.not_true, Bool.not_false]) ?_
                    refine N_run 3 [(2, .pointer (some (Addr.mk b 0 none))), (7, .int .u64 (IntKind.wrap .u64 (Int.tdiv (IntKind.wrap .u64 (Int.tdiv wv 8)) 32))), (62, .bool true), (65, .bool (decide ((IntKind.wrap .u64 (Int.tdiv (IntKind.wrap .u64 (Int.tdiv wv 8)) 32)) < 55296)))] (fun w => by kernel_rfl) ?_
                    by_cases c39 : (IntKind.wrap .u64 (Int.tdiv (IntKind.wrap .u64 (Int.tdiv wv 8)) 32)) < 55296
                    · have b40 : (decide ((IntKind.wrap .u64 (Int.tdiv (IntKind.wrap .u64 (Int.tdiv wv 8)) 32)) < 55296)) = true := decide_eq_true c39
                      refine N_env [(2, .pointer (some (Addr.mk b 0 none))), (7, .int .u64 (IntKind.wrap .u64 (Int.tdiv (IntKind.wrap .u64 (Int.tdiv wv 8)) 32))), (62, .bool true), (65, .bool true)] (by simp only [b40, Bool.not_true, Bool.not_false]) ?_
                      refine N_run 4 [(2, .pointer (some (Addr.mk b 0 none))), (7, .int .u64 (IntKind.wrap .u64 (Int.tdiv (IntKind.wrap .u64 (Int.tdiv wv 8)) 32))), (69, .bool true)] (fun w => by kernel_rfl) ?_
                      refine N_end (by kernel_rfl) ?_
                      refine S_env [(2, .pointer (some (Addr.mk b 0 none))), (7, .int .u64 (IntKind.wrap .u64 (Int.tdiv (IntKind.wrap .u64 (Int.tdiv wv 8)) 32))), (69, .bool ((((IntKind.wrap .i64 (Int.tmod (IntKind.wrap .u64 (Int.tdiv wv 8)) 32)) == 7) && (decide ((IntKind.wrap .u64 (Int.tdiv (IntKind.wrap .u64 (Int.tdiv wv 8)) 32)) ≤ 1114111))) && ((decide ((IntKind.wrap .u64 (Int.tdiv (IntKind.wrap .u64 (Int.tdiv wv 8)) 32)) < 55296)) || (decide ((IntKind.wrap .u64 (Int.tdiv (IntKind.wrap .u64 (Int.tdiv wv 8)) 32)) > 57343)))))] (by simp only [b36, b38, b40, Bool.true_or, Bool.false_or, Bool.or_true, Bool.or_false, Bool.true_and, Bool.false_and, Bool.and_true, Bool.and_false, Bool.not_true, Bool.not_false, cond_true, cond_false]) ?_
                      exact hk
                    · have b40 : (decide ((IntKind.wrap .u64 (Int.tdiv (IntKind.wrap .u64 (Int.tdiv wv 8)) 32)) < 55296)) = false := decide_eq_false c39
                      refine N_env [(2, .pointer (some (Addr.mk b 0 none))), (7, .int .u64 (IntKind.wrap .u64 (Int.tdiv (IntKind.wrap .u64 (Int.tdiv wv 8)) 32))), (62, .bool true), (65, .bool false)] (by simp only [b40, Bool.not_true, Bool.not_false]) ?_
                      refine N_run 4 [(2, .pointer (some (Addr.mk b 0 none))), (7, .int .u64 (IntKind.wrap .u64 (Int.tdiv (IntKind.wrap .u64 (Int.tdiv wv 8)) 32))), (69, .bool (decide ((IntKind.wrap .u64 (Int.tdiv (IntKind.wrap .u64 (Int.tdiv wv 8)) 32)) > 57343)))] (fun w => by kernel_rfl) ?_
                      refine N_end (by kernel_rfl) ?_
                      refine S_env [(2, .pointer (some (Addr.mk b 0 none))), (7, .int .u64 (IntKind.wrap .u64 (Int.tdiv (IntKind.wrap .u64 (Int.tdiv wv 8)) 32))), (69, .bool ((((IntKind.wrap .i64 (Int.tmod (IntKind.wrap .u64 (Int.tdiv wv 8)) 32)) == 7) && (decide ((IntKind.wrap .u64 (Int.tdiv (IntKind.wrap .u64 (Int.tdiv wv 8)) 32)) ≤ 1114111))) && ((decide ((IntKind.wrap .u64 (Int.tdiv (IntKind.wrap .u64 (Int.tdiv wv 8)) 32)) < 55296)) || (decide ((IntKind.wrap .u64 (Int.tdiv (IntKind.wrap .u64 (Int.tdiv wv 8)) 32)) > 57343)))))] (by simp only [b36, b38, b40, Bool.true_or, Bool.false_or, Bool.or_true, Bool.or_false, Bool.true_and, Bool.false_and, Bool.and_true, Bool.and_false, Bool.not_true, Bool.not_false, cond_true, cond_false]) ?_
                      exact hk
                  · have b38 : (decide ((IntKind.wrap .u64 (Int.tdiv (IntKind.wrap .u64 (Int.tdiv wv 8)) 32)) ≤ 1114111)) = false := decide_eq_false c37
                    refine N_env [(2, .pointer (some (Addr.mk b 0 none))), (7, .int .u64 (IntKind.wrap .u64 (Int.tdiv (IntKind.wrap .u64 (Int.tdiv wv 8)) 32))), (62, .bool false)] (by simp only [b38, Bool.not_true, Bool.not_false]) ?_
                    refine N_run 7 [(2, .pointer (some (Addr.mk b 0 none))), (7, .int .u64 (IntKind.wrap .u64 (Int.tdiv (IntKind.wrap .u64 (Int.tdiv wv 8)) 32))), (69, .bool false)] (fun w => by kernel_rfl) ?_
                    refine N_end (by kernel_rfl) ?_
                    refine S_env [(2, .pointer (some (Addr.mk b 0 none))), (7, .int .u64 (IntKind.wrap .u64 (Int.tdiv (IntKind.wrap .u64 (Int.tdiv wv 8)) 32))), (69, .bool ((((IntKind.wrap .i64 (Int.tmod (IntKind.wrap .u64 (Int.tdiv wv 8)) 32)) == 7) && (decide ((IntKind.wrap .u64 (Int.tdiv (IntKind.wrap .u64 (Int.tdiv wv 8)) 32)) ≤ 1114111))) && ((decide ((IntKind.wrap .u64 (Int.tdiv (IntKind.wrap .u64 (Int.tdiv wv 8)) 32)) < 55296)) || (decide ((IntKind.wrap .u64 (Int.tdiv (IntKind.wrap .u64 (Int.tdiv wv 8)) 32)) > 57343)))))] (by simp only [b36, b38, Bool.true_or, Bool.false_or, Bool.or_true, Bool.or_false, Bool.true_and, Bool.false_and, Bool.and_true, Bool.and_false, Bool.not_true, Bool.not_false, cond_true, cond_false]) ?_
                    exact hk
                · have b36 : ((IntKind.wrap .i64 (Int.tmod (IntKind.wrap .u64 (Int.tdiv wv 8)) 32)) == 7) = false := beq_eq_false_iff_ne.mpr c35
                  refine N_env [(2, .pointer (some (Addr.mk b 0 none))), (7, .int .u64 (IntKind.wrap .u64 (Int.tdiv (IntKind.wrap .u64 (Int.tdiv wv 8)) 32))), (58, .bool false)] (by simp only [b36, Bool.not_true, Bool.not_false]) ?_
                  refine N_run 11 [(2, .pointer (some (Addr.mk b 0 none))), (7, .int .u64 (IntKind.wrap .u64 (Int.tdiv (IntKind.wrap .u64 (Int.tdiv wv 8)) 32))), (69, .bool false)] (fun w => by kernel_rfl) ?_
                  refine N_end (by kernel_rfl) ?_
                  refine S_env [(2, .pointer (some (Addr.mk b 0 none))), (7, .int .u64 (IntKind.wrap .u64 (Int.tdiv (IntKind.wrap .u64 (Int.tdiv wv 8)) 32))), (69, .bool ((((IntKind.wrap .i64 (Int.tmod (IntKind.wrap .u64 (Int.tdiv wv 8)) 32)) == 7) && (decide ((IntKind.wrap .u64 (Int.tdiv (IntKind.wrap .u64 (Int.tdiv wv 8)) 32)) ≤ 1114111))) && ((decide ((IntKind.wrap .u64 (Int.tdiv (IntKind.wrap .u64 (Int.tdiv wv 8)) 32)) < 55296)) || (decide ((IntKind.wrap .u64 (Int.tdiv (IntKind.wrap .u64 (Int.tdiv wv 8)) 32)) > 57343)))))] (by simp only [b36, Bool.true_or, Bool.false_or, Bool.or_true, Bool.or_false, Bool.true_and, Bool.false_and, Bool.and_true, Bool.and_false, Bool.not_true, Bool.not_false, cond_true, cond_false]) ?_
                  exact hk
          · intro hk
            refine N_run 3 [(2, .pointer (some (Addr.mk b 0 none))), (6, .int .i64 (IntKind.wrap .i64 (Int.tmod (IntKind.wrap .u64 (Int.tdiv wv 8)) 32))), (7, .int .u64 (IntKind.wrap .u64 (Int.tdiv (IntKind.wrap .u64 (Int.tdiv wv 8)) 32))), (50, .bool (decide ((IntKind.wrap .i64 (Int.tmod (IntKind.wrap .u64 (Int.tdiv wv 8)) 32)) < 7)))] (fun w => by kernel_rfl) ?_
            by_cases c28 : (IntKind.wrap .i64 (Int.tmod (IntKind.wrap .u64 (Int.tdiv wv 8)) 32)) < 7
            · have b29 : (decide ((IntKind.wrap .i64 (Int.tmod (IntKind.wrap .u64 (Int.tdiv wv 8)) 32)) < 7)) = true := decide_eq_true c28
              refine N_env [(2, .pointer (some (Addr.mk b 0 none))), (6, .int .i64 (IntKind.wrap .i64 (Int.tmod (IntKind.wrap .u64 (Int.tdiv wv 8)) 32))), (7, .int .u64 (IntKind.wrap .u64 (Int.tdiv (IntKind.wrap .u64 (Int.tdiv wv 8)) 32))), (50, .bool true)] (by simp only [b29, Bool.not_true, Bool.not_false]) ?_
              refine N_run 3 [(2, .pointer (some (Addr.mk b 0 none))), (6, .int .i64 (IntKind.wrap .i64 (Int.tmod (IntKind.wrap .u64 (Int.tdiv wv 8)) 32))), (7, .int .u64 (IntKind.wrap .u64 (Int.tdiv (IntKind.wrap .u64 (Int.tdiv wv 8)) 32))), (53, .bool ((IntKind.wrap .u64 (Int.tdiv (IntKind.wrap .u64 (Int.tdiv wv 8)) 32)) == 0))] (fun w => by kernel_rfl) ?_
              refine N_end (by kernel_rfl) ?_
              refine S_env [(2, .pointer (some (Addr.mk b 0 none))), (6, .int .i64 (IntKind.wrap .i64 (Int.tmod (IntKind.wrap .u64 (Int.tdiv wv 8)) 32))), (7, .int .u64 (IntKind.wrap .u64 (Int.tdiv (IntKind.wrap .u64 (Int.tdiv wv 8)) 32))), (53, .bool ((decide ((IntKind.wrap .i64 (Int.tmod (IntKind.wrap .u64 (Int.tdiv wv 8)) 32)) < 7)) && ((IntKind.wrap .u64 (Int.tdiv (IntKind.wrap .u64 (Int.tdiv wv 8)) 32)) == 0)))] (by simp only [b29, Bool.true_or, Bool.false_or, Bool.or_true, Bool.or_false, Bool.true_and, Bool.false_and, Bool.and_true, Bool.and_false, Bool.not_true, Bool.not_false, cond_true, cond_false]) ?_
              exact hk
            · have b29 : (decide ((IntKind.wrap .i64 (Int.tmod (IntKind.wrap .u64 (Int.tdiv wv 8)) 32)) < 7)) = false := decide_eq_false c28
              refine N_env [(2, .pointer (some (Addr.mk b 0 none))), (6, .int .i64 (IntKind.wrap .i64 (Int.tmod (IntKind.wrap .u64 (Int.tdiv wv 8)) 32))), (7, .int .u64 (IntKind.wrap .u64 (Int.tdiv (IntKind.wrap .u64 (Int.tdiv wv 8)) 32))), (50, .bool false)] (by simp only [b29, Bool.not_true, Bool.not_false]) ?_
              refine N_run 3 [(2, .pointer (some (Addr.mk b 0 none))), (6, .int .i64 (IntKind.wrap .i64 (Int.tmod (IntKind.wrap .u64 (Int.tdiv wv 8)) 32))), (7, .int .u64 (IntKind.wrap .u64 (Int.tdiv (IntKind.wrap .u64 (Int.tdiv wv 8)) 32))), (53, .bool false)] (fun w => by kernel_rfl) ?_
              refine N_end (by kernel_rfl) ?_
              refine S_env [(2, .pointer (some (Addr.mk b 0 none))), (6, .int .i64 (IntKind.wrap .i64 (Int.tmod (IntKind.wrap .u64 (Int.tdiv wv 8)) 32))), (7, .int .u64 (IntKind.wrap .u64 (Int.tdiv (IntKind.wrap .u64 (Int.tdiv wv 8)) 32))), (53, .bool ((decide ((IntKind.wrap .i64 (Int.tmod (IntKind.wrap .u64 (Int.tdiv wv 8)) 32)) < 7)) && ((IntKind.wrap .u64 (Int.tdiv (IntKind.wrap .u64 (Int.tdiv wv 8)) 32)) == 0)))] (by simp only [b29, Bool.true_or, Bool.false_or, Bool.or_true, Bool.or_false, Bool.true_and, Bool.false_and, Bool.and_true, Bool.and_false, Bool.not_true, Bool.not_false, cond_true, cond_false]) ?_
              exact hk
        · rw [if_neg c26] at h
          have b27 : ((IntKind.wrap .i64 (Int.tmod wv 8)) == 4) = false := beq_eq_false_iff_ne.mpr c26
          refine S_env [(2, .pointer (some (Addr.mk b 0 none))), (6, .int .i64 (IntKind.wrap .i64 (Int.tmod (IntKind.wrap .u64 (Int.tdiv wv 8)) 32))), (7, .int .u64 (IntKind.wrap .u64 (Int.tdiv (IntKind.wrap .u64 (Int.tdiv wv 8)) 32))), (20, .int .i64 (IntKind.wrap .i64 (Int.tmod wv 8))), (46, .bool false)] (by simp only [b27, Bool.not_true, Bool.not_false]) ?_
          clear b27
          refine S_condF (.tmp 46) moraineref01_Of.k46 moraineref01_Of.k47 (by kernel_rfl) (by kernel_rfl) ?_
          refine S_seq moraineref01_Of.k62 moraineref01_Of.k63 (by kernel_rfl) ?_
          refine S_region 20 (Code.ops moraineref01_Of.k62) (by kernel_rfl) ?_
          refine N_run 2 [(2, .pointer (some (Addr.mk b 0 none))), (6, .int .i64 (IntKind.wrap .i64 (Int.tmod (IntKind.wrap .u64 (Int.tdiv wv 8)) 32))), (7, .int .u64 (IntKind.wrap .u64 (Int.tdiv (IntKind.wrap .u64 (Int.tdiv wv 8)) 32))), (73, .bool ((IntKind.wrap .i64 (Int.tmod wv 8)) == 5))] (fun w => by kernel_rfl) ?_
          refine N_end (by kernel_rfl) ?_
          refine S_then ?_
          by_cases c49 : (IntKind.wrap .i64 (Int.tmod wv 8)) = 5
          · rw [if_pos c49] at h
            have b50 : ((IntKind.wrap .i64 (Int.tmod wv 8)) == 5) = true := beq_iff_eq.mpr c49
            refine S_env [(2, .pointer (some (Addr.mk b 0 none))), (6, .int .i64 (IntKind.wrap .i64 (Int.tmod (IntKind.wrap .u64 (Int.tdiv wv 8)) 32))), (7, .int .u64 (IntKind.wrap .u64 (Int.tdiv (IntKind.wrap .u64 (Int.tdiv wv 8)) 32))), (73, .bool true)] (by simp only [b50, Bool.not_true, Bool.not_false]) ?_
            clear b50
            refine S_condT (.tmp 73) moraineref01_Of.k64 moraineref01_Of.k65 (by kernel_rfl) (by kernel_rfl) ?_
            refine S_seq moraineref01_Of.k66 moraineref01_Of.k67 (by kernel_rfl) ?_
            refine S_region 21 (Code.ops moraineref01_Of.k66) (by kernel_rfl) ?_
            refine N_run 4 [(2, .pointer (some (Addr.mk b 0 none))), (6, .int .i64 (IntKind.wrap .i64 (Int.tmod (IntKind.wrap .u64 (Int.tdiv wv 8)) 32))), (7, .int .u64 (IntKind.wrap .u64 (Int.tdiv (IntKind.wrap .u64 (Int.tdiv wv 8)) 32))), (8, .int .i64 (IntKind.wrap .i64 (Int.tmod (IntKind.wrap .u64 (Int.tdiv (IntKind.wrap .u64 (Int.tdiv wv 8)) 32)) 256)))] (fun w => by kernel_rfl) ?_
            refine N_end (by kernel_rfl) ?_
            refine S_then ?_
            refine S_seq moraineref01_Of.k68 moraineref01_Of.k69 (by kernel_rfl) ?_
            refine S_region 22 (Code.ops moraineref01_Of.k68) (by kernel_rfl) ?_
            refine N_cut [(2, .pointer (some (Addr.mk b 0 none))), (6, .int .i64 (IntKind.wrap .i64 (Int.tmod (IntKind.wrap .u64 (Int.tdiv wv 8)) 32))), (7, .int .u64 (IntKind.wrap .u64 (Int.tdiv (IntKind.wrap .u64 (Int.tdiv wv 8)) 32))), (8, .int .i64 (IntKind.wrap .i64 (Int.tmod (IntKind.wrap .u64 (Int.tdiv (IntKind.wrap .u64 (Int.tdiv wv 8)) 32)) 256))), (87, .bool (((decide ((IntKind.wrap .i64 (Int.tmod (IntKind.wrap .u64 (Int.tdiv wv 8)) 32)) ≥ 1)) && (decide ((IntKind.wrap .i64 (Int.tmod (IntKind.wrap .u64 (Int.tdiv wv 8)) 32)) ≤ 13))) && (decide ((IntKind.wrap .i64 (Int.tmod (IntKind.wrap .u64 (Int.tdiv (IntKind.wrap .u64 (Int.tdiv wv 8)) 32)) 256)) ≤ 62))))] ?_ ?_
            · refine S_then ?_
              by_cases c55 : (((decide ((IntKind.wrap .i64 (Int.tmod (IntKind.wrap .u64 (Int.tdiv wv 8)) 32)) ≥ 1)) && (decide ((IntKind.wrap .i64 (Int.tmod (IntKind.wrap .u64 (Int.tdiv wv 8)) 32)) ≤ 13))) && (decide ((IntKind.wrap .i64 (Int.tmod (IntKind.wrap .u64 (Int.tdiv (IntKind.wrap .u64 (Int.tdiv wv 8)) 32)) 256)) ≤ 62))) = true
              · rw [if_pos c55] at h
                have b56 : (((decide ((IntKind.wrap .i64 (Int.tmod (IntKind.wrap .u64 (Int.tdiv wv 8)) 32)) ≥ 1)) && (decide ((IntKind.wrap .i64 (Int.tmod (IntKind.wrap .u64 (Int.tdiv wv 8)) 32)) ≤ 13))) && (decide ((IntKind.wrap .i64 (Int.tmod (IntKind.wrap .u64 (Int.tdiv (IntKind.wrap .u64 (Int.tdiv wv 8)) 32)) 256)) ≤ 62))) = true := c55
                refine S_env [(2, .pointer (some (Addr.mk b 0 none))), (6, .int .i64 (IntKind.wrap .i64 (Int.tmod (IntKind.wrap .u64 (Int.tdiv wv 8)) 32))), (7, .int .u64 (IntKind.wrap .u64 (Int.tdiv (IntKind.wrap .u64 (Int.tdiv wv 8)) 32))), (8, .int .i64 (IntKind.wrap .i64 (Int.tmod (IntKind.wrap .u64 (Int.tdiv (IntKind.wrap .u64 (Int.tdiv wv 8)) 32)) 256))), (87, .bool true)] (by simp only [b56, Bool.not_true, Bool.not_false]) ?_
                clear b56
                refine S_condT (.tmp 87) moraineref01_Of.k70 moraineref01_Of.k71 (by kernel_rfl) (by kernel_rfl) ?_
                refine S_seq moraineref01_Of.k72 moraineref01_Of.k73 (by kernel_rfl) ?_
                refine S_region 23 (Code.ops moraineref01_Of.k72) (by kernel_rfl) ?_
                refine N_run 5 [(2, .pointer (some (Addr.mk b 0 none))), (92, .agg #[.int .i64 5, .int .i64 (IntKind.wrap .i64 (Int.tmod (IntKind.wrap .u64 (Int.tdiv wv 8)) 32)), .int .i64 (IntKind.wrap .i64 (Int.tmod (IntKind.wrap .u64 (Int.tdiv (IntKind.wrap .u64 (Int.tdiv wv 8)) 32)) 256)), .int .i64 0, .int .u64 (IntKind.wrap .u64 (Int.tdiv (IntKind.wrap .u64 (Int.tdiv (IntKind.wrap .u64 (Int.tdiv wv 8)) 32)) 256))])] (fun w => by kernel_rfl) ?_
                obtain ⟨q58, h⟩ := h
                refine N_skipop none (storeN 30 (.pointer (some (Addr.mk b 0 none))) (.agg #[.int .i64 5, .int .i64 (IntKind.wrap .i64 (Int.tmod (IntKind.wrap .u64 (Int.tdiv wv 8)) 32)), .int .i64 (IntKind.wrap .i64 (Int.tmod (IntKind.wrap .u64 (Int.tdiv (IntKind.wrap .u64 (Int.tdiv wv 8)) 32)) 256)), .int .i64 0, .int .u64 (IntKind.wrap .u64 (Int.tdiv (IntKind.wrap .u64 (Int.tdiv (IntKind.wrap .u64 (Int.tdiv wv 8)) 32)) 256))])) (fun H1 => H1 = hputs H6 (Addr.mk b 0 none) [.int .i64 5, .int .i64 (IntKind.wrap .i64 (Int.tmod (IntKind.wrap .u64 (Int.tdiv wv 8)) 32)), .int .i64 (IntKind.wrap .i64 (Int.tmod (IntKind.wrap .u64 (Int.tdiv (IntKind.wrap .u64 (Int.tdiv wv 8)) 32)) 256)), .int .i64 0, .int .u64 (IntKind.wrap .u64 (Int.tdiv (IntKind.wrap .u64 (Int.tdiv (IntKind.wrap .u64 (Int.tdiv wv 8)) 32)) 256))] 0) (fun w => by kernel_rfl) (ss_store [.int .i64 5, .int .i64 (IntKind.wrap .i64 (Int.tmod (IntKind.wrap .u64 (Int.tdiv wv 8)) 32)), .int .i64 (IntKind.wrap .i64 (Int.tmod (IntKind.wrap .u64 (Int.tdiv (IntKind.wrap .u64 (Int.tdiv wv 8)) 32)) 256)), .int .i64 0, .int .u64 (IntKind.wrap .u64 (Int.tdiv (IntKind.wrap .u64 (Int.tdiv (IntKind.wrap .u64 (Int.tdiv wv 8)) 32)) 256))] 5 (by kernel_rfl) (by kernel_rfl) (fun w => by kernel_rfl) (by kernel_rfl) q58) ?_
                intro H12 e57
                replace h := h H12 e57
                refine ⟨[(2, .pointer (some (Addr.mk b 0 none)))], ps (by kernel_rfl), ?_⟩
                refine N_end (by kernel_rfl) ?_
                refine S_then ?_
                refine S_ret (by kernel_rfl) ?_
                show At _ _ _ _ (Q .ret)
                obtain ⟨rKind_8, rTag_8, rA_8, rX_8, rMore_8, q59, h⟩ := h
                exact S_done (fn := Try.f19) [.agg #[.int .i64 rKind_8, .int .i64 rTag_8, .int .i64 rA_8, .int .i64 rX_8, .int .u64 rMore_8]] hQ (show ResOK _ _ _ [.cell 2 30] _ from .cell (by kernel_rfl) (loadOK_row (fun w => by kernel_rfl) (fun w => by kernel_rfl) q59) (.nil)) h
              · rw [if_neg c55] at h
                have b56 : (((decide ((IntKind.wrap .i64 (Int.tmod (IntKind.wrap .u64 (Int.tdiv wv 8)) 32)) ≥ 1)) && (decide ((IntKind.wrap .i64 (Int.tmod (IntKind.wrap .u64 (Int.tdiv wv 8)) 32)) ≤ 13))) && (decide ((IntKind.wrap .i64 (Int.tmod (IntKind.wrap .u64 (Int.tdiv (IntKind.wrap .u64 (Int.tdiv wv 8)) 32)) 256)) ≤ 62))) = false := eq_false_of_ne_true c55
                refine S_env [(2, .pointer (some (Addr.mk b 0 none))), (6, .int .i64 (IntKind.wrap .i64 (Int.tmod (IntKind.wrap .u64 (Int.tdiv wv 8)) 32))), (7, .int .u64 (IntKind.wrap .u64 (Int.tdiv (IntKind.wrap .u64 (Int.tdiv wv 8)) 32))), (8, .int .i64 (IntKind.wrap .i64 (Int.tmod (IntKind.wrap .u64 (Int.tdiv (IntKind.wrap .u64 (Int.tdiv wv 8)) 32)) 256))), (87, .bool false)] (by simp only [b56, Bool.not_true, Bool.not_false]) ?_
                clear b56
                refine S_condF (.tmp 87) moraineref01_Of.k70 moraineref01_Of.k71 (by kernel_rfl) (by kernel_rfl) ?_
                refine S_skip (by kernel_rfl) ?_
                refine S_blockEnd ?_
                refine S_then ?_
                refine S_seq moraineref01_Of.k42 moraineref01_Of.k43 (by kernel_rfl) ?_
                refine S_region 24 (Code.ops moraineref01_Of.k42) (by kernel_rfl) ?_
                refine N_run 1 [(2, .pointer (some (Addr.mk b 0 none))), (93, .agg #[.int .i64 0, .int .i64 0, .int .i64 0, .int .i64 0, .int .u64 0])] (fun w => by kernel_rfl) ?_
                obtain ⟨q61, h⟩ := h
                refine N_skipop none (storeN 30 (.pointer (some (Addr.mk b 0 none))) (.agg #[.int .i64 0, .int .i64 0, .int .i64 0, .int .i64 0, .int .u64 0])) (fun H1 => H1 = hputs H6 (Addr.mk b 0 none) [.int .i64 0, .int .i64 0, .int .i64 0, .int .i64 0, .int .u64 0] 0) (fun w => by kernel_rfl) (ss_store [.int .i64 0, .int .i64 0, .int .i64 0, .int .i64 0, .int .u64 0] 5 (by kernel_rfl) (by kernel_rfl) (fun w => by kernel_rfl) (by kernel_rfl) q61) ?_
                intro H13 e60
                replace h := h H13 e60
                refine ⟨[(2, .pointer (some (Addr.mk b 0 none)))], ps (by kernel_rfl), ?_⟩
                refine N_end (by kernel_rfl) ?_
                refine S_then ?_
                refine S_ret (by kernel_rfl) ?_
                show At _ _ _ _ (Q .ret)
                obtain ⟨rKind_9, rTag_9, rA_9, rX_9, rMore_9, q62, h⟩ := h
                exact S_done (fn := Try.f19) [.agg #[.int .i64 rKind_9, .int .i64 rTag_9, .int .i64 rA_9, .int .i64 rX_9, .int .u64 rMore_9]] hQ (show ResOK _ _ _ [.cell 2 30] _ from .cell (by kernel_rfl) (loadOK_row (fun w => by kernel_rfl) (fun w => by kernel_rfl) q62) (.nil)) h
            · intro hk
              refine N_run 3 [(2, .pointer (some (Addr.mk b 0 none))), (6, .int .i64 (IntKind.wrap .i64 (Int.tmod (IntKind.wrap .u64 (Int.tdiv wv 8)) 32))), (7, .int .u64 (IntKind.wrap .u64 (Int.tdiv (IntKind.wrap .u64 (Int.tdiv wv 8)) 32))), (8, .int .i64 (IntKind.wrap .i64 (Int.tmod (IntKind.wrap .u64 (Int.tdiv (IntKind.wrap .u64 (Int.tdiv wv 8)) 32)) 256))), (80, .bool (decide ((IntKind.wrap .i64 (Int.tmod (IntKind.wrap .u64 (Int.tdiv wv 8)) 32)) ≥ 1)))] (fun w => by kernel_rfl) ?_
              by_cases c51 : (IntKind.wrap .i64 (Int.tmod (IntKind.wrap .u64 (Int.tdiv wv 8)) 32)) ≥ 1
              · have b52 : (decide ((IntKind.wrap .i64 (Int.tmod (IntKind.wrap .u64 (Int.tdiv wv 8)) 32)) ≥ 1)) = true := decide_eq_true c51
                refine N_env [(2, .pointer (some (Addr.mk b 0 none))), (6, .int .i64 (IntKind.wrap .i64 (Int.tmod (IntKind.wrap .u64 (Int.tdiv wv 8)) 32))), (7, .int .u64 (IntKind.wrap .u64 (Int.tdiv (IntKind.wrap .u64 (Int.tdiv wv 8)) 32))), (8, .int .i64 (IntKind.wrap .i64 (Int.tmod (IntKind.wrap .u64 (Int.tdiv (IntKind.wrap .u64 (Int.tdiv wv 8)) 32)) 256))), (80, .bool true)] (by simp only [b52, Bool.not_true, Bool.not_false]) ?_
                refine N_run 4 [(2, .pointer (some (Addr.mk b 0 none))), (6, .int .i64 (IntKind.wrap .i64 (Int.tmod (IntKind.wrap .u64 (Int.tdiv wv 8)) 32))), (7, .int .u64 (IntKind.wrap .u64 (Int.tdiv (IntKind.wrap .u64 (Int.tdiv wv 8)) 32))), (8, .int .i64 (IntKind.wrap .i64 (Int.tmod (IntKind.wrap .u64 (Int.tdiv (IntKind.wrap .u64 (Int.tdiv wv 8)) 32)) 256))), (84, .bool (decide ((IntKind.wrap .i64 (Int.tmod (IntKind.wrap .u64 (Int.tdiv wv 8)) 32)) ≤ 13)))] (fun w => by kernel_rfl) ?_
                by_cases c53 : (IntKind.wrap .i64 (Int.tmod (IntKind.wrap .u64 (Int.tdiv wv 8)) 32)) ≤ 13
                · have b54 : (decide ((IntKind.wrap .i64 (Int.tmod (IntKind.wrap .u64 (Int.tdiv wv 8)) 32)) ≤ 13)) = true := decide_eq_true c53
                  refine N_env [(2, .pointer (some (Addr.mk b 0 none))), (6, .int .i64 (IntKind.wrap .i64 (Int.tmod (IntKind.wrap .u64 (Int.tdiv wv 8)) 32))), (7, .int .u64 (IntKind.wrap .u64 (Int.tdiv (IntKind.wrap .u64 (Int.tdiv wv 8)) 32))), (8, .int .i64 (IntKind.wrap .i64 (Int.tmod (IntKind.wrap .u64 (Int.tdiv (IntKind.wrap .u64 (Int.tdiv wv 8)) 32)) 256))), (84, .bool true)] (by simp only [b54, Bool.not_true, Bool.not_false]) ?_
                  refine N_run 3 [(2, .pointer (some (Addr.mk b 0 none))), (6, .int .i64 (IntKind.wrap .i64 (Int.tmod (IntKind.wrap .u64 (Int.tdiv wv 8)) 32))), (7, .int .u64 (IntKind.wrap .u64 (Int.tdiv (IntKind.wrap .u64 (Int.tdiv wv 8)) 32))), (8, .int .i64 (IntKind.wrap .i64 (Int.tmod (IntKind.wrap .u64 (Int.tdiv (IntKind.wrap .u64 (Int.tdiv wv 8)) 32)) 256))), (87, .bool (decide ((IntKind.wrap .i64 (Int.tmod (IntKind.wrap .u64 (Int.tdiv (IntKind.wrap .u64 (Int.tdiv wv 8)) 32)) 256)) ≤ 62)))] (fun w => by kernel_rfl) ?_
                  refine N_end (by kernel_rfl) ?_
                  refine S_env [(2, .pointer (some (Addr.mk b 0 none))), (6, .int .i64 (IntKind.wrap .i64 (Int.tmod (IntKind.wrap .u64 (Int.tdiv wv 8)) 32))), (7, .int .u64 (IntKind.wrap .u64 (Int.tdiv (IntKind.wrap .u64 (Int.tdiv wv 8)) 32))), (8, .int .i64 (IntKind.wrap .i64 (Int.tmod (IntKind.wrap .u64 (Int.tdiv (IntKind.wrap .u64 (Int.tdiv wv 8)) 32)) 256))), (87, .bool (((decide ((IntKind.wrap .i64 (Int.tmod (IntKind.wrap .u64 (Int.tdiv wv 8)) 32)) ≥ 1)) && (decide ((IntKind.wrap .i64 (Int.tmod (IntKind.wrap .u64 (Int.tdiv wv 8)) 32)) ≤ 13))) && (decide ((IntKind.wrap .i64 (Int.tmod (IntKind.wrap .u64 (Int.tdiv (IntKind.wrap .u64 (Int.tdiv wv 8)) 32)) 256)) ≤ 62))))] (by simp only [b52, b54, Bool.true_or, Bool.false_or, Bool.or_true, Bool.or_false, Bool.true_and, Bool.false_and, Bool.and_true, Bool.and_false, Bool.not_true, Bool.not_false, cond_true, cond_false]) ?_
                  exact hk
                · have b54 : (decide ((IntKind.wrap .i64 (Int.tmod (IntKind.wrap .u64 (Int.tdiv wv 8)) 32)) ≤ 13)) = false := decide_eq_false c53
                  refine N_env [(2, .pointer (some (Addr.mk b 0 none))), (6, .int .i64 (IntKind.wrap .i64 (Int.tmod (IntKind.wrap .u64 (Int.tdiv wv 8)) 32))), (7, .int .u64 (IntKind.wrap .u64 (Int.tdiv (IntKind.wrap .u64 (Int.tdiv wv 8)) 32))), (8, .int .i64 (IntKind.wrap .i64 (Int.tmod (IntKind.wrap .u64 (Int.tdiv (IntKind.wrap .u64 (Int.tdiv wv 8)) 32)) 256))), (84, .bool false)] (by simp only [b54, Bool.not_true, Bool.not_false]) ?_
                  refine N_run 3 [(2, .pointer (some (Addr.mk b 0 none))), (6, .int .i64 (IntKind.wrap .i64 (Int.tmod (IntKind.wrap .u64 (Int.tdiv wv 8)) 32))), (7, .int .u64 (IntKind.wrap .u64 (Int.tdiv (IntKind.wrap .u64 (Int.tdiv wv 8)) 32))), (8, .int .i64 (IntKind.wrap .i64 (Int.tmod (IntKind.wrap .u64 (Int.tdiv (IntKind.wrap .u64 (Int.tdiv wv 8)) 32)) 256))), (87, .bool false)] (fun w => by kernel_rfl) ?_
                  refine N_end (by kernel_rfl) ?_
                  refine S_env [(2, .pointer (some (Addr.mk b 0 none))), (6, .int .i64 (IntKind.wrap .i64 (Int.tmod (IntKind.wrap .u64 (Int.tdiv wv 8)) 32))), (7, .int .u64 (IntKind.wrap .u64 (Int.tdiv (IntKind.wrap .u64 (Int.tdiv wv 8)) 32))), (8, .int .i64 (IntKind.wrap .i64 (Int.tmod (IntKind.wrap .u64 (Int.tdiv (IntKind.wrap .u64 (Int.tdiv wv 8)) 32)) 256))), (87, .bool (((decide ((IntKind.wrap .i64 (Int.tmod (IntKind.wrap .u64 (Int.tdiv wv 8)) 32)) ≥ 1)) && (decide ((IntKind.wrap .i64 (Int.tmod (IntKind.wrap .u64 (Int.tdiv wv 8)) 32)) ≤ 13))) && (decide ((IntKind.wrap .i64 (Int.tmod (IntKind.wrap .u64 (Int.tdiv (IntKind.wrap .u64 (Int.tdiv wv 8)) 32)) 256)) ≤ 62))))] (by simp only [b52, b54, Bool.true_or, Bool.false_or, Bool.or_true, Bool.or_false, Bool.true_and, Bool.false_and, Bool.and_true, Bool.and_false, Bool.not_true, Bool.not_false, cond_true, cond_false]) ?_
                  exact hk
              · have b52 : (decide ((IntKind.wrap .i64 (Int.tmod (IntKind.wrap .u64 (Int.tdiv wv 8)) 32)) ≥ 1)) = false := decide_eq_false c51
                refine N_env [(2, .pointer (some (Addr.mk b 0 none))), (6, .int .i64 (IntKind.wrap .i64 (Int.tmod (IntKind.wrap .u64 (Int.tdiv wv 8)) 32))), (7, .int .u64 (IntKind.wrap .u64 (Int.tdiv (IntKind.wrap .u64 (Int.tdiv wv 8)) 32))), (8, .int .i64 (IntKind.wrap .i64 (Int.tmod (IntKind.wrap .u64 (Int.tdiv (IntKind.wrap .u64 (Int.tdiv wv 8)) 32)) 256))), (80, .bool false)] (by simp only [b52, Bool.not_true, Bool.not_false]) ?_
                refine N_run 7 [(2, .pointer (some (Addr.mk b 0 none))), (6, .int .i64 (IntKind.wrap .i64 (Int.tmod (IntKind.wrap .u64 (Int.tdiv wv 8)) 32))), (7, .int .u64 (IntKind.wrap .u64 (Int.tdiv (IntKind.wrap .u64 (Int.tdiv wv 8)) 32))), (8, .int .i64 (IntKind.wrap .i64 (Int.tmod (IntKind.wrap .u64 (Int.tdiv (IntKind.wrap .u64 (Int.tdiv wv 8)) 32)) 256))), (87, .bool false)] (fun w => by kernel_rfl) ?_
                refine N_end (by kernel_rfl) ?_
                refine S_env [(2, .pointer (some (Addr.mk b 0 none))), (6, .int .i64 (IntKind.wrap .i64 (Int.tmod (IntKind.wrap .u64 (Int.tdiv wv 8)) 32))), (7, .int .u64 (IntKind.wrap .u64 (Int.tdiv (IntKind.wrap .u64 (Int.tdiv wv 8)) 32))), (8, .int .i64 (IntKind.wrap .i64 (Int.tmod (IntKind.wrap .u64 (Int.tdiv (IntKind.wrap .u64 (Int.tdiv wv 8)) 32)) 256))), (87, .bool (((decide ((IntKind.wrap .i64 (Int.tmod (IntKind.wrap .u64 (Int.tdiv wv 8)) 32)) ≥ 1)) && (decide ((IntKind.wrap .i64 (Int.tmod (IntKind.wrap .u64 (Int.tdiv wv 8)) 32)) ≤ 13))) && (decide ((IntKind.wrap .i64 (Int.tmod (IntKind.wrap .u64 (Int.tdiv (IntKind.wrap .u64 (Int.tdiv wv 8)) 32)) 256)) ≤ 62))))] (by simp only [b52, Bool.true_or, Bool.false_or, Bool.or_true, Bool.or_false, Bool.true_and, Bool.false_and, Bool.and_true, Bool.and_false, Bool.not_true, Bool.not_false, cond_true, cond_false]) ?_
                exact hk
          · rw [if_neg c49] at h
            have b50 : ((IntKind.wrap .i64 (Int.tmod wv 8)) == 5) = false := beq_eq_false_iff_ne.mpr c49
            refine S_env [(2, .pointer (some (Addr.mk b 0 none))), (6, .int .i64 (IntKind.wrap .i64 (Int.tmod (IntKind.wrap .u64 (Int.tdiv wv 8)) 32))), (7, .int .u64 (IntKind.wrap .u64 (Int.tdiv (IntKind.wrap .u64 (Int.tdiv wv 8)) 32))), (73, .bool false)] (by simp only [b50, Bool.not_true, Bool.not_false]) ?_
            clear b50
            refine S_condF (.tmp 73) moraineref01_Of.k64 moraineref01_Of.k65 (by kernel_rfl) (by kernel_rfl) ?_
            refine S_skip (by kernel_rfl) ?_
            refine S_blockEnd ?_
            refine S_then ?_
            refine S_seq moraineref01_Of.k42 moraineref01_Of.k43 (by kernel_rfl) ?_
            refine S_region 24 (Code.ops moraineref01_Of.k42) (by kernel_rfl) ?_
            refine N_run 1 [(2, .pointer (some (Addr.mk b 0 none))), (93, .agg #[.int .i64 0, .int .i64 0, .int .i64 0, .int .i64 0, .int .u64 0])] (fun w => by kernel_rfl) ?_
            obtain ⟨q64, h⟩ := h
            refine N_skipop none (storeN 30 (.pointer (some (Addr.mk b 0 none))) (.agg #[.int .i64 0, .int .i64 0, .int .i64 0, .int .i64 0, .int .u64 0])) (fun H1 => H1 = hputs H6 (Addr.mk b 0 none) [.int .i64 0, .int .i64 0, .int .i64 0, .int .i64 0, .int .u64 0] 0) (fun w => by kernel_rfl) (ss_store [.int .i64 0, .int .i64 0, .int .i64 0, .int .i64 0, .int .u64 0] 5 (by kernel_rfl) (by kernel_rfl) (fun w => by kernel_rfl) (by kernel_rfl) q64) ?_
            intro H14 e63
            replace h := h H14 e63
            refine ⟨[(2, .pointer (some (Addr.mk b 0 none)))], ps (by kernel_rfl), ?_⟩
            refine N_end (by kernel_rfl) ?_
            refine S_then ?_
            refine S_ret (by kernel_rfl) ?_
            show At _ _ _ _ (Q .ret)
            obtain ⟨rKind_10, rTag_10, rA_10, rX_10, rMore_10, q65, h⟩ := h
            exact S_done (fn := Try.f19) [.agg #[.int .i64 rKind_10, .int .i64 rTag_10, .int .i64 rA_10, .int .i64 rX_10, .int .u64 rMore_10]] hQ (show ResOK _ _ _ [.cell 2 30] _ from .cell (by kernel_rfl) (loadOK_row (fun w => by kernel_rfl) (fun w => by kernel_rfl) q65) (.nil)) h
    · by_cases c66 : (IntKind.wrap .i64 (Int.tmod wv 8)) = 1
      · rw [if_pos c66] at h
        have b67 : ((IntKind.wrap .i64 (Int.tmod wv 8)) == 1) = true := beq_iff_eq.mpr c66
        refine S_env [(2, .pointer (some (Addr.mk b 0 none))), (4, .int .i64 (IntKind.wrap .i64 (Int.tmod wv 8))), (5, .int .u64 (IntKind.wrap .u64 (Int.tdiv wv 8))), (6, .int .i64 (IntKind.wrap .i64 (Int.tmod (IntKind.wrap .u64 (Int.tdiv wv 8)) 32))), (7, .int .u64 (IntKind.wrap .u64 (Int.tdiv (IntKind.wrap .u64 (Int.tdiv wv 8)) 32))), (20, .int .i64 (IntKind.wrap .i64 (Int.tmod wv 8))), (35, .bool true)] (by simp only [b67, Bool.not_true, Bool.not_false]) ?_
        clear b67
        refine S_condT (.tmp 35) moraineref01_Of.k32 moraineref01_Of.k33 (by kernel_rfl) (by kernel_rfl) ?_
        refine S_skip (by kernel_rfl) ?_
        refine S_then ?_
        exact S_meet (true : Bool) (sb (by kernel_rfl)) h
      · rw [if_neg c66] at h
        have b67 : ((IntKind.wrap .i64 (Int.tmod wv 8)) == 1) = false := beq_eq_false_iff_ne.mpr c66
        refine S_env [(2, .pointer (some (Addr.mk b 0 none))), (4, .int .i64 (IntKind.wrap .i64 (Int.tmod wv 8))), (5, .int .u64 (IntKind.wrap .u64 (Int.tdiv wv 8))), (6, .int .i64 (IntKind.wrap .i64 (Int.tmod (IntKind.wrap .u64 (Int.tdiv wv 8)) 32))), (7, .int .u64 (IntKind.wrap .u64 (Int.tdiv (IntKind.wrap .u64 (Int.tdiv wv 8)) 32))), (20, .int .i64 (IntKind.wrap .i64 (Int.tmod wv 8))), (35, .bool false)] (by simp only [b67, Bool.not_true, Bool.not_false]) ?_
        clear b67
        refine S_condF (.tmp 35) moraineref01_Of.k32 moraineref01_Of.k33 (by kernel_rfl) (by kernel_rfl) ?_
        refine S_seq moraineref01_Of.k74 moraineref01_Of.k75 (by kernel_rfl) ?_
        refine S_region 10 (Code.ops moraineref01_Of.k74) (by kernel_rfl) ?_
        refine N_run 2 [(2, .pointer (some (Addr.mk b 0 none))), (4, .int .i64 (IntKind.wrap .i64 (Int.tmod wv 8))), (5, .int .u64 (IntKind.wrap .u64 (Int.tdiv wv 8))), (6, .int .i64 (IntKind.wrap .i64 (Int.tmod (IntKind.wrap .u64 (Int.tdiv wv 8)) 32))), (7, .int .u64 (IntKind.wrap .u64 (Int.tdiv (IntKind.wrap .u64 (Int.tdiv wv 8)) 32))), (20, .int .i64 (IntKind.wrap .i64 (Int.tmod wv 8))), (35, .bool ((IntKind.wrap .i64 (Int.tmod wv 8)) == 2))] (fun w => by kernel_rfl) ?_
        refine N_end (by kernel_rfl) ?_
        refine S_then ?_
        by_cases c68 : (IntKind.wrap .i64 (Int.tmod wv 8)) = 2
        · rw [if_pos c68] at h
          have b69 : ((IntKind.wrap .i64 (Int.tmod wv 8)) == 2) = true := beq_iff_eq.mpr c68
          refine S_env [(2, .pointer (some (Addr.mk b 0 none))), (4, .int .i64 (IntKind.wrap .i64 (Int.tmod wv 8))), (5, .int .u64 (IntKind.wrap .u64 (Int.tdiv wv 8))), (6, .int .i64 (IntKind.wrap .i64 (Int.tmod (IntKind.wrap .u64 (Int.tdiv wv 8)) 32))), (7, .int .u64 (IntKind.wrap .u64 (Int.tdiv (IntKind.wrap .u64 (Int.tdiv wv 8)) 32))), (20, .int .i64 (IntKind.wrap .i64 (Int.tmod wv 8))), (35, .bool true)] (by simp only [b69, Bool.not_true, Bool.not_false]) ?_
          clear b69
          refine S_condT (.tmp 35) moraineref01_Of.k76 moraineref01_Of.k77 (by kernel_rfl) (by kernel_rfl) ?_
          refine S_skip (by kernel_rfl) ?_
          refine S_then ?_
          exact S_meet (true : Bool) (sb (by kernel_rfl)) h
        · rw [if_neg c68] at h
          have b69 : ((IntKind.wrap .i64 (Int.tmod wv 8)) == 2) = false := beq_eq_false_iff_ne.mpr c68
          refine S_env [(2, .pointer (some (Addr.mk b 0 none))), (4, .int .i64 (IntKind.wrap .i64 (Int.tmod wv 8))), (5, .int .u64 (IntKind.wrap .u64 (Int.tdiv wv 8))), (6, .int .i64 (IntKind.wrap .i64 (Int.tmod (IntKind.wrap .u64 (Int.tdiv wv 8)) 32))), (7, .int .u64 (IntKind.wrap .u64 (Int.tdiv (IntKind.wrap .u64 (Int.tdiv wv 8)) 32))), (20, .int .i64 (IntKind.wrap .i64 (Int.tmod wv 8))), (35, .bool false)] (by simp only [b69, Bool.not_true, Bool.not_false]) ?_
          clear b69
          refine S_condF (.tmp 35) moraineref01_Of.k76 moraineref01_Of.k77 (by kernel_rfl) (by kernel_rfl) ?_
          refine S_seq moraineref01_Of.k78 moraineref01_Of.k79 (by kernel_rfl) ?_
          refine S_region 11 (Code.ops moraineref01_Of.k78) (by kernel_rfl) ?_
          refine N_run 2 [(2, .pointer (some (Addr.mk b 0 none))), (4, .int .i64 (IntKind.wrap .i64 (Int.tmod wv 8))), (5, .int .u64 (IntKind.wrap .u64 (Int.tdiv wv 8))), (6, .int .i64 (IntKind.wrap .i64 (Int.tmod (IntKind.wrap .u64 (Int.tdiv wv 8)) 32))), (7, .int .u64 (IntKind.wrap .u64 (Int.tdiv (IntKind.wrap .u64 (Int.tdiv wv 8)) 32))), (20, .int .i64 (IntKind.wrap .i64 (Int.tmod wv 8))), (35, .bool ((IntKind.wrap .i64 (Int.tmod wv 8)) == 3))] (fun w => by kernel_rfl) ?_
          refine N_end (by kernel_rfl) ?_
          refine S_then ?_
          by_cases c70 : (IntKind.wrap .i64 (Int.tmod wv 8)) = 3
          · rw [if_pos c70] at h
            have b71 : ((IntKind.wrap .i64 (Int.tmod wv 8)) == 3) = true := beq_iff_eq.mpr c70
            refine S_env [(2, .pointer (some (Addr.mk b 0 none))), (4, .int .i64 (IntKind.wrap .i64 (Int.tmod wv 8))), (5, .int .u64 (IntKind.wrap .u64 (Int.tdiv wv 8))), (6, .int .i64 (IntKind.wrap .i64 (Int.tmod (IntKind.wrap .u64 (Int.tdiv wv 8)) 32))), (7, .int .u64 (IntKind.wrap .u64 (Int.tdiv (IntKind.wrap .u64 (Int.tdiv wv 8)) 32))), (20, .int .i64 (IntKind.wrap .i64 (Int.tmod wv 8))), (35, .bool true)] (by simp only [b71, Bool.not_true, Bool.not_false]) ?_
            clear b71
            refine S_condT (.tmp 35) moraineref01_Of.k80 moraineref01_Of.k81 (by kernel_rfl) (by kernel_rfl) ?_
            refine S_skip (by kernel_rfl) ?_
            refine S_then ?_
            exact S_meet (true : Bool) (sb (by kernel_rfl)) h
          · rw [if_neg c70] at h
            have b71 : ((IntKind.wrap .i64 (Int.tmod wv 8)) == 3) = false := beq_eq_false_iff_ne.mpr c70
            refine S_env [(2, .pointer (some (Addr.mk b 0 none))), (4, .int .i64 (IntKind.wrap .i64 (Int.tmod wv 8))), (5, .int .u64 (IntKind.wrap .u64 (Int.tdiv wv 8))), (6, .int .i64 (IntKind.wrap .i64 (Int.tmod (IntKind.wrap .u64 (Int.tdiv wv 8)) 32))), (7, .int .u64 (IntKind.wrap .u64 (Int.tdiv (IntKind.wrap .u64 (Int.tdiv wv 8)) 32))), (20, .int .i64 (IntKind.wrap .i64 (Int.tmod wv 8))), (35, .bool false)] (by simp only [b71, Bool.not_true, Bool.not_false]) ?_
            clear b71
            refine S_condF (.tmp 35) moraineref01_Of.k80 moraineref01_Of.k81 (by kernel_rfl) (by kernel_rfl) ?_
            refine S_region 12 (Code.ops moraineref01_Of.k81) (by kernel_rfl) ?_
            refine N_run 2 [(2, .pointer (some (Addr.mk b 0 none))), (4, .int .i64 (IntKind.wrap .i64 (Int.tmod wv 8))), (5, .int .u64 (IntKind.wrap .u64 (Int.tdiv wv 8))), (6, .int .i64 (IntKind.wrap .i64 (Int.tmod (IntKind.wrap .u64 (Int.tdiv wv 8)) 32))), (7, .int .u64 (IntKind.wrap .u64 (Int.tdiv (IntKind.wrap .u64 (Int.tdiv wv 8)) 32))), (20, .int .i64 (IntKind.wrap .i64 (Int.tmod wv 8))), (35, .bool ((IntKind.wrap .i64 (Int.tmod wv 8)) == 6))] (fun w => by kernel_rfl) ?_
            refine N_end (by kernel_rfl) ?_
            refine S_then ?_
            exact S_meet (((IntKind.wrap .i64 (Int.tmod wv 8)) == 6) : Bool) (sb (by kernel_rfl)) h

/-! moraine/word.Int -/
noncomputable def word_Int.k0 : Code := Func.code Try.f20
noncomputable def word_Int.k1 : Code := Code.fa word_Int.k0
noncomputable def word_Int.k2 : Code := Code.fb word_Int.k0
noncomputable def word_Int.k3 : Code := Code.fa word_Int.k2
noncomputable def word_Int.k4 : Code := Code.fb word_Int.k2
noncomputable def word_Int.k5 : Code := Code.fa word_Int.k3
noncomputable def word_Int.k6 : Code := Code.fb word_Int.k3
noncomputable def word_Int.k7 : Code := Code.fa word_Int.k6
noncomputable def word_Int.k8 : Code := Code.fb word_Int.k6
noncomputable def word_Int.k9 : Code := Code.fa word_Int.k4
noncomputable def word_Int.k10 : Code := Code.fb word_Int.k4
noncomputable def word_Int.k11 : Code := Code.fa word_Int.k7
noncomputable def word_Int.k12 : Code := Code.fb word_Int.k7
def word_Int.pt (wv : Int) (H : Array Obj) (R : Value → Array Obj → Prop) : Prop :=
 word_Tag.C wv H (fun v H1 => ∃ x : Int, v = .int .i64 x ∧ 
  if x = 0 then (
   R (.tuple #[.int .i64 (ishr .i64 (IntKind.wrap .i64 wv) 3), .bool true]) H1)
  else
  R (.tuple #[.int .i64 0, .bool false]) H1)
set_option maxRecDepth 100000 in
theorem word_Int.link {wv : Int} {H : Array Obj} {R : Value → Array Obj → Prop} (h : word_Int.pt wv H R) : word_Int.C wv H R := by
  refine S_enter (fn := Try.f20) (c := word_Int.k0) 10 Try.func20 (by kernel_rfl) (by kernel_rfl) (Nat.le_of_ble_eq_true (by kernel_rfl)) ?_
  intro w0 Q hQ
  unfold word_Int.pt at h
  refine S_sub [(0, .int .u64 wv)] (sb (by kernel_rfl)) ?_
  refine S_seq word_Int.k1 word_Int.k2 (by kernel_rfl) ?_
  refine S_region 0 (Code.ops word_Int.k1) (by kernel_rfl) ?_
  refine N_run 2 [(0, .int .u64 wv)] (fun w => by kernel_rfl) ?_
  refine N_end (by kernel_rfl) ?_
  refine S_then ?_
  refine S_seq word_Int.k3 word_Int.k4 (by kernel_rfl) ?_
  refine S_seq word_Int.k5 word_Int.k6 (by kernel_rfl) ?_
  refine S_region 1 (Code.ops word_Int.k5) (by kernel_rfl) ?_
  refine N_run 1 [(0, .int .u64 wv), (4, .int .u64 wv)] (fun w => by kernel_rfl) ?_
  refine N_call (some 5) 24 #[.int .u64 wv] (fun w => by kernel_rfl) h ?_
  rintro v H1 ⟨x, rfl, h⟩
  refine ⟨[(0, .int .u64 wv), (5, .int .i64 x)], ps (by kernel_rfl), ?_⟩
  refine N_run 1 [(0, .int .u64 wv), (6, .bool (x != 0))] (fun w => by kernel_rfl) ?_
  refine N_end (by kernel_rfl) ?_
  refine S_then ?_
  by_cases c1 : x = 0
  · rw [if_pos c1] at h
    have b2 : (x != 0) = false := bne_eq_false_iff_eq.mpr c1
    refine S_env [(0, .int .u64 wv), (6, .bool false)] (by simp only [b2, Bool.not_true, Bool.not_false]) ?_
    clear b2
    refine S_condF (.tmp 6) word_Int.k7 word_Int.k8 (by kernel_rfl) (by kernel_rfl) ?_
    refine S_skip (by kernel_rfl) ?_
    refine S_then ?_
    refine S_seq word_Int.k9 word_Int.k10 (by kernel_rfl) ?_
    refine S_region 3 (Code.ops word_Int.k9) (by kernel_rfl) ?_
    refine N_run 5 [(2, .int .i64 (ishr .i64 (IntKind.wrap .i64 wv) 3)), (3, .bool true)] (fun w => by kernel_rfl) ?_
    refine N_end (by kernel_rfl) ?_
    refine S_then ?_
    refine S_ret (by kernel_rfl) ?_
    show At _ _ _ _ (Q .ret)
    exact S_done (fn := Try.f20) [.int .i64 (ishr .i64 (IntKind.wrap .i64 wv) 3), .bool true] hQ (show ResOK _ _ _ [.tmp 2, .tmp 3] _ from .tmp (by kernel_rfl) (.tmp (by kernel_rfl) (.nil))) h
  · rw [if_neg c1] at h
    have b2 : (x != 0) = true := bne_iff_ne.mpr c1
    refine S_env [(0, .int .u64 wv), (6, .bool true)] (by simp only [b2, Bool.not_true, Bool.not_false]) ?_
    clear b2
    refine S_condT (.tmp 6) word_Int.k7 word_Int.k8 (by kernel_rfl) (by kernel_rfl) ?_
    refine S_seq word_Int.k11 word_Int.k12 (by kernel_rfl) ?_
    refine S_region 2 (Code.ops word_Int.k11) (by kernel_rfl) ?_
    refine N_run 2 [(2, .int .i64 0), (3, .bool false)] (fun w => by kernel_rfl) ?_
    refine N_end (by kernel_rfl) ?_
    refine S_then ?_
    refine S_ret (by kernel_rfl) ?_
    show At _ _ _ _ (Q .ret)
    exact S_done (fn := Try.f20) [.int .i64 0, .bool false] hQ (show ResOK _ _ _ [.tmp 2, .tmp 3] _ from .tmp (by kernel_rfl) (.tmp (by kernel_rfl) (.nil))) h

/-! moraine/word.Rune -/
noncomputable def word_Rune.k0 : Code := Func.code Try.f21
noncomputable def word_Rune.k1 : Code := Code.fa word_Rune.k0
noncomputable def word_Rune.k2 : Code := Code.fb word_Rune.k0
noncomputable def word_Rune.k3 : Code := Code.fa word_Rune.k2
noncomputable def word_Rune.k4 : Code := Code.fb word_Rune.k2
noncomputable def word_Rune.k5 : Code := Code.fa word_Rune.k3
noncomputable def word_Rune.k6 : Code := Code.fb word_Rune.k3
noncomputable def word_Rune.k7 : Code := Code.fa word_Rune.k6
noncomputable def word_Rune.k8 : Code := Code.fb word_Rune.k6
noncomputable def word_Rune.k9 : Code := Code.fa word_Rune.k8
noncomputable def word_Rune.k10 : Code := Code.fb word_Rune.k8
noncomputable def word_Rune.k11 : Code := Code.fa word_Rune.k4
noncomputable def word_Rune.k12 : Code := Code.fb word_Rune.k4
noncomputable def word_Rune.k13 : Code := Code.fa word_Rune.k9
noncomputable def word_Rune.k14 : Code := Code.fb word_Rune.k9
def word_Rune.pt (wv : Int) (H : Array Obj) (R : Value → Array Obj → Prop) : Prop :=
 word_parts.C wv H (fun v H1 => ∃ ra : Int, ∃ rb : Int, ∃ rc : Int, v = .tuple #[.int .i64 ra, .int .i64 rb, .int .u64 rc] ∧ 
  word_Tag.C wv H1 (fun v_2 H2 => ∃ x : Int, v_2 = .int .i64 x ∧ 
   if x = 4 then (
    if ra = 7 then (
     word_May.C wv H2 (fun v_3 H3 => ∃ x_2 : Bool, v_3 = .bool x_2 ∧ 
      if x_2 = true then (
       R (.tuple #[.int .i32 (IntKind.wrap .i32 (ishr .u64 wv 8)), .bool true]) H3)
      else
      R (.tuple #[.int .i32 0, .bool false]) H3))
    else
    R (.tuple #[.int .i32 0, .bool false]) H2)
   else
   R (.tuple #[.int .i32 0, .bool false]) H2))
set_option maxRecDepth 100000 in
theorem word_Rune.link {wv : Int} {H : Array Obj} {R : Value → Array Obj → Prop} (h : word_Rune.pt wv H R) : word_Rune.C wv H R := by
  refine S_enter (fn := Try.f21) (c := word_Rune.k0) 28 Try.func21 (by kernel_rfl) (by kernel_rfl) (Nat.le_of_ble_eq_true (by kernel_rfl)) ?_
  intro w0 Q hQ
  unfold word_Rune.pt at h
  refine S_sub [(0, .int .u64 wv)] (sb (by kernel_rfl)) ?_
  refine S_seq word_Rune.k1 word_Rune.k2 (by kernel_rfl) ?_
  refine S_region 0 (Code.ops word_Rune.k1) (by kernel_rfl) ?_
  refine N_run 2 [(0, .int .u64 wv)] (fun w => by kernel_rfl) ?_
  refine N_end (by kernel_rfl) ?_
  refine S_then ?_
  refine S_seq word_Rune.k3 word_Rune.k4 (by kernel_rfl) ?_
  refine S_seq word_Rune.k5 word_Rune.k6 (by kernel_rfl) ?_
  refine S_region 1 (Code.ops word_Rune.k5) (by kernel_rfl) ?_
  refine N_run 1 [(0, .int .u64 wv), (8, .int .u64 wv)] (fun w => by kernel_rfl) ?_
  refine N_call (some 9) 29 #[.int .u64 wv] (fun w => by kernel_rfl) h ?_
  rintro v H1 ⟨ra, rb, rc, rfl, h⟩
  refine ⟨[(0, .int .u64 wv), (9, .tuple #[.int .i64 ra, .int .i64 rb, .int .u64 rc])], ps (by kernel_rfl), ?_⟩
  refine N_run 7 [(0, .int .u64 wv), (4, .int .i64 ra)] (fun w => by kernel_rfl) ?_
  refine N_end (by kernel_rfl) ?_
  refine S_then ?_
  refine S_seq word_Rune.k7 word_Rune.k8 (by kernel_rfl) ?_
  refine S_region 2 (Code.ops word_Rune.k7) (by kernel_rfl) ?_
  refine N_run 1 [(0, .int .u64 wv), (4, .int .i64 ra), (13, .int .u64 wv)] (fun w => by kernel_rfl) ?_
  refine N_call (some 14) 24 #[.int .u64 wv] (fun w => by kernel_rfl) h ?_
  rintro v_2 H2 ⟨x, rfl, h⟩
  refine ⟨[(0, .int .u64 wv), (4, .int .i64 ra), (14, .int .i64 x)], ps (by kernel_rfl), ?_⟩
  refine N_run 2 [(0, .int .u64 wv), (4, .int .i64 ra), (16, .bool (x != 4))] (fun w => by kernel_rfl) ?_
  by_cases c1 : x = 4
  · rw [if_pos c1] at h
    have b2 : (x != 4) = false := bne_eq_false_iff_eq.mpr c1
    refine N_env [(0, .int .u64 wv), (4, .int .i64 ra), (16, .bool false)] (by simp only [b2, Bool.not_true, Bool.not_false]) ?_
    clear b2
    refine N_run 4 [(0, .int .u64 wv), (20, .bool (ra != 7))] (fun w => by kernel_rfl) ?_
    by_cases c3 : ra = 7
    · rw [if_pos c3] at h
      have b4 : (ra != 7) = false := bne_eq_false_iff_eq.mpr c3
      refine N_env [(0, .int .u64 wv), (20, .bool false)] (by simp only [b4, Bool.not_true, Bool.not_false]) ?_
      clear b4
      refine N_run 1 [(0, .int .u64 wv), (20, .bool false), (21, .int .u64 wv)] (fun w => by kernel_rfl) ?_
      refine N_call (some 22) 18 #[.int .u64 wv] (fun w => by kernel_rfl) h ?_
      rintro v_3 H3 ⟨x_2, rfl, h⟩
      refine ⟨[(0, .int .u64 wv), (20, .bool false), (22, .bool x_2)], ps (by kernel_rfl), ?_⟩
      refine N_run 2 [(0, .int .u64 wv), (24, .bool (!x_2))] (fun w => by kernel_rfl) ?_
      refine N_end (by kernel_rfl) ?_
      refine S_then ?_
      by_cases c5 : x_2 = true
      · rw [if_pos c5] at h
        have b6 : (!x_2) = false := congrArg Bool.not (c5)
        refine S_env [(0, .int .u64 wv), (24, .bool false)] (by simp only [b6, Bool.not_true, Bool.not_false]) ?_
        clear b6
        refine S_condF (.tmp 24) word_Rune.k9 word_Rune.k10 (by kernel_rfl) (by kernel_rfl) ?_
        refine S_skip (by kernel_rfl) ?_
        refine S_then ?_
        refine S_seq word_Rune.k11 word_Rune.k12 (by kernel_rfl) ?_
        refine S_region 4 (Code.ops word_Rune.k11) (by kernel_rfl) ?_
        refine N_run 5 [(2, .int .i32 (IntKind.wrap .i32 (ishr .u64 wv 8))), (3, .bool true)] (fun w => by kernel_rfl) ?_
        refine N_end (by kernel_rfl) ?_
        refine S_then ?_
        refine S_ret (by kernel_rfl) ?_
        show At _ _ _ _ (Q .ret)
        exact S_done (fn := Try.f21) [.int .i32 (IntKind.wrap .i32 (ishr .u64 wv 8)), .bool true] hQ (show ResOK _ _ _ [.tmp 2, .tmp 3] _ from .tmp (by kernel_rfl) (.tmp (by kernel_rfl) (.nil))) h
      · rw [if_neg c5] at h
        have b6 : (!x_2) = true := congrArg Bool.not (eq_false_of_ne_true c5)
        refine S_env [(0, .int .u64 wv), (24, .bool true)] (by simp only [b6, Bool.not_true, Bool.not_false]) ?_
        clear b6
        refine S_condT (.tmp 24) word_Rune.k9 word_Rune.k10 (by kernel_rfl) (by kernel_rfl) ?_
        refine S_seq word_Rune.k13 word_Rune.k14 (by kernel_rfl) ?_
        refine S_region 3 (Code.ops word_Rune.k13) (by kernel_rfl) ?_
        refine N_run 2 [(2, .int .i32 0), (3, .bool false)] (fun w => by kernel_rfl) ?_
        refine N_end (by kernel_rfl) ?_
        refine S_then ?_
        refine S_ret (by kernel_rfl) ?_
        show At _ _ _ _ (Q .ret)
        exact S_done (fn := Try.f21) [.int .i32 0, .bool false] hQ (show ResOK _ _ _ [.tmp 2, .tmp 3] _ from .tmp (by kernel_rfl) (.tmp (by kernel_rfl) (.nil))) h
    · rw [if_neg c3] at h
      have b4 : (ra != 7) = true := bne_iff_ne.mpr c3
      refine N_env [(0, .int .u64 wv), (20, .bool true)] (by simp only [b4, Bool.not_true, Bool.not_false]) ?_
      clear b4
      refine N_run 4 [(0, .int .u64 wv), (24, .bool true)] (fun w => by kernel_rfl) ?_
      refine N_end (by kernel_rfl) ?_
      refine S_then ?_
      refine S_condT (.tmp 24) word_Rune.k9 word_Rune.k10 (by kernel_rfl) (by kernel_rfl) ?_
      refine S_seq word_Rune.k13 word_Rune.k14 (by kernel_rfl) ?_
      refine S_region 3 (Code.ops word_Rune.k13) (by kernel_rfl) ?_
      refine N_run 2 [(2, .int .i32 0), (3, .bool false)] (fun w => by kernel_rfl) ?_
      refine N_end (by kernel_rfl) ?_
      refine S_then ?_
      refine S_ret (by kernel_rfl) ?_
      show At _ _ _ _ (Q .ret)
      exact S_done (fn := Try.f21) [.int .i32 0, .bool false] hQ (show ResOK _ _ _ [.tmp 2, .tmp 3] _ from .tmp (by kernel_rfl) (.tmp (by kernel_rfl) (.nil))) h
  · rw [if_neg c1] at h
    have b2 : (x != 4) = true := bne_iff_ne.mpr c1
    refine N_env [(0, .int .u64 wv), (4, .int .i64 ra), (16, .bool true)] (by simp only [b2, Bool.not_true, Bool.not_false]) ?_
    clear b2
    refine N_run 8 [(0, .int .u64 wv), (24, .bool true)] (fun w => by kernel_rfl) ?_
    refine N_end (by kernel_rfl) ?_
    refine S_then ?_
    refine S_condT (.tmp 24) word_Rune.k9 word_Rune.k10 (by kernel_rfl) (by kernel_rfl) ?_
    refine S_seq word_Rune.k13 word_Rune.k14 (by kernel_rfl) ?_
    refine S_region 3 (Code.ops word_Rune.k13) (by kernel_rfl) ?_
    refine N_run 2 [(2, .int .i32 0), (3, .bool false)] (fun w => by kernel_rfl) ?_
    refine N_end (by kernel_rfl) ?_
    refine S_then ?_
    refine S_ret (by kernel_rfl) ?_
    show At _ _ _ _ (Q .ret)
    exact S_done (fn := Try.f21) [.int .i32 0, .bool false] hQ (show ResOK _ _ _ [.tmp 2, .tmp 3] _ from .tmp (by kernel_rfl) (.tmp (by kernel_rfl) (.nil))) h

/-! moraine/word.Addr -/
noncomputable def word_Addr.k0 : Code := Func.code Try.f22
noncomputable def word_Addr.k1 : Code := Code.fa word_Addr.k0
noncomputable def word_Addr.k2 : Code := Code.fb word_Addr.k0
noncomputable def word_Addr.k3 : Code := Code.fa word_Addr.k2
noncomputable def word_Addr.k4 : Code := Code.fb word_Addr.k2
noncomputable def word_Addr.k5 : Code := Code.fa word_Addr.k3
noncomputable def word_Addr.k6 : Code := Code.fb word_Addr.k3
noncomputable def word_Addr.k7 : Code := Code.fa word_Addr.k6
noncomputable def word_Addr.k8 : Code := Code.fb word_Addr.k6
noncomputable def word_Addr.k9 : Code := Code.fa word_Addr.k4
noncomputable def word_Addr.k10 : Code := Code.fb word_Addr.k4
noncomputable def word_Addr.k11 : Code := Code.fa word_Addr.k7
noncomputable def word_Addr.k12 : Code := Code.fb word_Addr.k7
def word_Addr.pt (wv : Int) (H : Array Obj) (R : Value → Array Obj → Prop) : Prop :=
 word_Tag.C wv H (fun v H1 => ∃ x : Int, v = .int .i64 x ∧ 
  word_place.C x H1 (fun v_2 H2 => ∃ x_2 : Bool, v_2 = .bool x_2 ∧ 
   if x_2 = true then (
    word_May.C wv H2 (fun v_3 H3 => ∃ x_3 : Bool, v_3 = .bool x_3 ∧ 
     if x_3 = true then (
      R (.tuple #[.int .i64 (IntKind.wrap .i64 (ishr .u64 wv 3)), .bool true]) H3)
     else
     R (.tuple #[.int .i64 0, .bool false]) H3))
   else
   R (.tuple #[.int .i64 0, .bool false]) H2))
set_option maxRecDepth 100000 in
theorem word_Addr.link {wv : Int} {H : Array Obj} {R : Value → Array Obj → Prop} (h : word_Addr.pt wv H R) : word_Addr.C wv H R := by
  refine S_enter (fn := Try.f22) (c := word_Addr.k0) 16 Try.func22 (by kernel_rfl) (by kernel_rfl) (Nat.le_of_ble_eq_true (by kernel_rfl)) ?_
  intro w0 Q hQ
  unfold word_Addr.pt at h
  refine S_sub [(0, .int .u64 wv)] (sb (by kernel_rfl)) ?_
  refine S_seq word_Addr.k1 word_Addr.k2 (by kernel_rfl) ?_
  refine S_region 0 (Code.ops word_Addr.k1) (by kernel_rfl) ?_
  refine N_run 2 [(0, .int .u64 wv)] (fun w => by kernel_rfl) ?_
  refine N_end (by kernel_rfl) ?_
  refine S_then ?_
  refine S_seq word_Addr.k3 word_Addr.k4 (by kernel_rfl) ?_
  refine S_seq word_Addr.k5 word_Addr.k6 (by kernel_rfl) ?_
  refine S_region 1 (Code.ops word_Addr.k5) (by kernel_rfl) ?_
  refine N_run 1 [(0, .int .u64 wv), (4, .int .u64 wv)] (fun w => by kernel_rfl) ?_
  refine N_call (some 5) 24 #[.int .u64 wv] (fun w => by kernel_rfl) h ?_
  rintro v H1 ⟨x, rfl, h⟩
  refine ⟨[(0, .int .u64 wv), (5, .int .i64 x)], ps (by kernel_rfl), ?_⟩
  refine N_call (some 6) 28 #[.int .i64 x] (fun w => by kernel_rfl) h ?_
  rintro v_2 H2 ⟨x_2, rfl, h⟩
  refine ⟨[(0, .int .u64 wv), (6, .bool x_2)], ps (by kernel_rfl), ?_⟩
  refine N_run 2 [(0, .int .u64 wv), (8, .bool (!x_2))] (fun w => by kernel_rfl) ?_
  by_cases c1 : x_2 = true
  · rw [if_pos c1] at h
    have b2 : (!x_2) = false := congrArg Bool.not (c1)
    refine N_env [(0, .int .u64 wv), (8, .bool false)] (by simp only [b2, Bool.not_true, Bool.not_false]) ?_
    clear b2
    refine N_run 1 [(0, .int .u64 wv), (8, .bool false), (9, .int .u64 wv)] (fun w => by kernel_rfl) ?_
    refine N_call (some 10) 18 #[.int .u64 wv] (fun w => by kernel_rfl) h ?_
    rintro v_3 H3 ⟨x_3, rfl, h⟩
    refine ⟨[(0, .int .u64 wv), (8, .bool false), (10, .bool x_3)], ps (by kernel_rfl), ?_⟩
    refine N_run 2 [(0, .int .u64 wv), (12, .bool (!x_3))] (fun w => by kernel_rfl) ?_
    refine N_end (by kernel_rfl) ?_
    refine S_then ?_
    by_cases c3 : x_3 = true
    · rw [if_pos c3] at h
      have b4 : (!x_3) = false := congrArg Bool.not (c3)
      refine S_env [(0, .int .u64 wv), (12, .bool false)] (by simp only [b4, Bool.not_true, Bool.not_false]) ?_
      clear b4
      refine S_condF (.tmp 12) word_Addr.k7 word_Addr.k8 (by kernel_rfl) (by kernel_rfl) ?_
      refine S_skip (by kernel_rfl) ?_
      refine S_then ?_
      refine S_seq word_Addr.k9 word_Addr.k10 (by kernel_rfl) ?_
      refine S_region 3 (Code.ops word_Addr.k9) (by kernel_rfl) ?_
      refine N_run 5 [(2, .int .i64 (IntKind.wrap .i64 (ishr .u64 wv 3))), (3, .bool true)] (fun w => by kernel_rfl) ?_
      refine N_end (by kernel_rfl) ?_
      refine S_then ?_
      refine S_ret (by kernel_rfl) ?_
      show At _ _ _ _ (Q .ret)
      exact S_done (fn := Try.f22) [.int .i64 (IntKind.wrap .i64 (ishr .u64 wv 3)), .bool true] hQ (show ResOK _ _ _ [.tmp 2, .tmp 3] _ from .tmp (by kernel_rfl) (.tmp (by kernel_rfl) (.nil))) h
    · rw [if_neg c3] at h
      have b4 : (!x_3) = true := congrArg Bool.not (eq_false_of_ne_true c3)
      refine S_env [(0, .int .u64 wv), (12, .bool true)] (by simp only [b4, Bool.not_true, Bool.not_false]) ?_
      clear b4
      refine S_condT (.tmp 12) word_Addr.k7 word_Addr.k8 (by kernel_rfl) (by kernel_rfl) ?_
      refine S_seq word_Addr.k11 word_Addr.k12 (by kernel_rfl) ?_
      refine S_region 2 (Code.ops word_Addr.k11) (by kernel_rfl) ?_
      refine N_run 2 [(2, .int .i64 0), (3, .bool false)] (fun w => by kernel_rfl) ?_
      refine N_end (by kernel_rfl) ?_
      refine S_then ?_
      refine S_ret (by kernel_rfl) ?_
      show At _ _ _ _ (Q .ret)
      exact S_done (fn := Try.f22) [.int .i64 0, .bool false] hQ (show ResOK _ _ _ [.tmp 2, .tmp 3] _ from .tmp (by kernel_rfl) (.tmp (by kernel_rfl) (.nil))) h
  · rw [if_neg c1] at h
    have b2 : (!x_2) = true := congrArg Bool.not (eq_false_of_ne_true c1)
    refine N_env [(0, .int .u64 wv), (8, .bool true)] (by simp only [b2, Bool.not_true, Bool.not_false]) ?_
    clear b2
    refine N_run 4 [(0, .int .u64 wv), (12, .bool true)] (fun w => by kernel_rfl) ?_
    refine N_end (by kernel_rfl) ?_
    refine S_then ?_
    refine S_condT (.tmp 12) word_Addr.k7 word_Addr.k8 (by kernel_rfl) (by kernel_rfl) ?_
    refine S_seq word_Addr.k11 word_Addr.k12 (by kernel_rfl) ?_
    refine S_region 2 (Code.ops word_Addr.k11) (by kernel_rfl) ?_
    refine N_run 2 [(2, .int .i64 0), (3, .bool false)] (fun w => by kernel_rfl) ?_
    refine N_end (by kernel_rfl) ?_
    refine S_then ?_
    refine S_ret (by kernel_rfl) ?_
    show At _ _ _ _ (Q .ret)
    exact S_done (fn := Try.f22) [.int .i64 0, .bool false] hQ (show ResOK _ _ _ [.tmp 2, .tmp 3] _ from .tmp (by kernel_rfl) (.tmp (by kernel_rfl) (.nil))) h

/-! moraine/word.Head -/
noncomputable def word_Head.k0 : Code := Func.code Try.f23
noncomputable def word_Head.k1 : Code := Code.fa word_Head.k0
noncomputable def word_Head.k2 : Code := Code.fb word_Head.k0
noncomputable def word_Head.k3 : Code := Code.fa word_Head.k2
noncomputable def word_Head.k4 : Code := Code.fb word_Head.k2
noncomputable def word_Head.k5 : Code := Code.fa word_Head.k3
noncomputable def word_Head.k6 : Code := Code.fb word_Head.k3
noncomputable def word_Head.k7 : Code := Code.fa word_Head.k6
noncomputable def word_Head.k8 : Code := Code.fb word_Head.k6
noncomputable def word_Head.k9 : Code := Code.fa word_Head.k4
noncomputable def word_Head.k10 : Code := Code.fb word_Head.k4
noncomputable def word_Head.k11 : Code := Code.fa word_Head.k10
noncomputable def word_Head.k12 : Code := Code.fb word_Head.k10
noncomputable def word_Head.k13 : Code := Code.fa word_Head.k7
noncomputable def word_Head.k14 : Code := Code.fb word_Head.k7
def word_Head.pt (wv : Int) (H : Array Obj) (R : Value → Array Obj → Prop) : Prop :=
 word_Tag.C wv H (fun v H1 => ∃ x : Int, v = .int .i64 x ∧ 
  if x = 5 then (
   word_May.C wv H1 (fun v_2 H2 => ∃ x_2 : Bool, v_2 = .bool x_2 ∧ 
    if x_2 = true then (
     word_parts.C wv H2 (fun v_3 H3 => ∃ ra : Int, ∃ rb : Int, ∃ rc : Int, v_3 = .tuple #[.int .i64 ra, .int .i64 rb, .int .u64 rc] ∧ 
      R (.tuple #[.int .i64 ra, .int .i64 rb, .int .u64 rc, .bool true]) H3))
    else
    R (.tuple #[.int .i64 0, .int .i64 0, .int .u64 0, .bool false]) H2))
  else
  R (.tuple #[.int .i64 0, .int .i64 0, .int .u64 0, .bool false]) H1)
set_option maxRecDepth 100000 in
theorem word_Head.link {wv : Int} {H : Array Obj} {R : Value → Array Obj → Prop} (h : word_Head.pt wv H R) : word_Head.C wv H R := by
  refine S_enter (fn := Try.f23) (c := word_Head.k0) 23 Try.func23 (by kernel_rfl) (by kernel_rfl) (Nat.le_of_ble_eq_true (by kernel_rfl)) ?_
  intro w0 Q hQ
  unfold word_Head.pt at h
  refine S_sub [(0, .int .u64 wv)] (sb (by kernel_rfl)) ?_
  refine S_seq word_Head.k1 word_Head.k2 (by kernel_rfl) ?_
  refine S_region 0 (Code.ops word_Head.k1) (by kernel_rfl) ?_
  refine N_run 4 [(0, .int .u64 wv)] (fun w => by kernel_rfl) ?_
  refine N_end (by kernel_rfl) ?_
  refine S_then ?_
  refine S_seq word_Head.k3 word_Head.k4 (by kernel_rfl) ?_
  refine S_seq word_Head.k5 word_Head.k6 (by kernel_rfl) ?_
  refine S_region 1 (Code.ops word_Head.k5) (by kernel_rfl) ?_
  refine N_run 1 [(0, .int .u64 wv), (6, .int .u64 wv)] (fun w => by kernel_rfl) ?_
  refine N_call (some 7) 24 #[.int .u64 wv] (fun w => by kernel_rfl) h ?_
  rintro v H1 ⟨x, rfl, h⟩
  refine ⟨[(0, .int .u64 wv), (7, .int .i64 x)], ps (by kernel_rfl), ?_⟩
  refine N_run 2 [(0, .int .u64 wv), (9, .bool (x != 5))] (fun w => by kernel_rfl) ?_
  by_cases c1 : x = 5
  · rw [if_pos c1] at h
    have b2 : (x != 5) = false := bne_eq_false_iff_eq.mpr c1
    refine N_env [(0, .int .u64 wv), (9, .bool false)] (by simp only [b2, Bool.not_true, Bool.not_false]) ?_
    clear b2
    refine N_run 1 [(0, .int .u64 wv), (9, .bool false), (10, .int .u64 wv)] (fun w => by kernel_rfl) ?_
    refine N_call (some 11) 18 #[.int .u64 wv] (fun w => by kernel_rfl) h ?_
    rintro v_2 H2 ⟨x_2, rfl, h⟩
    refine ⟨[(0, .int .u64 wv), (9, .bool false), (11, .bool x_2)], ps (by kernel_rfl), ?_⟩
    refine N_run 2 [(0, .int .u64 wv), (13, .bool (!x_2))] (fun w => by kernel_rfl) ?_
    refine N_end (by kernel_rfl) ?_
    refine S_then ?_
    by_cases c3 : x_2 = true
    · rw [if_pos c3] at h
      have b4 : (!x_2) = false := congrArg Bool.not (c3)
      refine S_env [(0, .int .u64 wv), (13, .bool false)] (by simp only [b4, Bool.not_true, Bool.not_false]) ?_
      clear b4
      refine S_condF (.tmp 13) word_Head.k7 word_Head.k8 (by kernel_rfl) (by kernel_rfl) ?_
      refine S_skip (by kernel_rfl) ?_
      refine S_then ?_
      refine S_seq word_Head.k9 word_Head.k10 (by kernel_rfl) ?_
      refine S_region 3 (Code.ops word_Head.k9) (by kernel_rfl) ?_
      refine N_run 1 [(15, .int .u64 wv)] (fun w => by kernel_rfl) ?_
      refine N_call (some 16) 29 #[.int .u64 wv] (fun w => by kernel_rfl) h ?_
      rintro v_3 H3 ⟨ra, rb, rc, rfl, h⟩
      refine ⟨[(16, .tuple #[.int .i64 ra, .int .i64 rb, .int .u64 rc])], ps (by kernel_rfl), ?_⟩
      refine N_run 7 [(2, .int .i64 ra), (3, .int .i64 rb), (4, .int .u64 rc)] (fun w => by kernel_rfl) ?_
      refine N_end (by kernel_rfl) ?_
      refine S_then ?_
      refine S_seq word_Head.k11 word_Head.k12 (by kernel_rfl) ?_
      refine S_region 4 (Code.ops word_Head.k11) (by kernel_rfl) ?_
      refine N_run 7 [(2, .int .i64 ra), (3, .int .i64 rb), (4, .int .u64 rc), (5, .bool true)] (fun w => by kernel_rfl) ?_
      refine N_end (by kernel_rfl) ?_
      refine S_then ?_
      refine S_ret (by kernel_rfl) ?_
      show At _ _ _ _ (Q .ret)
      exact S_done (fn := Try.f23) [.int .i64 ra, .int .i64 rb, .int .u64 rc, .bool true] hQ (show ResOK _ _ _ [.tmp 2, .tmp 3, .tmp 4, .tmp 5] _ from .tmp (by kernel_rfl) (.tmp (by kernel_rfl) (.tmp (by kernel_rfl) (.tmp (by kernel_rfl) (.nil))))) h
    · rw [if_neg c3] at h
      have b4 : (!x_2) = true := congrArg Bool.not (eq_false_of_ne_true c3)
      refine S_env [(0, .int .u64 wv), (13, .bool true)] (by simp only [b4, Bool.not_true, Bool.not_false]) ?_
      clear b4
      refine S_condT (.tmp 13) word_Head.k7 word_Head.k8 (by kernel_rfl) (by kernel_rfl) ?_
      refine S_seq word_Head.k13 word_Head.k14 (by kernel_rfl) ?_
      refine S_region 2 (Code.ops word_Head.k13) (by kernel_rfl) ?_
      refine N_run 4 [(2, .int .i64 0), (3, .int .i64 0), (4, .int .u64 0), (5, .bool false)] (fun w => by kernel_rfl) ?_
      refine N_end (by kernel_rfl) ?_
      refine S_then ?_
      refine S_ret (by kernel_rfl) ?_
      show At _ _ _ _ (Q .ret)
      exact S_done (fn := Try.f23) [.int .i64 0, .int .i64 0, .int .u64 0, .bool false] hQ (show ResOK _ _ _ [.tmp 2, .tmp 3, .tmp 4, .tmp 5] _ from .tmp (by kernel_rfl) (.tmp (by kernel_rfl) (.tmp (by kernel_rfl) (.tmp (by kernel_rfl) (.nil))))) h
  · rw [if_neg c1] at h
    have b2 : (x != 5) = true := bne_iff_ne.mpr c1
    refine N_env [(0, .int .u64 wv), (9, .bool true)] (by simp only [b2, Bool.not_true, Bool.not_false]) ?_
    clear b2
    refine N_run 4 [(0, .int .u64 wv), (13, .bool true)] (fun w => by kernel_rfl) ?_
    refine N_end (by kernel_rfl) ?_
    refine S_then ?_
    refine S_condT (.tmp 13) word_Head.k7 word_Head.k8 (by kernel_rfl) (by kernel_rfl) ?_
    refine S_seq word_Head.k13 word_Head.k14 (by kernel_rfl) ?_
    refine S_region 2 (Code.ops word_Head.k13) (by kernel_rfl) ?_
    refine N_run 4 [(2, .int .i64 0), (3, .int .i64 0), (4, .int .u64 0), (5, .bool false)] (fun w => by kernel_rfl) ?_
    refine N_end (by kernel_rfl) ?_
    refine S_then ?_
    refine S_ret (by kernel_rfl) ?_
    show At _ _ _ _ (Q .ret)
    exact S_done (fn := Try.f23) [.int .i64 0, .int .i64 0, .int .u64 0, .bool false] hQ (show ResOK _ _ _ [.tmp 2, .tmp 3, .tmp 4, .tmp 5] _ from .tmp (by kernel_rfl) (.tmp (by kernel_rfl) (.tmp (by kernel_rfl) (.tmp (by kernel_rfl) (.nil))))) h

/-! moraine/word.Tag -/
noncomputable def word_Tag.k0 : Code := Func.code Try.f24
noncomputable def word_Tag.k1 : Code := Code.fa word_Tag.k0
noncomputable def word_Tag.k2 : Code := Code.fb word_Tag.k0
noncomputable def word_Tag.k3 : Code := Code.fa word_Tag.k2
noncomputable def word_Tag.k4 : Code := Code.fb word_Tag.k2
def word_Tag.pt (wv : Int) (H : Array Obj) (R : Value → Array Obj → Prop) : Prop :=
 R (.int .i64 (IntKind.wrap .i64 (iand .u64 wv 7))) H
set_option maxRecDepth 100000 in
theorem word_Tag.link {wv : Int} {H : Array Obj} {R : Value → Array Obj → Prop} (h : word_Tag.pt wv H R) : word_Tag.C wv H R := by
  refine S_enter (fn := Try.f24) (c := word_Tag.k0) 6 Try.func24 (by kernel_rfl) (by kernel_rfl) (Nat.le_of_ble_eq_true (by kernel_rfl)) ?_
  intro w0 Q hQ
  unfold word_Tag.pt at h
  refine S_sub [(0, .int .u64 wv)] (sb (by kernel_rfl)) ?_
  refine S_seq word_Tag.k1 word_Tag.k2 (by kernel_rfl) ?_
  refine S_region 0 (Code.ops word_Tag.k1) (by kernel_rfl) ?_
  refine N_run 1 [(0, .int .u64 wv)] (fun w => by kernel_rfl) ?_
  refine N_end (by kernel_rfl) ?_
  refine S_then ?_
  refine S_seq word_Tag.k3 word_Tag.k4 (by kernel_rfl) ?_
  refine S_region 1 (Code.ops word_Tag.k3) (by kernel_rfl) ?_
  refine N_run 4 [(2, .int .i64 (IntKind.wrap .i64 (iand .u64 wv 7)))] (fun w => by kernel_rfl) ?_
  refine N_end (by kernel_rfl) ?_
  refine S_then ?_
  refine S_ret (by kernel_rfl) ?_
  show At _ _ _ _ (Q .ret)
  exact S_done (fn := Try.f24) [.int .i64 (IntKind.wrap .i64 (iand .u64 wv 7))] hQ (show ResOK _ _ _ [.tmp 2] _ from .tmp (by kernel_rfl) (.nil)) h

/-! moraine/word.Truth -/
noncomputable def word_Truth.k0 : Code := Func.code Try.f25
noncomputable def word_Truth.k1 : Code := Code.fa word_Truth.k0
noncomputable def word_Truth.k2 : Code := Code.fb word_Truth.k0
noncomputable def word_Truth.k3 : Code := Code.fa word_Truth.k2
noncomputable def word_Truth.k4 : Code := Code.fb word_Truth.k2
def word_Truth.pt (wv : Int) (H : Array Obj) (R : Value → Array Obj → Prop) : Prop :=
 R (.bool (wv != 4)) H
set_option maxRecDepth 100000 in
theorem word_Truth.link {wv : Int} {H : Array Obj} {R : Value → Array Obj → Prop} (h : word_Truth.pt wv H R) : word_Truth.C wv H R := by
  refine S_enter (fn := Try.f25) (c := word_Truth.k0) 5 Try.func25 (by kernel_rfl) (by kernel_rfl) (Nat.le_of_ble_eq_true (by kernel_rfl)) ?_
  intro w0 Q hQ
  unfold word_Truth.pt at h
  refine S_sub [(0, .int .u64 wv)] (sb (by kernel_rfl)) ?_
  refine S_seq word_Truth.k1 word_Truth.k2 (by kernel_rfl) ?_
  refine S_region 0 (Code.ops word_Truth.k1) (by kernel_rfl) ?_
  refine N_run 1 [(0, .int .u64 wv)] (fun w => by kernel_rfl) ?_
  refine N_end (by kernel_rfl) ?_
  refine S_then ?_
  refine S_seq word_Truth.k3 word_Truth.k4 (by kernel_rfl) ?_
  refine S_region 1 (Code.ops word_Truth.k3) (by kernel_rfl) ?_
  refine N_run 3 [(2, .bool (wv != 4))] (fun w => by kernel_rfl) ?_
  refine N_end (by kernel_rfl) ?_
  refine S_then ?_
  refine S_ret (by kernel_rfl) ?_
  show At _ _ _ _ (Q .ret)
  exact S_done (fn := Try.f25) [.bool (wv != 4)] hQ (show ResOK _ _ _ [.tmp 2] _ from .tmp (by kernel_rfl) (.nil)) h

/-! moraine/moraineref01.power -/
noncomputable def moraineref01_power.k0 : Code := Func.code Try.f26
noncomputable def moraineref01_power.k1 : Code := Code.fa moraineref01_power.k0
noncomputable def moraineref01_power.k2 : Code := Code.fb moraineref01_power.k0
noncomputable def moraineref01_power.k3 : Code := Code.fa moraineref01_power.k2
noncomputable def moraineref01_power.k4 : Code := Code.fb moraineref01_power.k2
noncomputable def moraineref01_power.k5 : Code := Code.fa moraineref01_power.k4
noncomputable def moraineref01_power.k6 : Code := Code.fb moraineref01_power.k4
noncomputable def moraineref01_power.k7 : Code := Code.fa moraineref01_power.k5
noncomputable def moraineref01_power.k8 : Code := Code.fb moraineref01_power.k5
noncomputable def moraineref01_power.k9 : Code := Code.fa moraineref01_power.k8
noncomputable def moraineref01_power.k10 : Code := Code.fa moraineref01_power.k9
noncomputable def moraineref01_power.k11 : Code := Code.fa moraineref01_power.k10
noncomputable def moraineref01_power.k12 : Code := Code.fb moraineref01_power.k10
noncomputable def moraineref01_power.k13 : Code := Code.fa moraineref01_power.k11
noncomputable def moraineref01_power.k14 : Code := Code.fb moraineref01_power.k11
noncomputable def moraineref01_power.k15 : Code := Code.fa moraineref01_power.k14
noncomputable def moraineref01_power.k16 : Code := Code.fb moraineref01_power.k14
noncomputable def moraineref01_power.k17 : Code := Code.fa moraineref01_power.k12
noncomputable def moraineref01_power.k18 : Code := Code.fb moraineref01_power.k12
noncomputable def moraineref01_power.k19 : Code := Code.fa moraineref01_power.k17
noncomputable def moraineref01_power.k20 : Code := Code.fa moraineref01_power.k6
noncomputable def moraineref01_power.k21 : Code := Code.fb moraineref01_power.k6
def moraineref01_power.pt (nv : Int) (H : Array Obj) (R : Value → Array Obj → Prop) : Prop :=
 ∃ (I11 : Int → Int → Array Obj → Prop) (m11 : Int → Int → Array Obj → Nat), I11 1 0 H ∧ ∀ (x : Int) (i : Int) (H1 : Array Obj), I11 x i H1 →
 if i < nv then (
  (I11 (IntKind.wrap .u64 (x * 2)) (IntKind.wrap .i64 (i + 1)) H1 ∧ m11 (IntKind.wrap .u64 (x * 2)) (IntKind.wrap .i64 (i + 1)) H1 < m11 x i H1))
 else
 R (.int .u64 x) H1
set_option maxRecDepth 100000 in
theorem moraineref01_power.link {nv : Int} {H : Array Obj} {R : Value → Array Obj → Prop} (h : moraineref01_power.pt nv H R) : moraineref01_power.C nv H R := by
  refine S_enter (fn := Try.f26) (c := moraineref01_power.k0) 13 Try.func26 (by kernel_rfl) (by kernel_rfl) (Nat.le_of_ble_eq_true (by kernel_rfl)) ?_
  intro w0 Q hQ
  unfold moraineref01_power.pt at h
  refine S_sub [(0, .int .i64 nv)] (sb (by kernel_rfl)) ?_
  refine S_seq moraineref01_power.k1 moraineref01_power.k2 (by kernel_rfl) ?_
  refine S_region 0 (Code.ops moraineref01_power.k1) (by kernel_rfl) ?_
  refine N_run 1 [(0, .int .i64 nv)] (fun w => by kernel_rfl) ?_
  refine N_end (by kernel_rfl) ?_
  refine S_then ?_
  refine S_seq moraineref01_power.k3 moraineref01_power.k4 (by kernel_rfl) ?_
  refine S_region 1 (Code.ops moraineref01_power.k3) (by kernel_rfl) ?_
  refine N_run 1 [(0, .int .i64 nv), (3, .int .u64 1)] (fun w => by kernel_rfl) ?_
  refine N_end (by kernel_rfl) ?_
  refine S_then ?_
  refine S_seq moraineref01_power.k5 moraineref01_power.k6 (by kernel_rfl) ?_
  refine S_seq moraineref01_power.k7 moraineref01_power.k8 (by kernel_rfl) ?_
  refine S_region 2 (Code.ops moraineref01_power.k7) (by kernel_rfl) ?_
  refine N_run 1 [(0, .int .i64 nv), (3, .int .u64 1), (4, .int .i64 0)] (fun w => by kernel_rfl) ?_
  refine N_end (by kernel_rfl) ?_
  refine S_then ?_
  refine S_block 0 moraineref01_power.k9 (by kernel_rfl) ?_
  obtain ⟨I11, m11, i1, i2⟩ := h
  refine S_loop (x := moraineref01_power.k10) (σ := Int × Int) (fun s => [(0, .int .i64 nv), (3, .int .u64 s.1), (4, .int .i64 s.2)]) (fun s H => I11 s.1 s.2 H) (fun s H => m11 s.1 s.2 H) ((1, 0) : Int × Int) (by kernel_rfl) i1 (sb (by kernel_rfl)) ?_
  rintro ⟨x, i⟩ H1 i3
  have h := i2 x i H1 i3
  refine S_sub [(0, .int .i64 nv), (3, .int .u64 x), (4, .int .i64 i)] (sb (by kernel_rfl)) ?_
  refine S_seq moraineref01_power.k11 moraineref01_power.k12 (by kernel_rfl) ?_
  refine S_seq moraineref01_power.k13 moraineref01_power.k14 (by kernel_rfl) ?_
  refine S_region 3 (Code.ops moraineref01_power.k13) (by kernel_rfl) ?_
  refine N_run 3 [(0, .int .i64 nv), (3, .int .u64 x), (4, .int .i64 i), (7, .bool (decide (i < nv)))] (fun w => by kernel_rfl) ?_
  refine N_end (by kernel_rfl) ?_
  refine S_then ?_
  by_cases c4 : i < nv
  · rw [if_pos c4] at h
    have b5 : (decide (i < nv)) = true := decide_eq_true c4
    refine S_env [(0, .int .i64 nv), (3, .int .u64 x), (4, .int .i64 i), (7, .bool true)] (by simp only [b5, Bool.not_true, Bool.not_false]) ?_
    clear b5
    refine S_condT (.tmp 7) moraineref01_power.k15 moraineref01_power.k16 (by kernel_rfl) (by kernel_rfl) ?_
    refine S_skip (by kernel_rfl) ?_
    refine S_then ?_
    refine S_seq moraineref01_power.k17 moraineref01_power.k18 (by kernel_rfl) ?_
    refine S_block 1 moraineref01_power.k19 (by kernel_rfl) ?_
    refine S_region 5 (Code.ops moraineref01_power.k19) (by kernel_rfl) ?_
    refine N_run 3 [(0, .int .i64 nv), (3, .int .u64 (IntKind.wrap .u64 (x * 2))), (4, .int .i64 i)] (fun w => by kernel_rfl) ?_
    refine N_end (by kernel_rfl) ?_
    refine S_blockEnd ?_
    refine S_then ?_
    refine S_region 4 (Code.ops moraineref01_power.k18) (by kernel_rfl) ?_
    refine N_run 3 [(0, .int .i64 nv), (3, .int .u64 (IntKind.wrap .u64 (x * 2))), (4, .int .i64 (IntKind.wrap .i64 (i + 1)))] (fun w => by kernel_rfl) ?_
    refine N_end (by kernel_rfl) ?_
    refine S_then ?_
    exact S_round (((IntKind.wrap .u64 (x * 2)), (IntKind.wrap .i64 (i + 1))) : Int × Int) (sb (by kernel_rfl)) h
  · rw [if_neg c4] at h
    have b5 : (decide (i < nv)) = false := decide_eq_false c4
    refine S_env [(0, .int .i64 nv), (3, .int .u64 x), (4, .int .i64 i), (7, .bool false)] (by simp only [b5, Bool.not_true, Bool.not_false]) ?_
    clear b5
    refine S_condF (.tmp 7) moraineref01_power.k15 moraineref01_power.k16 (by kernel_rfl) (by kernel_rfl) ?_
    refine S_exit 0 (by kernel_rfl) ?_
    refine S_exitThen ?_
    refine S_exitThen ?_
    refine S_exitHere ?_
    refine S_then ?_
    refine S_seq moraineref01_power.k20 moraineref01_power.k21 (by kernel_rfl) ?_
    refine S_region 6 (Code.ops moraineref01_power.k20) (by kernel_rfl) ?_
    refine N_run 2 [(2, .int .u64 x)] (fun w => by kernel_rfl) ?_
    refine N_end (by kernel_rfl) ?_
    refine S_then ?_
    refine S_ret (by kernel_rfl) ?_
    show At _ _ _ _ (Q .ret)
    exact S_done (fn := Try.f26) [.int .u64 x] hQ (show ResOK _ _ _ [.tmp 2] _ from .tmp (by kernel_rfl) (.nil)) h

end Go.Proofs.Ytgofbcapgikboaa
