/-
  Written by a program of mine (gen.py): for functions of this translation a predicate transformer over heaps (.pt), and the proof that it is sound for the call (.link).
-/
import Derived.Test.YtfohlkiikppefaaFnsC
set_option linter.unusedSimpArgs false
set_option linter.unusedVariables false
set_option maxHeartbeats 1000000
namespace Go.Proofs.Ytfohlkiikppefaa
open Go
/-! (*moraine/obj.Heap).words -/
noncomputable def obj_Heap_words.k0 : Code := Func.code Try.f68
noncomputable def obj_Heap_words.k1 : Code := Code.fa obj_Heap_words.k0
noncomputable def obj_Heap_words.k2 : Code := Code.fb obj_Heap_words.k0
noncomputable def obj_Heap_words.k3 : Code := Code.fa obj_Heap_words.k2
noncomputable def obj_Heap_words.k4 : Code := Code.fb obj_Heap_words.k2
noncomputable def obj_Heap_words.k5 : Code := Code.fa obj_Heap_words.k4
noncomputable def obj_Heap_words.k6 : Code := Code.fb obj_Heap_words.k4
noncomputable def obj_Heap_words.k7 : Code := Code.fa obj_Heap_words.k5
noncomputable def obj_Heap_words.k8 : Code := Code.fb obj_Heap_words.k5
noncomputable def obj_Heap_words.k9 : Code := Code.fa obj_Heap_words.k8
noncomputable def obj_Heap_words.k10 : Code := Code.fb obj_Heap_words.k8
noncomputable def obj_Heap_words.k11 : Code := Code.fa obj_Heap_words.k9
noncomputable def obj_Heap_words.k12 : Code := Code.fb obj_Heap_words.k9
noncomputable def obj_Heap_words.k13 : Code := Code.fa obj_Heap_words.k6
noncomputable def obj_Heap_words.k14 : Code := Code.fb obj_Heap_words.k6
noncomputable def obj_Heap_words.k15 : Code := Code.fa obj_Heap_words.k14
noncomputable def obj_Heap_words.k16 : Code := Code.fb obj_Heap_words.k14
noncomputable def obj_Heap_words.k17 : Code := Code.fa obj_Heap_words.k15
noncomputable def obj_Heap_words.k18 : Code := Code.fb obj_Heap_words.k15
noncomputable def obj_Heap_words.k19 : Code := Code.fa obj_Heap_words.k18
noncomputable def obj_Heap_words.k20 : Code := Code.fa obj_Heap_words.k19
noncomputable def obj_Heap_words.k21 : Code := Code.fa obj_Heap_words.k20
noncomputable def obj_Heap_words.k22 : Code := Code.fb obj_Heap_words.k20
noncomputable def obj_Heap_words.k23 : Code := Code.fa obj_Heap_words.k22
noncomputable def obj_Heap_words.k24 : Code := Code.fb obj_Heap_words.k22
noncomputable def obj_Heap_words.k25 : Code := Code.fa obj_Heap_words.k23
noncomputable def obj_Heap_words.k26 : Code := Code.fb obj_Heap_words.k23
noncomputable def obj_Heap_words.k27 : Code := Code.fa obj_Heap_words.k24
noncomputable def obj_Heap_words.k28 : Code := Code.fb obj_Heap_words.k24
noncomputable def obj_Heap_words.k29 : Code := Code.fa obj_Heap_words.k27
noncomputable def obj_Heap_words.k30 : Code := Code.fa obj_Heap_words.k29
noncomputable def obj_Heap_words.k31 : Code := Code.fb obj_Heap_words.k29
noncomputable def obj_Heap_words.k32 : Code := Code.fa obj_Heap_words.k16
noncomputable def obj_Heap_words.k33 : Code := Code.fb obj_Heap_words.k16
def obj_Heap_words.pt (hv : Option Addr) (wv : Int) (kind : Int) (H : Array Obj) (R : Value → Array Obj → Prop) : Prop :=
 obj_Heap_object.C hv wv H (fun v H1 => ∃ ra : Int, ∃ rb : Int, ∃ rc : Int, ∃ rd : Int, ∃ re : Bool, v = .tuple #[.int .i64 ra, .int .i64 rb, .int .i64 rc, .int .u64 rd, .bool re] ∧ 
  if ((!re) || (rb != kind)) = true then (
   R (.tuple #[.slice none 0 0, .bool false]) H1)
  else
  0 ≤ rc ∧ rc ≤ rc ∧ 8 * rc ≤ 2 ^ 48 ∧ rc ≤ 9223372036854775807 ∧
  ∀ (b : Nat) (H2 : Array Obj), b = H1.size → H2 = H1.push (.cells (Builtin.zeroCells #[.int .u64 0] (Int.toNat rc)) 29) →
  ∃ (I21 : Int → Array Obj → Prop) (m21 : Int → Array Obj → Nat), I21 0 H2 ∧ ∀ (s35 : Int) (H3 : Array Obj), I21 s35 H3 →
  if s35 < ((Int.toNat rc) : Int) then (
   ∃ hvA : Addr, hv = some hvA ∧
   ∃ x : Option Addr, hat H3 hvA = some (.pointer x) ∧
   ∃ xA : Addr, x = some xA ∧
   ∃ x_2 : Option Addr, hat H3 xA = some (.pointer x_2) ∧
   ∃ x2A : Addr, x_2 = some x2A ∧
   ∃ x_3 : Option Addr, hat H3 x2A = some (.pointer x_3) ∧
   seg_Mem_Read.C x_3 (IntKind.wrap .i64 ((IntKind.wrap .i64 (ra + 1)) + s35)) H3 (fun v_2 H4 => ∃ ra_2 : Int, ∃ rb_2 : Int, v_2 = .tuple #[.int .u64 ra_2, .int .i64 rb_2] ∧ 
    ((0 : Int) ≤ s35 ∧ s35 < ((Int.toNat rc) : Int)) ∧
    (CanPuts H4 ((Addr.mk b 0 none).add (Int.toNat s35 * 1)) 0 1) ∧ ∀ H5 : Array Obj, H5 = hputs H4 ((Addr.mk b 0 none).add (Int.toNat s35 * 1)) [.int .u64 ra_2] 0 →
    (I21 (IntKind.wrap .i64 (s35 + 1)) H5 ∧ m21 (IntKind.wrap .i64 (s35 + 1)) H5 < m21 s35 H3)))
  else
  R (.tuple #[.slice (some (Addr.mk b 0 none)) (Int.toNat rc) (Int.toNat rc), .bool true]) H3)
set_option maxRecDepth 100000 in
theorem obj_Heap_words.link {hv : Option Addr} {wv : Int} {kind : Int} {H : Array Obj} {R : Value → Array Obj → Prop} (h : obj_Heap_words.pt hv wv kind H R) : obj_Heap_words.C hv wv kind H R := by
  refine S_enter (fn := Try.f68) (c := obj_Heap_words.k0) 61 Try.func68 (by kernel_rfl) (by kernel_rfl) (Nat.le_of_ble_eq_true (by kernel_rfl)) ?_
  intro w0 Q hQ
  unfold obj_Heap_words.pt at h
  refine S_sub [(0, .pointer hv), (1, .int .u64 wv), (2, .int .i64 kind)] (sb (by kernel_rfl)) ?_
  refine S_seq obj_Heap_words.k1 obj_Heap_words.k2 (by kernel_rfl) ?_
  refine S_region 0 (Code.ops obj_Heap_words.k1) (by kernel_rfl) ?_
  refine N_run 2 [(0, .pointer hv), (1, .int .u64 wv), (2, .int .i64 kind)] (fun w => by kernel_rfl) ?_
  refine N_end (by kernel_rfl) ?_
  refine S_then ?_
  refine S_seq obj_Heap_words.k3 obj_Heap_words.k4 (by kernel_rfl) ?_
  refine S_region 1 (Code.ops obj_Heap_words.k3) (by kernel_rfl) ?_
  refine N_run 2 [(0, .pointer hv), (2, .int .i64 kind), (16, .pointer hv), (17, .int .u64 wv)] (fun w => by kernel_rfl) ?_
  refine N_call (some 18) 66 #[.pointer hv, .int .u64 wv] (fun w => by kernel_rfl) h ?_; clear h
  rintro v H1 ⟨ra, rb, rc, rd, re, rfl, h⟩
  refine ⟨[(0, .pointer hv), (2, .int .i64 kind), (18, .tuple #[.int .i64 ra, .int .i64 rb, .int .i64 rc, .int .u64 rd, .bool re])], ps (by kernel_rfl), ?_⟩
  refine N_run 11 [(0, .pointer hv), (2, .int .i64 kind), (8, .int .i64 ra), (9, .int .i64 rb), (10, .int .i64 rc), (12, .bool re)] (fun w => by kernel_rfl) ?_
  refine N_end (by kernel_rfl) ?_
  refine S_then ?_
  refine S_seq obj_Heap_words.k5 obj_Heap_words.k6 (by kernel_rfl) ?_
  refine S_seq obj_Heap_words.k7 obj_Heap_words.k8 (by kernel_rfl) ?_
  refine S_region 2 (Code.ops obj_Heap_words.k7) (by kernel_rfl) ?_
  refine N_cut [(0, .pointer hv), (8, .int .i64 ra), (10, .int .i64 rc), (30, .bool ((!re) || (rb != kind)))] ?_ ?_
  · refine S_then ?_
    by_cases c3 : ((!re) || (rb != kind)) = true
    · rw [if_pos c3] at h
      have b4 : ((!re) || (rb != kind)) = true := c3
      refine S_env [(0, .pointer hv), (8, .int .i64 ra), (10, .int .i64 rc), (30, .bool true)] (by simp only [b4, Bool.not_true, Bool.not_false]) ?_
      clear b4
      refine S_condT (.tmp 30) obj_Heap_words.k9 obj_Heap_words.k10 (by kernel_rfl) (by kernel_rfl) ?_
      refine S_seq obj_Heap_words.k11 obj_Heap_words.k12 (by kernel_rfl) ?_
      refine S_region 3 (Code.ops obj_Heap_words.k11) (by kernel_rfl) ?_
      refine N_run 2 [(6, .slice none 0 0), (7, .bool false)] (fun w => by kernel_rfl) ?_
      refine N_end (by kernel_rfl) ?_
      refine S_then ?_
      refine S_ret (by kernel_rfl) ?_
      show At _ _ _ _ (Q .ret)
      exact S_done (fn := Try.f68) [.slice none 0 0, .bool false] hQ (show ResOK _ _ _ [.tmp 6, .tmp 7] _ from .tmp (by kernel_rfl) (.tmp (by kernel_rfl) (.nil))) h
    · rw [if_neg c3] at h
      have b4 : ((!re) || (rb != kind)) = false := eq_false_of_ne_true c3
      refine S_env [(0, .pointer hv), (8, .int .i64 ra), (10, .int .i64 rc), (30, .bool false)] (by simp only [b4, Bool.not_true, Bool.not_false]) ?_
      clear b4
      refine S_condF (.tmp 30) obj_Heap_words.k9 obj_Heap_words.k10 (by kernel_rfl) (by kernel_rfl) ?_
      refine S_skip (by kernel_rfl) ?_
      refine S_then ?_
      refine S_seq obj_Heap_words.k13 obj_Heap_words.k14 (by kernel_rfl) ?_
      refine S_region 4 (Code.ops obj_Heap_words.k13) (by kernel_rfl) ?_
      refine N_run 1 [(0, .pointer hv), (8, .int .i64 ra), (31, .int .i64 rc)] (fun w => by kernel_rfl) ?_
      obtain ⟨q5, q6, q7, q8, h⟩ := h
      refine N_op (some 32) (makeSliceN 39 (.int .i64 rc) (.int .i64 rc)) (fun v Hz => v = Value.slice (some (Addr.mk H1.size 0 none)) (Int.toNat rc) (Int.toNat rc) ∧ Hz = H1.push (.cells (Builtin.zeroCells #[.int .u64 0] (Int.toNat rc)) 29)) (fun w => by kernel_rfl) (ss_make (T := 29) (zero := .int .u64 0) Try.underlying39 (show Try.prog.info? 29 = some Try.t29 from by kernel_rfl) (by kernel_rfl) q5 q6 q7 q8 (by kernel_rfl) (by decide)) ?_
      rintro _ H2 ⟨rfl, e10⟩
      obtain ⟨b, e9⟩ : ∃ b, b = H1.size := ⟨_, rfl⟩
      replace h := h b H2 e9 e10
      rw [← e9]
      refine ⟨[(0, .pointer hv), (8, .int .i64 ra), (32, .slice (some (Addr.mk b 0 none)) (Int.toNat rc) (Int.toNat rc))], ps (by kernel_rfl), ?_⟩
      refine N_run 1 [(0, .pointer hv), (8, .int .i64 ra), (13, .slice (some (Addr.mk b 0 none)) (Int.toNat rc) (Int.toNat rc))] (fun w => by kernel_rfl) ?_
      refine N_end (by kernel_rfl) ?_
      refine S_then ?_
      refine S_seq obj_Heap_words.k15 obj_Heap_words.k16 (by kernel_rfl) ?_
      refine S_seq obj_Heap_words.k17 obj_Heap_words.k18 (by kernel_rfl) ?_
      refine S_region 5 (Code.ops obj_Heap_words.k17) (by kernel_rfl) ?_
      refine N_run 3 [(0, .pointer hv), (8, .int .i64 ra), (13, .slice (some (Addr.mk b 0 none)) (Int.toNat rc) (Int.toNat rc)), (34, .int .i64 ((Int.toNat rc) : Int)), (35, .int .i64 0)] (fun w => by kernel_rfl) ?_
      refine N_end (by kernel_rfl) ?_
      refine S_then ?_
      refine S_block 0 obj_Heap_words.k19 (by kernel_rfl) ?_
      obtain ⟨I21, m21, i11, i12⟩ := h
      refine S_loop (x := obj_Heap_words.k20) (σ := Int) (fun s_ => [(0, .pointer hv), (8, .int .i64 ra), (13, .slice (some (Addr.mk b 0 none)) (Int.toNat rc) (Int.toNat rc)), (34, .int .i64 ((Int.toNat rc) : Int)), (35, .int .i64 s_)]) (fun s_ H => I21 s_ H) (fun s_ H => m21 s_ H) (0 : Int) (by kernel_rfl) i11 (sb (by kernel_rfl)) ?_
      rintro s35 H3 i13
      have h := i12 s35 H3 i13
      refine S_sub [(0, .pointer hv), (8, .int .i64 ra), (13, .slice (some (Addr.mk b 0 none)) (Int.toNat rc) (Int.toNat rc)), (34, .int .i64 ((Int.toNat rc) : Int)), (35, .int .i64 s35)] (sb (by kernel_rfl)) ?_
      refine S_seq obj_Heap_words.k21 obj_Heap_words.k22 (by kernel_rfl) ?_
      refine S_region 6 (Code.ops obj_Heap_words.k21) (by kernel_rfl) ?_
      refine N_run 1 [(0, .pointer hv), (8, .int .i64 ra), (13, .slice (some (Addr.mk b 0 none)) (Int.toNat rc) (Int.toNat rc)), (34, .int .i64 ((Int.toNat rc) : Int)), (35, .int .i64 s35), (36, .bool (decide (s35 < ((Int.toNat rc) : Int))))] (fun w => by kernel_rfl) ?_
      refine N_end (by kernel_rfl) ?_
      refine S_then ?_
      refine S_seq obj_Heap_words.k23 obj_Heap_words.k24 (by kernel_rfl) ?_
      by_cases c14 : s35 < ((Int.toNat rc) : Int)
      · rw [if_pos c14] at h
        have b15 : (decide (s35 < ((Int.toNat rc) : Int))) = true := decide_eq_true c14
        refine S_env [(0, .pointer hv), (8, .int .i64 ra), (13, .slice (some (Addr.mk b 0 none)) (Int.toNat rc) (Int.toNat rc)), (34, .int .i64 ((Int.toNat rc) : Int)), (35, .int .i64 s35), (36, .bool true)] (by simp only [b15, Bool.not_true, Bool.not_false]) ?_
        clear b15
        refine S_condT (.tmp 36) obj_Heap_words.k25 obj_Heap_words.k26 (by kernel_rfl) (by kernel_rfl) ?_
        refine S_skip (by kernel_rfl) ?_
        refine S_then ?_
        refine S_seq obj_Heap_words.k27 obj_Heap_words.k28 (by kernel_rfl) ?_
        refine S_block 1 obj_Heap_words.k29 (by kernel_rfl) ?_
        refine S_seq obj_Heap_words.k30 obj_Heap_words.k31 (by kernel_rfl) ?_
        refine S_region 7 (Code.ops obj_Heap_words.k30) (by kernel_rfl) ?_
        refine N_run 2 [(0, .pointer hv), (8, .int .i64 ra), (13, .slice (some (Addr.mk b 0 none)) (Int.toNat rc) (Int.toNat rc)), (14, .int .i64 s35), (34, .int .i64 ((Int.toNat rc) : Int)), (35, .int .i64 s35)] (fun w => by kernel_rfl) ?_
        refine N_end (by kernel_rfl) ?_
        refine S_then ?_
        refine S_region 8 (Code.ops obj_Heap_words.k31) (by kernel_rfl) ?_
        refine N_run 3 [(0, .pointer hv), (8, .int .i64 ra), (13, .slice (some (Addr.mk b 0 none)) (Int.toNat rc) (Int.toNat rc)), (14, .int .i64 s35), (34, .int .i64 ((Int.toNat rc) : Int)), (35, .int .i64 s35), (39, .slice (some (Addr.mk b 0 none)) (Int.toNat rc) (Int.toNat rc)), (40, .int .i64 s35), (41, .pointer hv)] (fun w => by kernel_rfl) ?_
        obtain ⟨hvA, rfl, h⟩ := h
        refine N_run 2 [(0, .pointer (some hvA)), (8, .int .i64 ra), (13, .slice (some (Addr.mk b 0 none)) (Int.toNat rc) (Int.toNat rc)), (14, .int .i64 s35), (34, .int .i64 ((Int.toNat rc) : Int)), (35, .int .i64 s35), (39, .slice (some (Addr.mk b 0 none)) (Int.toNat rc) (Int.toNat rc)), (40, .int .i64 s35), (43, .pointer (some hvA))] (fun w => by kernel_rfl) ?_
        obtain ⟨x, q16, h⟩ := h
        refine N_val (some 44) (loadN 57 (.pointer (some hvA))) (.pointer x) (fun w => by kernel_rfl) (loadN_run (loadOK_one (fun w => by kernel_rfl) q16)) [(0, .pointer (some hvA)), (8, .int .i64 ra), (13, .slice (some (Addr.mk b 0 none)) (Int.toNat rc) (Int.toNat rc)), (14, .int .i64 s35), (34, .int .i64 ((Int.toNat rc) : Int)), (35, .int .i64 s35), (39, .slice (some (Addr.mk b 0 none)) (Int.toNat rc) (Int.toNat rc)), (40, .int .i64 s35), (44, .pointer x)] (ps (by kernel_rfl)) ?_
        obtain ⟨xA, rfl, h⟩ := h
        refine N_run 2 [(0, .pointer (some hvA)), (8, .int .i64 ra), (13, .slice (some (Addr.mk b 0 none)) (Int.toNat rc) (Int.toNat rc)), (14, .int .i64 s35), (34, .int .i64 ((Int.toNat rc) : Int)), (35, .int .i64 s35), (39, .slice (some (Addr.mk b 0 none)) (Int.toNat rc) (Int.toNat rc)), (40, .int .i64 s35), (46, .pointer (some xA))] (fun w => by kernel_rfl) ?_
        obtain ⟨x_2, q17, h⟩ := h
        refine N_val (some 47) (loadN 107 (.pointer (some xA))) (.pointer x_2) (fun w => by kernel_rfl) (loadN_run (loadOK_one (fun w => by kernel_rfl) q17)) [(0, .pointer (some hvA)), (8, .int .i64 ra), (13, .slice (some (Addr.mk b 0 none)) (Int.toNat rc) (Int.toNat rc)), (14, .int .i64 s35), (34, .int .i64 ((Int.toNat rc) : Int)), (35, .int .i64 s35), (39, .slice (some (Addr.mk b 0 none)) (Int.toNat rc) (Int.toNat rc)), (40, .int .i64 s35), (47, .pointer x_2)] (ps (by kernel_rfl)) ?_
        obtain ⟨x2A, rfl, h⟩ := h
        refine N_run 2 [(0, .pointer (some hvA)), (8, .int .i64 ra), (13, .slice (some (Addr.mk b 0 none)) (Int.toNat rc) (Int.toNat rc)), (14, .int .i64 s35), (34, .int .i64 ((Int.toNat rc) : Int)), (35, .int .i64 s35), (39, .slice (some (Addr.mk b 0 none)) (Int.toNat rc) (Int.toNat rc)), (40, .int .i64 s35), (49, .pointer (some x2A))] (fun w => by kernel_rfl) ?_
        obtain ⟨x_3, q18, h⟩ := h
        refine N_val (some 50) (loadN 124 (.pointer (some x2A))) (.pointer x_3) (fun w => by kernel_rfl) (loadN_run (loadOK_one (fun w => by kernel_rfl) q18)) [(0, .pointer (some hvA)), (8, .int .i64 ra), (13, .slice (some (Addr.mk b 0 none)) (Int.toNat rc) (Int.toNat rc)), (14, .int .i64 s35), (34, .int .i64 ((Int.toNat rc) : Int)), (35, .int .i64 s35), (39, .slice (some (Addr.mk b 0 none)) (Int.toNat rc) (Int.toNat rc)), (40, .int .i64 s35), (50, .pointer x_3)] (ps (by kernel_rfl)) ?_
        refine N_run 4 [(0, .pointer (some hvA)), (8, .int .i64 ra), (13, .slice (some (Addr.mk b 0 none)) (Int.toNat rc) (Int.toNat rc)), (34, .int .i64 ((Int.toNat rc) : Int)), (35, .int .i64 s35), (39, .slice (some (Addr.mk b 0 none)) (Int.toNat rc) (Int.toNat rc)), (40, .int .i64 s35), (50, .pointer x_3), (54, .int .i64 (IntKind.wrap .i64 ((IntKind.wrap .i64 (ra + 1)) + s35)))] (fun w => by kernel_rfl) ?_
        refine N_call (some 55) 67 #[.pointer x_3, .int .i64 (IntKind.wrap .i64 ((IntKind.wrap .i64 (ra + 1)) + s35))] (fun w => by kernel_rfl) h ?_; clear h
        rintro v_2 H4 ⟨ra_2, rb_2, rfl, h⟩
        refine ⟨[(0, .pointer (some hvA)), (8, .int .i64 ra), (13, .slice (some (Addr.mk b 0 none)) (Int.toNat rc) (Int.toNat rc)), (34, .int .i64 ((Int.toNat rc) : Int)), (35, .int .i64 s35), (39, .slice (some (Addr.mk b 0 none)) (Int.toNat rc) (Int.toNat rc)), (40, .int .i64 s35), (55, .tuple #[.int .u64 ra_2, .int .i64 rb_2])], ps (by kernel_rfl), ?_⟩
        refine N_run 3 [(0, .pointer (some hvA)), (8, .int .i64 ra), (13, .slice (some (Addr.mk b 0 none)) (Int.toNat rc) (Int.toNat rc)), (34, .int .i64 ((Int.toNat rc) : Int)), (35, .int .i64 s35), (39, .slice (some (Addr.mk b 0 none)) (Int.toNat rc) (Int.toNat rc)), (40, .int .i64 s35), (56, .int .u64 ra_2)] (fun w => by kernel_rfl) ?_
        obtain ⟨q19, h⟩ := h
        refine N_val (some 58) (indexAtN 39 (.slice (some (Addr.mk b 0 none)) (Int.toNat rc) (Int.toNat rc)) (.int .i64 s35)) (.pointer (some ((Addr.mk b 0 none).add (Int.toNat s35 * 1)))) (fun w => by kernel_rfl) (fun w _ => indexAt_run (P := Try.prog) (t := 39) (elem := 29) (sz := 1) (a := (Addr.mk b 0 none)) (len := (Int.toNat rc)) (cap := (Int.toNat rc)) (k := .i64) (i := s35) Try.underlying39 (fun w => by kernel_rfl) q19.1 q19.2 w) [(0, .pointer (some hvA)), (8, .int .i64 ra), (13, .slice (some (Addr.mk b 0 none)) (Int.toNat rc) (Int.toNat rc)), (34, .int .i64 ((Int.toNat rc) : Int)), (35, .int .i64 s35), (56, .int .u64 ra_2), (58, .pointer (some ((Addr.mk b 0 none).add (Int.toNat s35 * 1))))] (ps (by kernel_rfl)) ?_
        obtain ⟨q21, h⟩ := h
        refine N_skipop none (storeN 29 (.pointer (some ((Addr.mk b 0 none).add (Int.toNat s35 * 1)))) (.int .u64 ra_2)) (fun Hz => Hz = hputs H4 ((Addr.mk b 0 none).add (Int.toNat s35 * 1)) [.int .u64 ra_2] 0) (fun w => by kernel_rfl) (ss_store [.int .u64 ra_2] 1 (by kernel_rfl) (by kernel_rfl) (fun w => by kernel_rfl) (by kernel_rfl) q21) ?_
        intro H5 e20
        replace h := h H5 e20
        refine ⟨[(0, .pointer (some hvA)), (8, .int .i64 ra), (13, .slice (some (Addr.mk b 0 none)) (Int.toNat rc) (Int.toNat rc)), (34, .int .i64 ((Int.toNat rc) : Int)), (35, .int .i64 s35)], ps (by kernel_rfl), ?_⟩
        refine N_end (by kernel_rfl) ?_
        refine S_blockEnd ?_
        refine S_then ?_
        refine S_region 9 (Code.ops obj_Heap_words.k28) (by kernel_rfl) ?_
        refine N_run 2 [(0, .pointer (some hvA)), (8, .int .i64 ra), (13, .slice (some (Addr.mk b 0 none)) (Int.toNat rc) (Int.toNat rc)), (34, .int .i64 ((Int.toNat rc) : Int)), (35, .int .i64 (IntKind.wrap .i64 (s35 + 1)))] (fun w => by kernel_rfl) ?_
        refine N_end (by kernel_rfl) ?_
        refine S_then ?_
        exact S_round ((IntKind.wrap .i64 (s35 + 1)) : Int) (sb (by kernel_rfl)) h
      · rw [if_neg c14] at h
        have b15 : (decide (s35 < ((Int.toNat rc) : Int))) = false := decide_eq_false c14
        refine S_env [(0, .pointer hv), (8, .int .i64 ra), (13, .slice (some (Addr.mk b 0 none)) (Int.toNat rc) (Int.toNat rc)), (34, .int .i64 ((Int.toNat rc) : Int)), (35, .int .i64 s35), (36, .bool false)] (by simp only [b15, Bool.not_true, Bool.not_false]) ?_
        clear b15
        refine S_condF (.tmp 36) obj_Heap_words.k25 obj_Heap_words.k26 (by kernel_rfl) (by kernel_rfl) ?_
        refine S_exit 0 (by kernel_rfl) ?_
        refine S_exitThen ?_
        refine S_exitThen ?_
        refine S_exitHere ?_
        refine S_then ?_
        refine S_seq obj_Heap_words.k32 obj_Heap_words.k33 (by kernel_rfl) ?_
        refine S_region 10 (Code.ops obj_Heap_words.k32) (by kernel_rfl) ?_
        refine N_run 3 [(6, .slice (some (Addr.mk b 0 none)) (Int.toNat rc) (Int.toNat rc)), (7, .bool true)] (fun w => by kernel_rfl) ?_
        refine N_end (by kernel_rfl) ?_
        refine S_then ?_
        refine S_ret (by kernel_rfl) ?_
        show At _ _ _ _ (Q .ret)
        exact S_done (fn := Try.f68) [.slice (some (Addr.mk b 0 none)) (Int.toNat rc) (Int.toNat rc), .bool true] hQ (show ResOK _ _ _ [.tmp 6, .tmp 7] _ from .tmp (by kernel_rfl) (.tmp (by kernel_rfl) (.nil))) h
  · intro hk
    refine N_run 3 [(0, .pointer hv), (2, .int .i64 kind), (8, .int .i64 ra), (9, .int .i64 rb), (10, .int .i64 rc), (26, .bool (!re))] (fun w => by kernel_rfl) ?_
    by_cases c1 : re = true
    · have b2 : (!re) = false := congrArg Bool.not (c1)
      have b22 : re = true := c1
      refine N_env [(0, .pointer hv), (2, .int .i64 kind), (8, .int .i64 ra), (9, .int .i64 rb), (10, .int .i64 rc), (26, .bool false)] (by simp only [b2, b22, Bool.not_true, Bool.not_false]) ?_
      refine N_run 4 [(0, .pointer hv), (8, .int .i64 ra), (10, .int .i64 rc), (30, .bool (rb != kind))] (fun w => by kernel_rfl) ?_
      refine N_end (by kernel_rfl) ?_
      refine S_env [(0, .pointer hv), (8, .int .i64 ra), (10, .int .i64 rc), (30, .bool ((!re) || (rb != kind)))] (by simp only [b2, Bool.true_or, Bool.false_or, Bool.or_true, Bool.or_false, Bool.true_and, Bool.false_and, Bool.and_true, Bool.and_false, Bool.not_true, Bool.not_false, cond_true, cond_false]) ?_
      exact hk
    · have b2 : (!re) = true := congrArg Bool.not (eq_false_of_ne_true c1)
      have b22 : re = false := eq_false_of_ne_true c1
      refine N_env [(0, .pointer hv), (2, .int .i64 kind), (8, .int .i64 ra), (9, .int .i64 rb), (10, .int .i64 rc), (26, .bool true)] (by simp only [b2, b22, Bool.not_true, Bool.not_false]) ?_
      refine N_run 4 [(0, .pointer hv), (8, .int .i64 ra), (10, .int .i64 rc), (30, .bool true)] (fun w => by kernel_rfl) ?_
      refine N_end (by kernel_rfl) ?_
      refine S_env [(0, .pointer hv), (8, .int .i64 ra), (10, .int .i64 rc), (30, .bool ((!re) || (rb != kind)))] (by simp only [b2, Bool.true_or, Bool.false_or, Bool.or_true, Bool.or_false, Bool.true_and, Bool.false_and, Bool.and_true, Bool.and_false, Bool.not_true, Bool.not_false, cond_true, cond_false]) ?_
      exact hk

/-! (*moraine/obj.Heap).More -/
noncomputable def obj_Heap_More.k0 : Code := Func.code Try.f71
noncomputable def obj_Heap_More.k1 : Code := Code.fa obj_Heap_More.k0
noncomputable def obj_Heap_More.k2 : Code := Code.fb obj_Heap_More.k0
noncomputable def obj_Heap_More.k3 : Code := Code.fa obj_Heap_More.k2
noncomputable def obj_Heap_More.k4 : Code := Code.fb obj_Heap_More.k2
noncomputable def obj_Heap_More.k5 : Code := Code.fa obj_Heap_More.k4
noncomputable def obj_Heap_More.k6 : Code := Code.fb obj_Heap_More.k4
def obj_Heap_More.pt (hv : Option Addr) (wv : Int) (H : Array Obj) (R : Value → Array Obj → Prop) : Prop :=
 obj_Heap_object.C hv wv H (fun v H1 => ∃ ra : Int, ∃ rb : Int, ∃ rc : Int, ∃ rd : Int, ∃ re : Bool, v = .tuple #[.int .i64 ra, .int .i64 rb, .int .i64 rc, .int .u64 rd, .bool re] ∧ 
  R (.int .u64 rd) H1)
set_option maxRecDepth 100000 in
theorem obj_Heap_More.link {hv : Option Addr} {wv : Int} {H : Array Obj} {R : Value → Array Obj → Prop} (h : obj_Heap_More.pt hv wv H R) : obj_Heap_More.C hv wv H R := by
  refine S_enter (fn := Try.f71) (c := obj_Heap_More.k0) 20 Try.func71 (by kernel_rfl) (by kernel_rfl) (Nat.le_of_ble_eq_true (by kernel_rfl)) ?_
  intro w0 Q hQ
  unfold obj_Heap_More.pt at h
  refine S_sub [(0, .pointer hv), (1, .int .u64 wv)] (sb (by kernel_rfl)) ?_
  refine S_seq obj_Heap_More.k1 obj_Heap_More.k2 (by kernel_rfl) ?_
  refine S_region 0 (Code.ops obj_Heap_More.k1) (by kernel_rfl) ?_
  refine N_run 1 [(0, .pointer hv), (1, .int .u64 wv)] (fun w => by kernel_rfl) ?_
  refine N_end (by kernel_rfl) ?_
  refine S_then ?_
  refine S_seq obj_Heap_More.k3 obj_Heap_More.k4 (by kernel_rfl) ?_
  refine S_region 1 (Code.ops obj_Heap_More.k3) (by kernel_rfl) ?_
  refine N_run 2 [(11, .pointer hv), (12, .int .u64 wv)] (fun w => by kernel_rfl) ?_
  refine N_call (some 13) 66 #[.pointer hv, .int .u64 wv] (fun w => by kernel_rfl) h ?_; clear h
  rintro v H1 ⟨ra, rb, rc, rd, re, rfl, h⟩
  refine ⟨[(13, .tuple #[.int .i64 ra, .int .i64 rb, .int .i64 rc, .int .u64 rd, .bool re])], ps (by kernel_rfl), ?_⟩
  refine N_run 11 [(8, .int .u64 rd)] (fun w => by kernel_rfl) ?_
  refine N_end (by kernel_rfl) ?_
  refine S_then ?_
  refine S_seq obj_Heap_More.k5 obj_Heap_More.k6 (by kernel_rfl) ?_
  refine S_region 2 (Code.ops obj_Heap_More.k5) (by kernel_rfl) ?_
  refine N_run 2 [(4, .int .u64 rd)] (fun w => by kernel_rfl) ?_
  refine N_end (by kernel_rfl) ?_
  refine S_then ?_
  refine S_ret (by kernel_rfl) ?_
  show At _ _ _ _ (Q .ret)
  exact S_done (fn := Try.f71) [.int .u64 rd] hQ (show ResOK _ _ _ [.tmp 4] _ from .tmp (by kernel_rfl) (.nil)) h

/-! (*moraine/obj.Heap).none -/
noncomputable def obj_Heap_none.k0 : Code := Func.code Try.f75
noncomputable def obj_Heap_none.k1 : Code := Code.fa obj_Heap_none.k0
noncomputable def obj_Heap_none.k2 : Code := Code.fb obj_Heap_none.k0
noncomputable def obj_Heap_none.k3 : Code := Code.fa obj_Heap_none.k2
noncomputable def obj_Heap_none.k4 : Code := Code.fb obj_Heap_none.k2
def obj_Heap_none.pt (hv : Option Addr) (H : Array Obj) (R : Value → Array Obj → Prop) : Prop :=
 onPtr hv (
  R (.bool true) H) (fun hvA =>
  ∃ x : Option Addr, hat H hvA = some (.pointer x) ∧
  onPtr x (
   R (.bool true) H) (fun xA =>
   R (.bool false) H))
set_option maxRecDepth 100000 in
theorem obj_Heap_none.link {hv : Option Addr} {H : Array Obj} {R : Value → Array Obj → Prop} (h : obj_Heap_none.pt hv H R) : obj_Heap_none.C hv H R := by
  refine S_enter (fn := Try.f75) (c := obj_Heap_none.k0) 12 Try.func75 (by kernel_rfl) (by kernel_rfl) (Nat.le_of_ble_eq_true (by kernel_rfl)) ?_
  intro w0 Q hQ
  unfold obj_Heap_none.pt at h
  refine S_sub [(0, .pointer hv)] (sb (by kernel_rfl)) ?_
  refine S_seq obj_Heap_none.k1 obj_Heap_none.k2 (by kernel_rfl) ?_
  refine S_region 0 (Code.ops obj_Heap_none.k1) (by kernel_rfl) ?_
  refine N_run 1 [(0, .pointer hv)] (fun w => by kernel_rfl) ?_
  refine N_end (by kernel_rfl) ?_
  refine S_then ?_
  refine S_seq obj_Heap_none.k3 obj_Heap_none.k4 (by kernel_rfl) ?_
  refine S_region 1 (Code.ops obj_Heap_none.k3) (by kernel_rfl) ?_
  refine N_run 1 [(0, .pointer hv), (3, .pointer hv)] (fun w => by kernel_rfl) ?_
  rcases hv with _ | hvA
  · rw [onPtr_none] at h
    refine N_run 9 [(2, .bool true)] (fun w => by kernel_rfl) ?_
    refine N_end (by kernel_rfl) ?_
    refine S_then ?_
    refine S_ret (by kernel_rfl) ?_
    show At _ _ _ _ (Q .ret)
    exact S_done (fn := Try.f75) [.bool true] hQ (show ResOK _ _ _ [.tmp 2] _ from .tmp (by kernel_rfl) (.nil)) h
  · rw [onPtr_some] at h
    refine N_run 5 [(5, .bool false), (8, .pointer (some hvA))] (fun w => by kernel_rfl) ?_
    obtain ⟨x, q1, h⟩ := h
    refine N_val (some 9) (loadN 57 (.pointer (some hvA))) (.pointer x) (fun w => by kernel_rfl) (loadN_run (loadOK_one (fun w => by kernel_rfl) q1)) [(5, .bool false), (9, .pointer x)] (ps (by kernel_rfl)) ?_
    rcases x with _ | xA
    · rw [onPtr_none] at h
      refine N_run 3 [(2, .bool true)] (fun w => by kernel_rfl) ?_
      refine N_end (by kernel_rfl) ?_
      refine S_then ?_
      refine S_ret (by kernel_rfl) ?_
      show At _ _ _ _ (Q .ret)
      exact S_done (fn := Try.f75) [.bool true] hQ (show ResOK _ _ _ [.tmp 2] _ from .tmp (by kernel_rfl) (.nil)) h
    · rw [onPtr_some] at h
      refine N_run 3 [(2, .bool false)] (fun w => by kernel_rfl) ?_
      refine N_end (by kernel_rfl) ?_
      refine S_then ?_
      refine S_ret (by kernel_rfl) ?_
      show At _ _ _ _ (Q .ret)
      exact S_done (fn := Try.f75) [.bool false] hQ (show ResOK _ _ _ [.tmp 2] _ from .tmp (by kernel_rfl) (.nil)) h

/-! (*moraine/obj.Heap).set -/
noncomputable def obj_Heap_set.k0 : Code := Func.code Try.f76
noncomputable def obj_Heap_set.k1 : Code := Code.fa obj_Heap_set.k0
noncomputable def obj_Heap_set.k2 : Code := Code.fb obj_Heap_set.k0
noncomputable def obj_Heap_set.k3 : Code := Code.fa obj_Heap_set.k2
noncomputable def obj_Heap_set.k4 : Code := Code.fb obj_Heap_set.k2
noncomputable def obj_Heap_set.k5 : Code := Code.fa obj_Heap_set.k4
noncomputable def obj_Heap_set.k6 : Code := Code.fb obj_Heap_set.k4
noncomputable def obj_Heap_set.k7 : Code := Code.fa obj_Heap_set.k5
noncomputable def obj_Heap_set.k8 : Code := Code.fb obj_Heap_set.k5
noncomputable def obj_Heap_set.k9 : Code := Code.fa obj_Heap_set.k8
noncomputable def obj_Heap_set.k10 : Code := Code.fb obj_Heap_set.k8
noncomputable def obj_Heap_set.k11 : Code := Code.fa obj_Heap_set.k6
noncomputable def obj_Heap_set.k12 : Code := Code.fb obj_Heap_set.k6
noncomputable def obj_Heap_set.k13 : Code := Code.fa obj_Heap_set.k9
noncomputable def obj_Heap_set.k14 : Code := Code.fb obj_Heap_set.k9
def obj_Heap_set.pt (hv : Option Addr) (wv : Int) (i : Int) (v : Int) (H : Array Obj) (R : Value → Array Obj → Prop) : Prop :=
 obj_Heap_pair.C hv wv H (fun v_2 H1 => ∃ ra : Int, ∃ rb : Bool, v_2 = .tuple #[.int .i64 ra, .bool rb] ∧ 
  if rb = true then (
   ∃ hvA : Addr, hv = some hvA ∧
   ∃ x : Option Addr, hat H1 hvA = some (.pointer x) ∧
   card_Cards_Store.C x (IntKind.wrap .i64 (ra + i)) v H1 (fun v_3 H2 => ∃ x_2 : Int, v_3 = .int .i64 x_2 ∧ 
    R (.int .i64 x_2) H2))
  else
  R (.int .i64 3) H1)
set_option maxRecDepth 100000 in
theorem obj_Heap_set.link {hv : Option Addr} {wv : Int} {i : Int} {v : Int} {H : Array Obj} {R : Value → Array Obj → Prop} (h : obj_Heap_set.pt hv wv i v H R) : obj_Heap_set.C hv wv i v H R := by
  refine S_enter (fn := Try.f76) (c := obj_Heap_set.k0) 28 Try.func76 (by kernel_rfl) (by kernel_rfl) (Nat.le_of_ble_eq_true (by kernel_rfl)) ?_
  intro w0 Q hQ
  unfold obj_Heap_set.pt at h
  refine S_sub [(0, .pointer hv), (1, .int .u64 wv), (2, .int .i64 i), (3, .int .u64 v)] (sb (by kernel_rfl)) ?_
  refine S_seq obj_Heap_set.k1 obj_Heap_set.k2 (by kernel_rfl) ?_
  refine S_region 0 (Code.ops obj_Heap_set.k1) (by kernel_rfl) ?_
  refine N_run 1 [(0, .pointer hv), (1, .int .u64 wv), (2, .int .i64 i), (3, .int .u64 v)] (fun w => by kernel_rfl) ?_
  refine N_end (by kernel_rfl) ?_
  refine S_then ?_
  refine S_seq obj_Heap_set.k3 obj_Heap_set.k4 (by kernel_rfl) ?_
  refine S_region 1 (Code.ops obj_Heap_set.k3) (by kernel_rfl) ?_
  refine N_run 2 [(0, .pointer hv), (2, .int .i64 i), (3, .int .u64 v), (12, .pointer hv), (13, .int .u64 wv)] (fun w => by kernel_rfl) ?_
  refine N_call (some 14) 77 #[.pointer hv, .int .u64 wv] (fun w => by kernel_rfl) h ?_; clear h
  rintro v_2 H1 ⟨ra, rb, rfl, h⟩
  refine ⟨[(0, .pointer hv), (2, .int .i64 i), (3, .int .u64 v), (14, .tuple #[.int .i64 ra, .bool rb])], ps (by kernel_rfl), ?_⟩
  refine N_run 5 [(0, .pointer hv), (2, .int .i64 i), (3, .int .u64 v), (9, .int .i64 ra), (10, .bool rb)] (fun w => by kernel_rfl) ?_
  refine N_end (by kernel_rfl) ?_
  refine S_then ?_
  refine S_seq obj_Heap_set.k5 obj_Heap_set.k6 (by kernel_rfl) ?_
  refine S_seq obj_Heap_set.k7 obj_Heap_set.k8 (by kernel_rfl) ?_
  refine S_region 2 (Code.ops obj_Heap_set.k7) (by kernel_rfl) ?_
  refine N_run 2 [(0, .pointer hv), (2, .int .i64 i), (3, .int .u64 v), (9, .int .i64 ra), (18, .bool (!rb))] (fun w => by kernel_rfl) ?_
  refine N_end (by kernel_rfl) ?_
  refine S_then ?_
  by_cases c1 : rb = true
  · rw [if_pos c1] at h
    have b2 : (!rb) = false := congrArg Bool.not (c1)
    have b22 : rb = true := c1
    refine S_env [(0, .pointer hv), (2, .int .i64 i), (3, .int .u64 v), (9, .int .i64 ra), (18, .bool false)] (by simp only [b2, b22, Bool.not_true, Bool.not_false]) ?_
    clear b2 b22
    refine S_condF (.tmp 18) obj_Heap_set.k9 obj_Heap_set.k10 (by kernel_rfl) (by kernel_rfl) ?_
    refine S_skip (by kernel_rfl) ?_
    refine S_then ?_
    refine S_seq obj_Heap_set.k11 obj_Heap_set.k12 (by kernel_rfl) ?_
    refine S_region 4 (Code.ops obj_Heap_set.k11) (by kernel_rfl) ?_
    refine N_run 1 [(2, .int .i64 i), (3, .int .u64 v), (9, .int .i64 ra), (19, .pointer hv)] (fun w => by kernel_rfl) ?_
    obtain ⟨hvA, rfl, h⟩ := h
    refine N_run 2 [(2, .int .i64 i), (3, .int .u64 v), (9, .int .i64 ra), (21, .pointer (some hvA))] (fun w => by kernel_rfl) ?_
    obtain ⟨x, q3, h⟩ := h
    refine N_val (some 22) (loadN 57 (.pointer (some hvA))) (.pointer x) (fun w => by kernel_rfl) (loadN_run (loadOK_one (fun w => by kernel_rfl) q3)) [(2, .int .i64 i), (3, .int .u64 v), (9, .int .i64 ra), (22, .pointer x)] (ps (by kernel_rfl)) ?_
    refine N_run 4 [(22, .pointer x), (25, .int .i64 (IntKind.wrap .i64 (ra + i))), (26, .int .u64 v)] (fun w => by kernel_rfl) ?_
    refine N_call (some 27) 64 #[.pointer x, .int .i64 (IntKind.wrap .i64 (ra + i)), .int .u64 v] (fun w => by kernel_rfl) h ?_; clear h
    rintro v_3 H2 ⟨x_2, rfl, h⟩
    refine ⟨[(27, .int .i64 x_2)], ps (by kernel_rfl), ?_⟩
    refine N_run 1 [(8, .int .i64 x_2)] (fun w => by kernel_rfl) ?_
    refine N_end (by kernel_rfl) ?_
    refine S_then ?_
    refine S_ret (by kernel_rfl) ?_
    show At _ _ _ _ (Q .ret)
    exact S_done (fn := Try.f76) [.int .i64 x_2] hQ (show ResOK _ _ _ [.tmp 8] _ from .tmp (by kernel_rfl) (.nil)) h
  · rw [if_neg c1] at h
    have b2 : (!rb) = true := congrArg Bool.not (eq_false_of_ne_true c1)
    have b22 : rb = false := eq_false_of_ne_true c1
    refine S_env [(0, .pointer hv), (2, .int .i64 i), (3, .int .u64 v), (9, .int .i64 ra), (18, .bool true)] (by simp only [b2, b22, Bool.not_true, Bool.not_false]) ?_
    clear b2 b22
    refine S_condT (.tmp 18) obj_Heap_set.k9 obj_Heap_set.k10 (by kernel_rfl) (by kernel_rfl) ?_
    refine S_seq obj_Heap_set.k13 obj_Heap_set.k14 (by kernel_rfl) ?_
    refine S_region 3 (Code.ops obj_Heap_set.k13) (by kernel_rfl) ?_
    refine N_run 1 [(8, .int .i64 3)] (fun w => by kernel_rfl) ?_
    refine N_end (by kernel_rfl) ?_
    refine S_then ?_
    refine S_ret (by kernel_rfl) ?_
    show At _ _ _ _ (Q .ret)
    exact S_done (fn := Try.f76) [.int .i64 3] hQ (show ResOK _ _ _ [.tmp 8] _ from .tmp (by kernel_rfl) (.nil)) h

/-! (*moraine/obj.Heap).pair -/
noncomputable def obj_Heap_pair.k0 : Code := Func.code Try.f77
noncomputable def obj_Heap_pair.k1 : Code := Code.fa obj_Heap_pair.k0
noncomputable def obj_Heap_pair.k2 : Code := Code.fb obj_Heap_pair.k0
noncomputable def obj_Heap_pair.k3 : Code := Code.fa obj_Heap_pair.k2
noncomputable def obj_Heap_pair.k4 : Code := Code.fb obj_Heap_pair.k2
noncomputable def obj_Heap_pair.k5 : Code := Code.fa obj_Heap_pair.k4
noncomputable def obj_Heap_pair.k6 : Code := Code.fb obj_Heap_pair.k4
noncomputable def obj_Heap_pair.k7 : Code := Code.fa obj_Heap_pair.k5
noncomputable def obj_Heap_pair.k8 : Code := Code.fb obj_Heap_pair.k5
noncomputable def obj_Heap_pair.k9 : Code := Code.fa obj_Heap_pair.k8
noncomputable def obj_Heap_pair.k10 : Code := Code.fb obj_Heap_pair.k8
noncomputable def obj_Heap_pair.k11 : Code := Code.fa obj_Heap_pair.k6
noncomputable def obj_Heap_pair.k12 : Code := Code.fb obj_Heap_pair.k6
def obj_Heap_pair.pt (hv : Option Addr) (wv : Int) (H : Array Obj) (R : Value → Array Obj → Prop) : Prop :=
 obj_Heap_at.C hv wv 1 0 H (fun v H1 => ∃ ra : Int, ∃ rb : Bool, v = .tuple #[.int .i64 ra, .bool rb] ∧ 
  if rb = true then (
   R (.tuple #[.int .i64 ra, .bool ((Int.tmod ra 2) == 0)]) H1)
  else
  obj_Heap_at.C hv wv 2 1 H1 (fun v_2 H2 => ∃ ra_2 : Int, ∃ rb_2 : Bool, v_2 = .tuple #[.int .i64 ra_2, .bool rb_2] ∧ 
   R (.tuple #[.int .i64 ra_2, .bool (rb_2 && ((Int.tmod ra_2 2) == 0))]) H2))
set_option maxRecDepth 100000 in
theorem obj_Heap_pair.link {hv : Option Addr} {wv : Int} {H : Array Obj} {R : Value → Array Obj → Prop} (h : obj_Heap_pair.pt hv wv H R) : obj_Heap_pair.C hv wv H R := by
  refine S_enter (fn := Try.f77) (c := obj_Heap_pair.k0) 29 Try.func77 (by kernel_rfl) (by kernel_rfl) (Nat.le_of_ble_eq_true (by kernel_rfl)) ?_
  intro w0 Q hQ
  unfold obj_Heap_pair.pt at h
  refine S_sub [(0, .pointer hv), (1, .int .u64 wv)] (sb (by kernel_rfl)) ?_
  refine S_seq obj_Heap_pair.k1 obj_Heap_pair.k2 (by kernel_rfl) ?_
  refine S_region 0 (Code.ops obj_Heap_pair.k1) (by kernel_rfl) ?_
  refine N_run 2 [(0, .pointer hv), (1, .int .u64 wv)] (fun w => by kernel_rfl) ?_
  refine N_end (by kernel_rfl) ?_
  refine S_then ?_
  refine S_seq obj_Heap_pair.k3 obj_Heap_pair.k4 (by kernel_rfl) ?_
  refine S_region 1 (Code.ops obj_Heap_pair.k3) (by kernel_rfl) ?_
  refine N_run 2 [(0, .pointer hv), (1, .int .u64 wv), (9, .pointer hv), (10, .int .u64 wv)] (fun w => by kernel_rfl) ?_
  refine N_call (some 11) 93 #[.pointer hv, .int .u64 wv, .int .i64 1, .int .i64 0] (fun w => by kernel_rfl) h ?_; clear h
  rintro v H1 ⟨ra, rb, rfl, h⟩
  refine ⟨[(0, .pointer hv), (1, .int .u64 wv), (11, .tuple #[.int .i64 ra, .bool rb])], ps (by kernel_rfl), ?_⟩
  refine N_run 5 [(0, .pointer hv), (1, .int .u64 wv), (6, .int .i64 ra), (7, .bool rb)] (fun w => by kernel_rfl) ?_
  refine N_end (by kernel_rfl) ?_
  refine S_then ?_
  refine S_seq obj_Heap_pair.k5 obj_Heap_pair.k6 (by kernel_rfl) ?_
  refine S_seq obj_Heap_pair.k7 obj_Heap_pair.k8 (by kernel_rfl) ?_
  refine S_region 2 (Code.ops obj_Heap_pair.k7) (by kernel_rfl) ?_
  refine N_run 2 [(0, .pointer hv), (1, .int .u64 wv), (6, .int .i64 ra), (7, .bool rb), (15, .bool (!rb))] (fun w => by kernel_rfl) ?_
  refine N_end (by kernel_rfl) ?_
  refine S_then ?_
  by_cases c1 : rb = true
  · rw [if_pos c1] at h
    have b2 : (!rb) = false := congrArg Bool.not (c1)
    have b22 : rb = true := c1
    refine S_env [(0, .pointer hv), (1, .int .u64 wv), (6, .int .i64 ra), (7, .bool true), (15, .bool false)] (by simp only [b2, b22, Bool.not_true, Bool.not_false]) ?_
    clear b2 b22
    refine S_condF (.tmp 15) obj_Heap_pair.k9 obj_Heap_pair.k10 (by kernel_rfl) (by kernel_rfl) ?_
    refine S_skip (by kernel_rfl) ?_
    refine S_then ?_
    refine S_seq obj_Heap_pair.k11 obj_Heap_pair.k12 (by kernel_rfl) ?_
    refine S_region 4 (Code.ops obj_Heap_pair.k11) (by kernel_rfl) ?_
    refine N_run 9 [(4, .int .i64 ra), (5, .bool ((Int.tmod ra 2) == 0))] (fun w => by kernel_rfl) ?_
    refine N_end (by kernel_rfl) ?_
    refine S_then ?_
    refine S_ret (by kernel_rfl) ?_
    show At _ _ _ _ (Q .ret)
    exact S_done (fn := Try.f77) [.int .i64 ra, .bool ((Int.tmod ra 2) == 0)] hQ (show ResOK _ _ _ [.tmp 4, .tmp 5] _ from .tmp (by kernel_rfl) (.tmp (by kernel_rfl) (.nil))) h
  · rw [if_neg c1] at h
    have b2 : (!rb) = true := congrArg Bool.not (eq_false_of_ne_true c1)
    have b22 : rb = false := eq_false_of_ne_true c1
    refine S_env [(0, .pointer hv), (1, .int .u64 wv), (6, .int .i64 ra), (7, .bool false), (15, .bool true)] (by simp only [b2, b22, Bool.not_true, Bool.not_false]) ?_
    clear b2 b22
    refine S_condT (.tmp 15) obj_Heap_pair.k9 obj_Heap_pair.k10 (by kernel_rfl) (by kernel_rfl) ?_
    refine S_region 3 (Code.ops obj_Heap_pair.k9) (by kernel_rfl) ?_
    refine N_run 2 [(17, .pointer hv), (18, .int .u64 wv)] (fun w => by kernel_rfl) ?_
    refine N_call (some 19) 93 #[.pointer hv, .int .u64 wv, .int .i64 2, .int .i64 1] (fun w => by kernel_rfl) h ?_; clear h
    rintro v_2 H2 ⟨ra_2, rb_2, rfl, h⟩
    refine ⟨[(19, .tuple #[.int .i64 ra_2, .bool rb_2])], ps (by kernel_rfl), ?_⟩
    refine N_run 5 [(6, .int .i64 ra_2), (7, .bool rb_2)] (fun w => by kernel_rfl) ?_
    refine N_end (by kernel_rfl) ?_
    refine S_then ?_
    refine S_seq obj_Heap_pair.k11 obj_Heap_pair.k12 (by kernel_rfl) ?_
    refine S_region 4 (Code.ops obj_Heap_pair.k11) (by kernel_rfl) ?_
    refine N_cut [(4, .int .i64 ra_2), (5, .bool (rb_2 && ((Int.tmod ra_2 2) == 0)))] ?_ ?_
    · refine S_then ?_
      refine S_ret (by kernel_rfl) ?_
      show At _ _ _ _ (Q .ret)
      exact S_done (fn := Try.f77) [.int .i64 ra_2, .bool (rb_2 && ((Int.tmod ra_2 2) == 0))] hQ (show ResOK _ _ _ [.tmp 4, .tmp 5] _ from .tmp (by kernel_rfl) (.tmp (by kernel_rfl) (.nil))) h
    · intro hk
      refine N_run 3 [(6, .int .i64 ra_2), (22, .int .i64 ra_2), (24, .bool rb_2)] (fun w => by kernel_rfl) ?_
      by_cases c3 : rb_2 = true
      · have b4 : rb_2 = true := c3
        refine N_env [(6, .int .i64 ra_2), (22, .int .i64 ra_2), (24, .bool true)] (by simp only [b4, Bool.not_true, Bool.not_false]) ?_
        refine N_run 6 [(4, .int .i64 ra_2), (5, .bool ((Int.tmod ra_2 2) == 0))] (fun w => by kernel_rfl) ?_
        refine N_end (by kernel_rfl) ?_
        refine S_env [(4, .int .i64 ra_2), (5, .bool (rb_2 && ((Int.tmod ra_2 2) == 0)))] (by simp only [b4, Bool.true_or, Bool.false_or, Bool.or_true, Bool.or_false, Bool.true_and, Bool.false_and, Bool.and_true, Bool.and_false, Bool.not_true, Bool.not_false, cond_true, cond_false]) ?_
        exact hk
      · have b4 : rb_2 = false := eq_false_of_ne_true c3
        refine N_env [(6, .int .i64 ra_2), (22, .int .i64 ra_2), (24, .bool false)] (by simp only [b4, Bool.not_true, Bool.not_false]) ?_
        refine N_run 6 [(4, .int .i64 ra_2), (5, .bool false)] (fun w => by kernel_rfl) ?_
        refine N_end (by kernel_rfl) ?_
        refine S_env [(4, .int .i64 ra_2), (5, .bool (rb_2 && ((Int.tmod ra_2 2) == 0)))] (by simp only [b4, Bool.true_or, Bool.false_or, Bool.or_true, Bool.or_false, Bool.true_and, Bool.false_and, Bool.and_true, Bool.and_false, Bool.not_true, Bool.not_false, cond_true, cond_false]) ?_
        exact hk

/-! (*moraine/obj.Heap).at -/
noncomputable def obj_Heap_at.k0 : Code := Func.code Try.f93
noncomputable def obj_Heap_at.k1 : Code := Code.fa obj_Heap_at.k0
noncomputable def obj_Heap_at.k2 : Code := Code.fb obj_Heap_at.k0
noncomputable def obj_Heap_at.k3 : Code := Code.fa obj_Heap_at.k2
noncomputable def obj_Heap_at.k4 : Code := Code.fb obj_Heap_at.k2
noncomputable def obj_Heap_at.k5 : Code := Code.fa obj_Heap_at.k4
noncomputable def obj_Heap_at.k6 : Code := Code.fb obj_Heap_at.k4
noncomputable def obj_Heap_at.k7 : Code := Code.fa obj_Heap_at.k5
noncomputable def obj_Heap_at.k8 : Code := Code.fb obj_Heap_at.k5
noncomputable def obj_Heap_at.k9 : Code := Code.fa obj_Heap_at.k8
noncomputable def obj_Heap_at.k10 : Code := Code.fb obj_Heap_at.k8
noncomputable def obj_Heap_at.k11 : Code := Code.fa obj_Heap_at.k9
noncomputable def obj_Heap_at.k12 : Code := Code.fb obj_Heap_at.k9
noncomputable def obj_Heap_at.k13 : Code := Code.fa obj_Heap_at.k6
noncomputable def obj_Heap_at.k14 : Code := Code.fb obj_Heap_at.k6
noncomputable def obj_Heap_at.k15 : Code := Code.fa obj_Heap_at.k14
noncomputable def obj_Heap_at.k16 : Code := Code.fb obj_Heap_at.k14
def obj_Heap_at.pt (hv : Option Addr) (wv : Int) (tag : Int) (kind : Int) (H : Array Obj) (R : Value → Array Obj → Prop) : Prop :=
 word_Addr.C wv H (fun v H1 => ∃ ra : Int, ∃ rb : Bool, v = .tuple #[.int .i64 ra, .bool rb] ∧ 
  obj_Heap_none.C hv H1 (fun v_2 H2 => ∃ x : Bool, v_2 = .bool x ∧ 
   if x = true then (
    R (.tuple #[.int .i64 0, .bool false]) H2)
   else
   if rb = true then (
    word_Tag.C wv H2 (fun v_3 H3 => ∃ x_2 : Int, v_3 = .int .i64 x_2 ∧ 
     if x_2 = tag then (
      ∃ hvA : Addr, hv = some hvA ∧
      ∃ x_3 : Option Addr, hat H3 hvA = some (.pointer x_3) ∧
      ∃ x3A : Addr, x_3 = some x3A ∧
      ∃ x_4 : Option Addr, hat H3 x3A = some (.pointer x_4) ∧
      ∃ x4A : Addr, x_4 = some x4A ∧
      ∃ x_5 : Option Addr, hat H3 x4A = some (.pointer x_5) ∧
      seg_Mem_Seg.C x_5 (IntKind.wrap .i64 (Int.tdiv ra 64)) H3 (fun v_4 H4 => ∃ raGen : Int, ∃ raKind : Int, ∃ raN : Int, ∃ raCardsi0 : Int, ∃ raCardsi1 : Int, ∃ raCardsi2 : Int, ∃ raCardsi3 : Int, ∃ rb_2 : Bool, v_4 = .tuple #[.agg #[.int .i64 raGen, .int .i64 raKind, .int .i64 raN, .int .i64 raCardsi0, .int .i64 raCardsi1, .int .i64 raCardsi2, .int .i64 raCardsi3], .bool rb_2] ∧ 
       ∀ (b : Nat) (H5 : Array Obj), b = H4.size → H5 = H4.push (.cells #[.int .i64 0, .int .i64 0, .int .i64 0, .int .i64 0, .int .i64 0, .int .i64 0, .int .i64 0] 144) →
       (CanPuts H5 (Addr.mk b 0 none) 0 7) ∧ ∀ H6 : Array Obj, H6 = hputs H5 (Addr.mk b 0 none) [.int .i64 raGen, .int .i64 raKind, .int .i64 raN, .int .i64 raCardsi0, .int .i64 raCardsi1, .int .i64 raCardsi2, .int .i64 raCardsi3] 0 →
       if rb_2 = true then (
        ∃ x_6 : Int, hat H6 ((Addr.mk b 0 none).add 1) = some (.int .i64 x_6) ∧
        if x_6 = kind then (
         ∃ x_7 : Int, hat H6 ((Addr.mk b 0 none).add 2) = some (.int .i64 x_7) ∧
         R (.tuple #[.int .i64 ra, .bool (decide ((Int.tmod ra 64) < x_7))]) H6)
        else
        R (.tuple #[.int .i64 ra, .bool false]) H6)
       else
       R (.tuple #[.int .i64 ra, .bool false]) H6))
     else
     R (.tuple #[.int .i64 0, .bool false]) H3))
   else
   R (.tuple #[.int .i64 0, .bool false]) H2))
set_option maxRecDepth 100000 in
theorem obj_Heap_at.link {hv : Option Addr} {wv : Int} {tag : Int} {kind : Int} {H : Array Obj} {R : Value → Array Obj → Prop} (h : obj_Heap_at.pt hv wv tag kind H R) : obj_Heap_at.C hv wv tag kind H R := by
  refine S_enter (fn := Try.f93) (c := obj_Heap_at.k0) 61 Try.func93 (by kernel_rfl) (by kernel_rfl) (Nat.le_of_ble_eq_true (by kernel_rfl)) ?_
  intro w0 Q hQ
  unfold obj_Heap_at.pt at h
  refine S_sub [(0, .pointer hv), (1, .int .u64 wv), (2, .int .i64 tag), (3, .int .i64 kind)] (sb (by kernel_rfl)) ?_
  refine S_seq obj_Heap_at.k1 obj_Heap_at.k2 (by kernel_rfl) ?_
  refine S_region 0 (Code.ops obj_Heap_at.k1) (by kernel_rfl) ?_
  refine N_run 2 [(0, .pointer hv), (1, .int .u64 wv), (2, .int .i64 tag), (3, .int .i64 kind)] (fun w => by kernel_rfl) ?_
  refine N_end (by kernel_rfl) ?_
  refine S_then ?_
  refine S_seq obj_Heap_at.k3 obj_Heap_at.k4 (by kernel_rfl) ?_
  refine S_region 1 (Code.ops obj_Heap_at.k3) (by kernel_rfl) ?_
  refine N_run 1 [(0, .pointer hv), (1, .int .u64 wv), (2, .int .i64 tag), (3, .int .i64 kind), (14, .int .u64 wv)] (fun w => by kernel_rfl) ?_
  refine N_call (some 15) 81 #[.int .u64 wv] (fun w => by kernel_rfl) h ?_; clear h
  rintro v H1 ⟨ra, rb, rfl, h⟩
  refine ⟨[(0, .pointer hv), (1, .int .u64 wv), (2, .int .i64 tag), (3, .int .i64 kind), (15, .tuple #[.int .i64 ra, .bool rb])], ps (by kernel_rfl), ?_⟩
  refine N_run 5 [(0, .pointer hv), (1, .int .u64 wv), (2, .int .i64 tag), (3, .int .i64 kind), (10, .int .i64 ra), (11, .bool rb)] (fun w => by kernel_rfl) ?_
  refine N_end (by kernel_rfl) ?_
  refine S_then ?_
  refine S_seq obj_Heap_at.k5 obj_Heap_at.k6 (by kernel_rfl) ?_
  refine S_seq obj_Heap_at.k7 obj_Heap_at.k8 (by kernel_rfl) ?_
  refine S_region 2 (Code.ops obj_Heap_at.k7) (by kernel_rfl) ?_
  refine N_run 1 [(0, .pointer hv), (1, .int .u64 wv), (2, .int .i64 tag), (3, .int .i64 kind), (10, .int .i64 ra), (11, .bool rb), (18, .pointer hv)] (fun w => by kernel_rfl) ?_
  refine N_call (some 19) 75 #[.pointer hv] (fun w => by kernel_rfl) h ?_; clear h
  rintro v_2 H2 ⟨x, rfl, h⟩
  refine ⟨[(0, .pointer hv), (1, .int .u64 wv), (2, .int .i64 tag), (3, .int .i64 kind), (10, .int .i64 ra), (11, .bool rb), (19, .bool x)], ps (by kernel_rfl), ?_⟩
  refine N_run 1 [(0, .pointer hv), (1, .int .u64 wv), (2, .int .i64 tag), (3, .int .i64 kind), (10, .int .i64 ra), (11, .bool rb), (20, .bool x)] (fun w => by kernel_rfl) ?_
  by_cases c1 : x = true
  · rw [if_pos c1] at h
    have b2 : x = true := c1
    refine N_env [(0, .pointer hv), (1, .int .u64 wv), (2, .int .i64 tag), (3, .int .i64 kind), (10, .int .i64 ra), (11, .bool rb), (20, .bool true)] (by simp only [b2, Bool.not_true, Bool.not_false]) ?_
    clear b2
    refine N_run 9 [(0, .pointer hv), (3, .int .i64 kind), (10, .int .i64 ra), (29, .bool true)] (fun w => by kernel_rfl) ?_
    refine N_end (by kernel_rfl) ?_
    refine S_then ?_
    refine S_condT (.tmp 29) obj_Heap_at.k9 obj_Heap_at.k10 (by kernel_rfl) (by kernel_rfl) ?_
    refine S_seq obj_Heap_at.k11 obj_Heap_at.k12 (by kernel_rfl) ?_
    refine S_region 3 (Code.ops obj_Heap_at.k11) (by kernel_rfl) ?_
    refine N_run 2 [(8, .int .i64 0), (9, .bool false)] (fun w => by kernel_rfl) ?_
    refine N_end (by kernel_rfl) ?_
    refine S_then ?_
    refine S_ret (by kernel_rfl) ?_
    show At _ _ _ _ (Q .ret)
    exact S_done (fn := Try.f93) [.int .i64 0, .bool false] hQ (show ResOK _ _ _ [.tmp 8, .tmp 9] _ from .tmp (by kernel_rfl) (.tmp (by kernel_rfl) (.nil))) h
  · rw [if_neg c1] at h
    have b2 : x = false := eq_false_of_ne_true c1
    refine N_env [(0, .pointer hv), (1, .int .u64 wv), (2, .int .i64 tag), (3, .int .i64 kind), (10, .int .i64 ra), (11, .bool rb), (20, .bool false)] (by simp only [b2, Bool.not_true, Bool.not_false]) ?_
    clear b2
    refine N_run 4 [(0, .pointer hv), (1, .int .u64 wv), (2, .int .i64 tag), (3, .int .i64 kind), (10, .int .i64 ra), (24, .bool (!rb))] (fun w => by kernel_rfl) ?_
    by_cases c3 : rb = true
    · rw [if_pos c3] at h
      have b4 : (!rb) = false := congrArg Bool.not (c3)
      have b42 : rb = true := c3
      refine N_env [(0, .pointer hv), (1, .int .u64 wv), (2, .int .i64 tag), (3, .int .i64 kind), (10, .int .i64 ra), (24, .bool false)] (by simp only [b4, b42, Bool.not_true, Bool.not_false]) ?_
      clear b4 b42
      refine N_run 1 [(0, .pointer hv), (2, .int .i64 tag), (3, .int .i64 kind), (10, .int .i64 ra), (24, .bool false), (25, .int .u64 wv)] (fun w => by kernel_rfl) ?_
      refine N_call (some 26) 83 #[.int .u64 wv] (fun w => by kernel_rfl) h ?_; clear h
      rintro v_3 H3 ⟨x_2, rfl, h⟩
      refine ⟨[(0, .pointer hv), (2, .int .i64 tag), (3, .int .i64 kind), (10, .int .i64 ra), (24, .bool false), (26, .int .i64 x_2)], ps (by kernel_rfl), ?_⟩
      refine N_run 3 [(0, .pointer hv), (3, .int .i64 kind), (10, .int .i64 ra), (29, .bool (x_2 != tag))] (fun w => by kernel_rfl) ?_
      refine N_end (by kernel_rfl) ?_
      refine S_then ?_
      by_cases c5 : x_2 = tag
      · rw [if_pos c5] at h
        have b6 : (x_2 != tag) = false := bne_eq_false_iff_eq.mpr c5
        refine S_env [(0, .pointer hv), (3, .int .i64 kind), (10, .int .i64 ra), (29, .bool false)] (by simp only [b6, Bool.not_true, Bool.not_false]) ?_
        clear b6
        refine S_condF (.tmp 29) obj_Heap_at.k9 obj_Heap_at.k10 (by kernel_rfl) (by kernel_rfl) ?_
        refine S_skip (by kernel_rfl) ?_
        refine S_then ?_
        refine S_seq obj_Heap_at.k13 obj_Heap_at.k14 (by kernel_rfl) ?_
        refine S_region 4 (Code.ops obj_Heap_at.k13) (by kernel_rfl) ?_
        refine N_run 1 [(3, .int .i64 kind), (10, .int .i64 ra), (31, .pointer hv)] (fun w => by kernel_rfl) ?_
        obtain ⟨hvA, rfl, h⟩ := h
        refine N_run 2 [(3, .int .i64 kind), (10, .int .i64 ra), (33, .pointer (some hvA))] (fun w => by kernel_rfl) ?_
        obtain ⟨x_3, q7, h⟩ := h
        refine N_val (some 34) (loadN 57 (.pointer (some hvA))) (.pointer x_3) (fun w => by kernel_rfl) (loadN_run (loadOK_one (fun w => by kernel_rfl) q7)) [(3, .int .i64 kind), (10, .int .i64 ra), (34, .pointer x_3)] (ps (by kernel_rfl)) ?_
        obtain ⟨x3A, rfl, h⟩ := h
        refine N_run 2 [(3, .int .i64 kind), (10, .int .i64 ra), (36, .pointer (some x3A))] (fun w => by kernel_rfl) ?_
        obtain ⟨x_4, q8, h⟩ := h
        refine N_val (some 37) (loadN 107 (.pointer (some x3A))) (.pointer x_4) (fun w => by kernel_rfl) (loadN_run (loadOK_one (fun w => by kernel_rfl) q8)) [(3, .int .i64 kind), (10, .int .i64 ra), (37, .pointer x_4)] (ps (by kernel_rfl)) ?_
        obtain ⟨x4A, rfl, h⟩ := h
        refine N_run 2 [(3, .int .i64 kind), (10, .int .i64 ra), (39, .pointer (some x4A))] (fun w => by kernel_rfl) ?_
        obtain ⟨x_5, q9, h⟩ := h
        refine N_val (some 40) (loadN 124 (.pointer (some x4A))) (.pointer x_5) (fun w => by kernel_rfl) (loadN_run (loadOK_one (fun w => by kernel_rfl) q9)) [(3, .int .i64 kind), (10, .int .i64 ra), (40, .pointer x_5)] (ps (by kernel_rfl)) ?_
        refine N_run 2 [(3, .int .i64 kind), (10, .int .i64 ra), (40, .pointer x_5), (42, .int .i64 (IntKind.wrap .i64 (Int.tdiv ra 64)))] (fun w => by kernel_rfl) ?_
        refine N_call (some 43) 84 #[.pointer x_5, .int .i64 (IntKind.wrap .i64 (Int.tdiv ra 64))] (fun w => by kernel_rfl) h ?_; clear h
        rintro v_4 H4 ⟨raGen, raKind, raN, raCardsi0, raCardsi1, raCardsi2, raCardsi3, rb_2, rfl, h⟩
        refine ⟨[(3, .int .i64 kind), (10, .int .i64 ra), (43, .tuple #[.agg #[.int .i64 raGen, .int .i64 raKind, .int .i64 raN, .int .i64 raCardsi0, .int .i64 raCardsi1, .int .i64 raCardsi2, .int .i64 raCardsi3], .bool rb_2])], ps (by kernel_rfl), ?_⟩
        refine N_run 3 [(3, .int .i64 kind), (10, .int .i64 ra), (44, .agg #[.int .i64 raGen, .int .i64 raKind, .int .i64 raN, .int .i64 raCardsi0, .int .i64 raCardsi1, .int .i64 raCardsi2, .int .i64 raCardsi3]), (45, .bool rb_2)] (fun w => by kernel_rfl) ?_
        refine N_new (some 12) (fun b => .pointer (some (Addr.mk b 0 none))) (.cells #[.int .i64 0, .int .i64 0, .int .i64 0, .int .i64 0, .int .i64 0, .int .i64 0, .int .i64 0] 144) (fun w => by kernel_rfl) ?_
        intro b H5 e10 e11
        replace h := h b H5 e10 e11
        refine ⟨[(3, .int .i64 kind), (10, .int .i64 ra), (12, .pointer (some (Addr.mk b 0 none))), (44, .agg #[.int .i64 raGen, .int .i64 raKind, .int .i64 raN, .int .i64 raCardsi0, .int .i64 raCardsi1, .int .i64 raCardsi2, .int .i64 raCardsi3]), (45, .bool rb_2)], ps (by kernel_rfl), ?_⟩
        obtain ⟨q13, h⟩ := h
        refine N_skipop none (storeN 144 (.pointer (some (Addr.mk b 0 none))) (.agg #[.int .i64 raGen, .int .i64 raKind, .int .i64 raN, .int .i64 raCardsi0, .int .i64 raCardsi1, .int .i64 raCardsi2, .int .i64 raCardsi3])) (fun Hz => Hz = hputs H5 (Addr.mk b 0 none) [.int .i64 raGen, .int .i64 raKind, .int .i64 raN, .int .i64 raCardsi0, .int .i64 raCardsi1, .int .i64 raCardsi2, .int .i64 raCardsi3] 0) (fun w => by kernel_rfl) (ss_store [.int .i64 raGen, .int .i64 raKind, .int .i64 raN, .int .i64 raCardsi0, .int .i64 raCardsi1, .int .i64 raCardsi2, .int .i64 raCardsi3] 7 (by kernel_rfl) (by kernel_rfl) (fun w => by kernel_rfl) (by kernel_rfl) q13) ?_
        intro H6 e12
        replace h := h H6 e12
        refine ⟨[(3, .int .i64 kind), (10, .int .i64 ra), (12, .pointer (some (Addr.mk b 0 none))), (45, .bool rb_2)], ps (by kernel_rfl), ?_⟩
        refine N_run 1 [(3, .int .i64 kind), (10, .int .i64 ra), (11, .bool rb_2), (12, .pointer (some (Addr.mk b 0 none)))] (fun w => by kernel_rfl) ?_
        refine N_end (by kernel_rfl) ?_
        refine S_then ?_
        refine S_seq obj_Heap_at.k15 obj_Heap_at.k16 (by kernel_rfl) ?_
        refine S_regionQ 5 (Code.ops obj_Heap_at.k15) (by kernel_rfl) (by kernel_rfl) (by kernel_rfl) ?_
        refine Q_one (.int .i64 ra) [(3, .int .i64 kind), (10, .int .i64 ra), (11, .bool rb_2), (12, .pointer (some (Addr.mk b 0 none))), (46, .int .i64 ra)] (some 46) (by kernel_rfl) (fun w => by kernel_rfl) (ps (by kernel_rfl)) ?_
        refine Q_one (.bool rb_2) [(3, .int .i64 kind), (10, .int .i64 ra), (12, .pointer (some (Addr.mk b 0 none))), (46, .int .i64 ra), (47, .bool rb_2)] (some 47) (by kernel_rfl) (fun w => by kernel_rfl) (ps (by kernel_rfl)) ?_
        refine Q_one (.bool rb_2) [(3, .int .i64 kind), (10, .int .i64 ra), (12, .pointer (some (Addr.mk b 0 none))), (46, .int .i64 ra), (48, .bool rb_2)] (some 48) (by kernel_rfl) (fun w => by kernel_rfl) (ps (by kernel_rfl)) ?_
        by_cases c14 : rb_2 = true
        · rw [if_pos c14] at h
          have b15 : rb_2 = true := c14
          refine Q_env [(3, .int .i64 kind), (10, .int .i64 ra), (12, .pointer (some (Addr.mk b 0 none))), (46, .int .i64 ra), (48, .bool true)] (by simp only [b15, Bool.not_true, Bool.not_false]) ?_
          clear b15
          refine Q_one (.pointer (some ((Addr.mk b 0 none).add 1))) [(3, .int .i64 kind), (10, .int .i64 ra), (12, .pointer (some (Addr.mk b 0 none))), (46, .int .i64 ra), (48, .bool true), (49, .pointer (some ((Addr.mk b 0 none).add 1)))] (some 49) (by kernel_rfl) (fun w => by kernel_rfl) (ps (by kernel_rfl)) ?_
          obtain ⟨x_6, q16, h⟩ := h
          refine Q_op (some 50) (loadN 3 (.pointer (some ((Addr.mk b 0 none).add 1)))) (.int .i64 x_6) (fun w => by kernel_rfl) (loadN_run (loadOK_one (fun w => by kernel_rfl) q16)) [(3, .int .i64 kind), (10, .int .i64 ra), (12, .pointer (some (Addr.mk b 0 none))), (46, .int .i64 ra), (48, .bool true), (50, .int .i64 x_6)] (ps (by kernel_rfl)) ?_
          refine Q_one (.int .i64 kind) [(10, .int .i64 ra), (12, .pointer (some (Addr.mk b 0 none))), (46, .int .i64 ra), (48, .bool true), (50, .int .i64 x_6), (51, .int .i64 kind)] (some 51) (by kernel_rfl) (fun w => by kernel_rfl) (ps (by kernel_rfl)) ?_
          refine Q_one (.bool (x_6 == kind)) [(10, .int .i64 ra), (12, .pointer (some (Addr.mk b 0 none))), (46, .int .i64 ra), (48, .bool true), (52, .bool (x_6 == kind))] (some 52) (by kernel_rfl) (fun w => by kernel_rfl) (ps (by kernel_rfl)) ?_
          refine Q_one (.bool (x_6 == kind)) [(10, .int .i64 ra), (12, .pointer (some (Addr.mk b 0 none))), (46, .int .i64 ra), (53, .bool (x_6 == kind))] (some 53) (by kernel_rfl) (fun w => by kernel_rfl) (ps (by kernel_rfl)) ?_
          refine Q_one (.bool (x_6 == kind)) [(10, .int .i64 ra), (12, .pointer (some (Addr.mk b 0 none))), (46, .int .i64 ra), (54, .bool (x_6 == kind))] (some 54) (by kernel_rfl) (fun w => by kernel_rfl) (ps (by kernel_rfl)) ?_
          by_cases c17 : x_6 = kind
          · rw [if_pos c17] at h
            have b18 : (x_6 == kind) = true := beq_iff_eq.mpr c17
            refine Q_env [(10, .int .i64 ra), (12, .pointer (some (Addr.mk b 0 none))), (46, .int .i64 ra), (54, .bool true)] (by simp only [b18, Bool.not_true, Bool.not_false]) ?_
            clear b18
            refine Q_one (.int .i64 ra) [(12, .pointer (some (Addr.mk b 0 none))), (46, .int .i64 ra), (54, .bool true), (55, .int .i64 ra)] (some 55) (by kernel_rfl) (fun w => by kernel_rfl) (ps (by kernel_rfl)) ?_
            refine Q_one (.int .i64 (Int.tmod ra 64)) [(12, .pointer (some (Addr.mk b 0 none))), (46, .int .i64 ra), (54, .bool true), (56, .int .i64 (Int.tmod ra 64))] (some 56) (by kernel_rfl) (fun w => by kernel_rfl) (ps (by kernel_rfl)) ?_
            refine Q_one (.pointer (some ((Addr.mk b 0 none).add 2))) [(46, .int .i64 ra), (54, .bool true), (56, .int .i64 (Int.tmod ra 64)), (57, .pointer (some ((Addr.mk b 0 none).add 2)))] (some 57) (by kernel_rfl) (fun w => by kernel_rfl) (ps (by kernel_rfl)) ?_
            obtain ⟨x_7, q19, h⟩ := h
            refine Q_op (some 58) (loadN 3 (.pointer (some ((Addr.mk b 0 none).add 2)))) (.int .i64 x_7) (fun w => by kernel_rfl) (loadN_run (loadOK_one (fun w => by kernel_rfl) q19)) [(46, .int .i64 ra), (54, .bool true), (56, .int .i64 (Int.tmod ra 64)), (58, .int .i64 x_7)] (ps (by kernel_rfl)) ?_
            refine Q_one (.bool (decide ((Int.tmod ra 64) < x_7))) [(46, .int .i64 ra), (54, .bool true), (59, .bool (decide ((Int.tmod ra 64) < x_7)))] (some 59) (by kernel_rfl) (fun w => by kernel_rfl) (ps (by kernel_rfl)) ?_
            refine Q_one (.bool (decide ((Int.tmod ra 64) < x_7))) [(46, .int .i64 ra), (60, .bool (decide ((Int.tmod ra 64) < x_7)))] (some 60) (by kernel_rfl) (fun w => by kernel_rfl) (ps (by kernel_rfl)) ?_
            refine Q_one (.int .i64 ra) [(8, .int .i64 ra), (60, .bool (decide ((Int.tmod ra 64) < x_7)))] (some 8) (by kernel_rfl) (fun w => by kernel_rfl) (ps (by kernel_rfl)) ?_
            refine Q_one (.bool (decide ((Int.tmod ra 64) < x_7))) [(8, .int .i64 ra), (9, .bool (decide ((Int.tmod ra 64) < x_7)))] (some 9) (by kernel_rfl) (fun w => by kernel_rfl) (ps (by kernel_rfl)) ?_
            refine Q_sub [(8, .int .i64 ra), (9, .bool (decide ((Int.tmod ra 64) < x_7)))] (sb (by kernel_rfl)) ?_
            refine Q_end (by kernel_rfl) ?_
            refine S_then ?_
            refine S_ret (by kernel_rfl) ?_
            show At _ _ _ _ (Q .ret)
            exact S_done (fn := Try.f93) [.int .i64 ra, .bool (decide ((Int.tmod ra 64) < x_7))] hQ (show ResOK _ _ _ [.tmp 8, .tmp 9] _ from .tmp (by kernel_rfl) (.tmp (by kernel_rfl) (.nil))) h
          · rw [if_neg c17] at h
            have b18 : (x_6 == kind) = false := beq_eq_false_iff_ne.mpr c17
            refine Q_env [(10, .int .i64 ra), (12, .pointer (some (Addr.mk b 0 none))), (46, .int .i64 ra), (54, .bool false)] (by simp only [b18, Bool.not_true, Bool.not_false]) ?_
            clear b18
            refine Q_one (undef) [(12, .pointer (some (Addr.mk b 0 none))), (46, .int .i64 ra), (54, .bool false), (55, undef)] (some 55) (by kernel_rfl) (fun w => by kernel_rfl) (ps (by kernel_rfl)) ?_
            refine Q_one (undef) [(12, .pointer (some (Addr.mk b 0 none))), (46, .int .i64 ra), (54, .bool false), (56, undef)] (some 56) (by kernel_rfl) (fun w => by kernel_rfl) (ps (by kernel_rfl)) ?_
            refine Q_one (undef) [(46, .int .i64 ra), (54, .bool false), (56, undef), (57, undef)] (some 57) (by kernel_rfl) (fun w => by kernel_rfl) (ps (by kernel_rfl)) ?_
            refine Q_one (undef) [(46, .int .i64 ra), (54, .bool false), (56, undef), (58, undef)] (some 58) (by kernel_rfl) (fun w => by kernel_rfl) (ps (by kernel_rfl)) ?_
            refine Q_one (undef) [(46, .int .i64 ra), (54, .bool false), (59, undef)] (some 59) (by kernel_rfl) (fun w => by kernel_rfl) (ps (by kernel_rfl)) ?_
            refine Q_one (.bool false) [(46, .int .i64 ra), (60, .bool false)] (some 60) (by kernel_rfl) (fun w => by kernel_rfl) (ps (by kernel_rfl)) ?_
            refine Q_one (.int .i64 ra) [(8, .int .i64 ra), (60, .bool false)] (some 8) (by kernel_rfl) (fun w => by kernel_rfl) (ps (by kernel_rfl)) ?_
            refine Q_one (.bool false) [(8, .int .i64 ra), (9, .bool false)] (some 9) (by kernel_rfl) (fun w => by kernel_rfl) (ps (by kernel_rfl)) ?_
            refine Q_sub [(8, .int .i64 ra), (9, .bool false)] (sb (by kernel_rfl)) ?_
            refine Q_end (by kernel_rfl) ?_
            refine S_then ?_
            refine S_ret (by kernel_rfl) ?_
            show At _ _ _ _ (Q .ret)
            exact S_done (fn := Try.f93) [.int .i64 ra, .bool false] hQ (show ResOK _ _ _ [.tmp 8, .tmp 9] _ from .tmp (by kernel_rfl) (.tmp (by kernel_rfl) (.nil))) h
        · rw [if_neg c14] at h
          have b15 : rb_2 = false := eq_false_of_ne_true c14
          refine Q_env [(3, .int .i64 kind), (10, .int .i64 ra), (12, .pointer (some (Addr.mk b 0 none))), (46, .int .i64 ra), (48, .bool false)] (by simp only [b15, Bool.not_true, Bool.not_false]) ?_
          clear b15
          refine Q_one (undef) [(3, .int .i64 kind), (10, .int .i64 ra), (12, .pointer (some (Addr.mk b 0 none))), (46, .int .i64 ra), (48, .bool false), (49, undef)] (some 49) (by kernel_rfl) (fun w => by kernel_rfl) (ps (by kernel_rfl)) ?_
          refine Q_one (undef) [(3, .int .i64 kind), (10, .int .i64 ra), (12, .pointer (some (Addr.mk b 0 none))), (46, .int .i64 ra), (48, .bool false), (50, undef)] (some 50) (by kernel_rfl) (fun w => by kernel_rfl) (ps (by kernel_rfl)) ?_
          refine Q_one (undef) [(10, .int .i64 ra), (12, .pointer (some (Addr.mk b 0 none))), (46, .int .i64 ra), (48, .bool false), (50, undef), (51, undef)] (some 51) (by kernel_rfl) (fun w => by kernel_rfl) (ps (by kernel_rfl)) ?_
          refine Q_one (undef) [(10, .int .i64 ra), (12, .pointer (some (Addr.mk b 0 none))), (46, .int .i64 ra), (48, .bool false), (52, undef)] (some 52) (by kernel_rfl) (fun w => by kernel_rfl) (ps (by kernel_rfl)) ?_
          refine Q_one (.bool false) [(10, .int .i64 ra), (12, .pointer (some (Addr.mk b 0 none))), (46, .int .i64 ra), (53, .bool false)] (some 53) (by kernel_rfl) (fun w => by kernel_rfl) (ps (by kernel_rfl)) ?_
          refine Q_one (.bool false) [(10, .int .i64 ra), (12, .pointer (some (Addr.mk b 0 none))), (46, .int .i64 ra), (54, .bool false)] (some 54) (by kernel_rfl) (fun w => by kernel_rfl) (ps (by kernel_rfl)) ?_
          refine Q_one (undef) [(12, .pointer (some (Addr.mk b 0 none))), (46, .int .i64 ra), (54, .bool false), (55, undef)] (some 55) (by kernel_rfl) (fun w => by kernel_rfl) (ps (by kernel_rfl)) ?_
          refine Q_one (undef) [(12, .pointer (some (Addr.mk b 0 none))), (46, .int .i64 ra), (54, .bool false), (56, undef)] (some 56) (by kernel_rfl) (fun w => by kernel_rfl) (ps (by kernel_rfl)) ?_
          refine Q_one (undef) [(46, .int .i64 ra), (54, .bool false), (56, undef), (57, undef)] (some 57) (by kernel_rfl) (fun w => by kernel_rfl) (ps (by kernel_rfl)) ?_
          refine Q_one (undef) [(46, .int .i64 ra), (54, .bool false), (56, undef), (58, undef)] (some 58) (by kernel_rfl) (fun w => by kernel_rfl) (ps (by kernel_rfl)) ?_
          refine Q_one (undef) [(46, .int .i64 ra), (54, .bool false), (59, undef)] (some 59) (by kernel_rfl) (fun w => by kernel_rfl) (ps (by kernel_rfl)) ?_
          refine Q_one (.bool false) [(46, .int .i64 ra), (60, .bool false)] (some 60) (by kernel_rfl) (fun w => by kernel_rfl) (ps (by kernel_rfl)) ?_
          refine Q_one (.int .i64 ra) [(8, .int .i64 ra), (60, .bool false)] (some 8) (by kernel_rfl) (fun w => by kernel_rfl) (ps (by kernel_rfl)) ?_
          refine Q_one (.bool false) [(8, .int .i64 ra), (9, .bool false)] (some 9) (by kernel_rfl) (fun w => by kernel_rfl) (ps (by kernel_rfl)) ?_
          refine Q_sub [(8, .int .i64 ra), (9, .bool false)] (sb (by kernel_rfl)) ?_
          refine Q_end (by kernel_rfl) ?_
          refine S_then ?_
          refine S_ret (by kernel_rfl) ?_
          show At _ _ _ _ (Q .ret)
          exact S_done (fn := Try.f93) [.int .i64 ra, .bool false] hQ (show ResOK _ _ _ [.tmp 8, .tmp 9] _ from .tmp (by kernel_rfl) (.tmp (by kernel_rfl) (.nil))) h
      · rw [if_neg c5] at h
        have b6 : (x_2 != tag) = true := bne_iff_ne.mpr c5
        refine S_env [(0, .pointer hv), (3, .int .i64 kind), (10, .int .i64 ra), (29, .bool true)] (by simp only [b6, Bool.not_true, Bool.not_false]) ?_
        clear b6
        refine S_condT (.tmp 29) obj_Heap_at.k9 obj_Heap_at.k10 (by kernel_rfl) (by kernel_rfl) ?_
        refine S_seq obj_Heap_at.k11 obj_Heap_at.k12 (by kernel_rfl) ?_
        refine S_region 3 (Code.ops obj_Heap_at.k11) (by kernel_rfl) ?_
        refine N_run 2 [(8, .int .i64 0), (9, .bool false)] (fun w => by kernel_rfl) ?_
        refine N_end (by kernel_rfl) ?_
        refine S_then ?_
        refine S_ret (by kernel_rfl) ?_
        show At _ _ _ _ (Q .ret)
        exact S_done (fn := Try.f93) [.int .i64 0, .bool false] hQ (show ResOK _ _ _ [.tmp 8, .tmp 9] _ from .tmp (by kernel_rfl) (.tmp (by kernel_rfl) (.nil))) h
    · rw [if_neg c3] at h
      have b4 : (!rb) = true := congrArg Bool.not (eq_false_of_ne_true c3)
      have b42 : rb = false := eq_false_of_ne_true c3
      refine N_env [(0, .pointer hv), (1, .int .u64 wv), (2, .int .i64 tag), (3, .int .i64 kind), (10, .int .i64 ra), (24, .bool true)] (by simp only [b4, b42, Bool.not_true, Bool.not_false]) ?_
      clear b4 b42
      refine N_run 5 [(0, .pointer hv), (3, .int .i64 kind), (10, .int .i64 ra), (29, .bool true)] (fun w => by kernel_rfl) ?_
      refine N_end (by kernel_rfl) ?_
      refine S_then ?_
      refine S_condT (.tmp 29) obj_Heap_at.k9 obj_Heap_at.k10 (by kernel_rfl) (by kernel_rfl) ?_
      refine S_seq obj_Heap_at.k11 obj_Heap_at.k12 (by kernel_rfl) ?_
      refine S_region 3 (Code.ops obj_Heap_at.k11) (by kernel_rfl) ?_
      refine N_run 2 [(8, .int .i64 0), (9, .bool false)] (fun w => by kernel_rfl) ?_
      refine N_end (by kernel_rfl) ?_
      refine S_then ?_
      refine S_ret (by kernel_rfl) ?_
      show At _ _ _ _ (Q .ret)
      exact S_done (fn := Try.f93) [.int .i64 0, .bool false] hQ (show ResOK _ _ _ [.tmp 8, .tmp 9] _ from .tmp (by kernel_rfl) (.tmp (by kernel_rfl) (.nil))) h

end Go.Proofs.Ytfohlkiikppefaa
