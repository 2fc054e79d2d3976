/-
 Written by a program of mine (gen.py): for functions of this translation a predicate transformer over heaps (.pt), and the proof that it is sound for the call (.link).
-/
import Derived.Test.YthlohokmnajpoaaGreatFnsC
set_option linter.unusedSimpArgs false
set_option linter.unusedVariables false
set_option maxHeartbeats 1000000
noncomputable section
namespace Go.Proofs.YthlohokmnajpoaaGreat
open Go
/-! (*moraine/seg.Mem).Taken -/
namespace seg_Mem_Taken
def kk0 := Func.code Tryz.f27
def kk1 := Code.fa kk0
def kk2 := Code.fb kk0
def kk3 := Code.fa kk2
def kk4 := Code.fb kk2
def kk5 := Code.fa kk3
def kk6 := Code.fb kk3
def kk7 := Code.fa kk6
def kk8 := Code.fb kk6
def kk9 := Code.fa kk7
def kk10 := Code.fb kk7
def kk11 := Code.fa kk4
def kk12 := Code.fb kk4
def kk13 := Code.fa kk12
def kk14 := Code.fb kk12
def kk15 := Code.fa kk13
def kk16 := Code.fb kk13
def kk17 := Code.fa kk16
def kk18 := Code.fa kk17
def kk19 := Code.fa kk18
def kk20 := Code.fb kk18
def kk21 := Code.fa kk20
def kk22 := Code.fb kk20
def kk23 := Code.fa kk21
def kk24 := Code.fb kk21
def kk25 := Code.fa kk22
def kk26 := Code.fb kk22
def kk27 := Code.fa kk25
def kk28 := Code.fa kk27
def kk29 := Code.fb kk27
def kk30 := Code.fa kk29
def kk31 := Code.fb kk29
def kk32 := Code.fa kk31
def kk33 := Code.fb kk31
def kk34 := Code.fa kk33
def kk35 := Code.fb kk33
def kk36 := Code.fa kk14
def kk37 := Code.fb kk14
def kk38 := Code.fa kk37
def kk39 := Code.fb kk37
end seg_Mem_Taken
def seg_Mem_Taken.pt (m : Option Addr) (gensB : Option Addr) (gensN : Nat) (gensC : Nat) (H : Array Obj) (R : Value → Array Obj → Prop) : Prop :=
 ∀ (b : Nat) (H1 : Array Obj), b = H.size → H1 = H.push (.cells #[.pointer m] 68) →
 ∃ x : Option Addr, hat H1 (Addr.mk b 0 none) = some (.pointer x) ∧
 onPtr x (
 R (.slice none 0 0) H1) (fun xA =>
 ∃ x_2 : Option Addr, hat H1 (Addr.mk b 0 none) = some (.pointer x_2) ∧
 ∃ x2A : Addr, x_2 = some x2A ∧
 ∃ xB : Option Addr, ∃ xN : Nat, ∃ xC : Nat, hat H1 x2A = some (.slice xB xN xC) ∧
 ∃ (I19 : (Option Addr) → Nat → Nat → Int → Array Obj → Prop) (m19 : (Option Addr) → Nat → Nat → Int → Array Obj → Nat), I19 none 0 0 0 H1 ∧ ∀ (lB : Option Addr) (lN : Nat) (lC : Nat) (s15 : Int) (H2 : Array Obj), I19 lB lN lC s15 H2 →
 if s15 < (xN : Int) then (
 ∃ x_3 : Option Addr, hat H2 (Addr.mk b 0 none) = some (.pointer x_3) ∧
 ∃ x3A : Addr, x_3 = some x3A ∧
 ∃ xB_2 : Option Addr, ∃ xN_2 : Nat, ∃ xC_2 : Nat, hat H2 x3A = some (.slice xB_2 xN_2 xC_2) ∧
 ∃ xB2A : Addr, xB_2 = some xB2A ∧
 ((0 : Int) ≤ s15 ∧ s15 < (xN_2 : Int)) ∧
 ∃ x_4 : Int, hat H2 ((xB2A.add (Int.toNat s15 * 72)).add 7) = some (.int .i64 x_4) ∧
 if x_4 > 0 then (
 if (gensN : Int) = 0 then (
 ∀ (b_2 : Nat) (H3 : Array Obj), b_2 = H2.size → H3 = H2.push (.cells #[.int .i64 s15] 3) →
 appendK 1 3 8 [.int .i64 0] lB lN lC (some (Addr.mk b_2 0 none)) 1 H3 (fun ap apC H4 =>
 (I19 ap (lN + 1) apC (IntKind.wrap .i64 (s15 + 1)) H4 ∧ m19 ap (lN + 1) apC (IntKind.wrap .i64 (s15 + 1)) H4 < m19 lB lN lC s15 H2)))
 else
 ∃ x_5 : Int, hat H2 (xB2A.add (Int.toNat s15 * 72)) = some (.int .i64 x_5) ∧
 slices_Contains_int_int.C gensB gensN gensC x_5 H2 (fun v H5 => ∃ x_6 : Bool, v = .bool x_6 ∧ 
 if x_6 = true then (
 ∀ (b_3 : Nat) (H6 : Array Obj), b_3 = H5.size → H6 = H5.push (.cells #[.int .i64 s15] 3) →
 appendK 1 3 8 [.int .i64 0] lB lN lC (some (Addr.mk b_3 0 none)) 1 H6 (fun ap_2 apC_2 H7 =>
 (I19 ap_2 (lN + 1) apC_2 (IntKind.wrap .i64 (s15 + 1)) H7 ∧ m19 ap_2 (lN + 1) apC_2 (IntKind.wrap .i64 (s15 + 1)) H7 < m19 lB lN lC s15 H2)))
 else
 (I19 lB lN lC (IntKind.wrap .i64 (s15 + 1)) H5 ∧ m19 lB lN lC (IntKind.wrap .i64 (s15 + 1)) H5 < m19 lB lN lC s15 H2)))
 else
 (I19 lB lN lC (IntKind.wrap .i64 (s15 + 1)) H2 ∧ m19 lB lN lC (IntKind.wrap .i64 (s15 + 1)) H2 < m19 lB lN lC s15 H2))
 else
 slices_SortFunc_int_int.C lB lN lC (.func (.func 47) #[] #[.pointer (some (Addr.mk b 0 none))]) H2 (fun _ H8 =>
 R (.slice lB lN lC) H8))
namespace seg_Mem_Taken
set_option maxRecDepth 100000 in
theorem link {m : Option Addr} {gensB : Option Addr} {gensN : Nat} {gensC : Nat} {H : Array Obj} {R : Value → Array Obj → Prop} (h : pt m gensB gensN gensC H R) : C m gensB gensN gensC H R := by
 refine S_enter (fn := Tryz.f27) (c := kk0) 52 Tryz.func27 (by kernel_rfl) (by kernel_rfl) (Nat.le_of_ble_eq_true (by kernel_rfl)) ?_
 intro w0 Q hQ
 unfold pt at h
 refine S_sub [(0, .pointer m), (1, .slice gensB gensN gensC)] (sb (by kernel_rfl)) ?_
 refine T_sr 0 kk1 kk2 ?_
 refine N_new (some 2) (fun b => .pointer (some (Addr.mk b 0 none))) (.cells #[.pointer m] 68) (fun _=>by kernel_rfl) ?_
 intro b H1 e1 e2
 replace h := h b H1 e1 e2
 refine ⟨[(1, .slice gensB gensN gensC), (2, .pointer (some (Addr.mk b 0 none)))], ps (by kernel_rfl), ?_⟩
 refine N_run 1 [(1, .slice gensB gensN gensC), (2, .pointer (some (Addr.mk b 0 none)))] (fun _=>by kernel_rfl) ?_
 refine T_e ?_
 refine S_seq kk3 kk4 (by kernel_rfl) ?_
 refine T_sr 1 kk5 kk6 ?_
 obtain ⟨x, q3, h⟩ := h
 refine N_val (some 8) (loadN 68 (.pointer (some (Addr.mk b 0 none)))) (.pointer x) (fun _=>by kernel_rfl) (loadN_run (loadOK_one (fun _=>by kernel_rfl) q3)) [(1, .slice gensB gensN gensC), (2, .pointer (some (Addr.mk b 0 none))), (8, .pointer x)] (ps (by kernel_rfl)) ?_
 rcases x with _ | xA
 ·rw [onPtr_none] at h
  refine N_run 1 [(1, .slice gensB gensN gensC), (2, .pointer (some (Addr.mk b 0 none))), (9, .bool true)] (fun _=>by kernel_rfl) ?_
  refine T_e ?_
  refine S_condT (.tmp 9) kk7 kk8 (by kernel_rfl) (by kernel_rfl) ?_
  refine T_sr 2 kk9 kk10 ?_
  refine N_run 1 [(4, .slice none 0 0)] (fun _=>by kernel_rfl) ?_
  refine T_e ?_
  refine S_ret (by kernel_rfl) ?_
  show At _ _ _ _ _ (Q .ret)
  exact S_done (fn := Tryz.f27) [.slice none 0 0] hQ (show ResOK _ _ _ [.tmp 4] _ from .tmp (by kernel_rfl) (.nil)) h
 ·rw [onPtr_some] at h
  refine N_run 1 [(1, .slice gensB gensN gensC), (2, .pointer (some (Addr.mk b 0 none))), (9, .bool false)] (fun _=>by kernel_rfl) ?_
  refine T_e ?_
  refine S_condF (.tmp 9) kk7 kk8 (by kernel_rfl) (by kernel_rfl) ?_
  refine S_skip (by kernel_rfl) ?_
  refine S_then ?_
  refine T_sr 3 kk11 kk12 ?_
  refine N_run 1 [(1, .slice gensB gensN gensC), (2, .pointer (some (Addr.mk b 0 none))), (5, .slice none 0 0)] (fun _=>by kernel_rfl) ?_
  refine T_e ?_
  refine S_seq kk13 kk14 (by kernel_rfl) ?_
  refine T_sr 4 kk15 kk16 ?_
  obtain ⟨x_2, q4, h⟩ := h
  refine N_val (some 10) (loadN 68 (.pointer (some (Addr.mk b 0 none)))) (.pointer x_2) (fun _=>by kernel_rfl) (loadN_run (loadOK_one (fun _=>by kernel_rfl) q4)) [(1, .slice gensB gensN gensC), (2, .pointer (some (Addr.mk b 0 none))), (5, .slice none 0 0), (10, .pointer x_2)] (ps (by kernel_rfl)) ?_
  obtain ⟨x2A, rfl, h⟩ := h
  refine N_run 2 [(1, .slice gensB gensN gensC), (2, .pointer (some (Addr.mk b 0 none))), (5, .slice none 0 0), (12, .pointer (some x2A))] (fun _=>by kernel_rfl) ?_
  obtain ⟨xB, xN, xC, q5, h⟩ := h
  refine N_val (some 13) (loadN 101 (.pointer (some x2A))) (.slice xB xN xC) (fun _=>by kernel_rfl) (loadN_run (loadOK_one (fun _=>by kernel_rfl) q5)) [(1, .slice gensB gensN gensC), (2, .pointer (some (Addr.mk b 0 none))), (5, .slice none 0 0), (13, .slice xB xN xC)] (ps (by kernel_rfl)) ?_
  refine N_run 2 [(1, .slice gensB gensN gensC), (2, .pointer (some (Addr.mk b 0 none))), (5, .slice none 0 0), (14, .int .i64 (xN : Int)), (15, .int .i64 0)] (fun _=>by kernel_rfl) ?_
  refine T_e ?_
  refine S_block 0 kk17 (by kernel_rfl) ?_
  obtain ⟨I19, m19, i6, i7⟩ := h
  refine S_loop (x := kk18) (σ := (Option Addr) × Nat × Nat × Int) (fun s_ => [(1, .slice gensB gensN gensC), (2, .pointer (some (Addr.mk b 0 none))), (5, .slice s_.1 s_.2.1 s_.2.2.1), (14, .int .i64 (xN : Int)), (15, .int .i64 s_.2.2.2)]) (fun s_ H => I19 s_.1 s_.2.1 s_.2.2.1 s_.2.2.2 H) (fun s_ H => m19 s_.1 s_.2.1 s_.2.2.1 s_.2.2.2 H) ((none, 0, 0, 0) : (Option Addr) × Nat × Nat × Int) (by kernel_rfl) i6 (sb (by kernel_rfl)) ?_
  rintro ⟨lB, lN, lC, s15⟩ H2 i8
  have h := i7 lB lN lC s15 H2 i8
  refine S_sub [(1, .slice gensB gensN gensC), (2, .pointer (some (Addr.mk b 0 none))), (5, .slice lB lN lC), (14, .int .i64 (xN : Int)), (15, .int .i64 s15)] (sb (by kernel_rfl)) ?_
  refine T_sr 5 kk19 kk20 ?_
  refine N_run 1 [(1, .slice gensB gensN gensC), (2, .pointer (some (Addr.mk b 0 none))), (5, .slice lB lN lC), (14, .int .i64 (xN : Int)), (15, .int .i64 s15), (16, .bool (decide (s15 < (xN : Int))))] (fun _=>by kernel_rfl) ?_
  refine T_e ?_
  refine S_seq kk21 kk22 (by kernel_rfl) ?_
  by_cases c9 : s15 < (xN : Int)
  ·rw [if_pos c9] at h
   have b10 : (decide (s15 < (xN : Int))) = true := decide_eq_true c9
   refine S_env [(1, .slice gensB gensN gensC), (2, .pointer (some (Addr.mk b 0 none))), (5, .slice lB lN lC), (14, .int .i64 (xN : Int)), (15, .int .i64 s15), (16, .bool true)] (by simp only [b10, Bool.not_true, Bool.not_false]) ?_
   clear b10
   refine S_condT (.tmp 16) kk23 kk24 (by kernel_rfl) (by kernel_rfl) ?_
   refine S_skip (by kernel_rfl) ?_
   refine S_then ?_
   refine S_seq kk25 kk26 (by kernel_rfl) ?_
   refine S_block 1 kk27 (by kernel_rfl) ?_
   refine T_sr 6 kk28 kk29 ?_
   refine N_run 2 [(1, .slice gensB gensN gensC), (2, .pointer (some (Addr.mk b 0 none))), (5, .slice lB lN lC), (6, .int .i64 s15), (14, .int .i64 (xN : Int)), (15, .int .i64 s15)] (fun _=>by kernel_rfl) ?_
   refine T_e ?_
   refine T_sr 7 kk30 kk31 ?_
   obtain ⟨x_3, q11, h⟩ := h
   refine N_val (some 18) (loadN 68 (.pointer (some (Addr.mk b 0 none)))) (.pointer x_3) (fun _=>by kernel_rfl) (loadN_run (loadOK_one (fun _=>by kernel_rfl) q11)) [(1, .slice gensB gensN gensC), (2, .pointer (some (Addr.mk b 0 none))), (5, .slice lB lN lC), (6, .int .i64 s15), (14, .int .i64 (xN : Int)), (15, .int .i64 s15), (18, .pointer x_3)] (ps (by kernel_rfl)) ?_
   obtain ⟨x3A, rfl, h⟩ := h
   refine N_run 2 [(1, .slice gensB gensN gensC), (2, .pointer (some (Addr.mk b 0 none))), (5, .slice lB lN lC), (6, .int .i64 s15), (14, .int .i64 (xN : Int)), (15, .int .i64 s15), (20, .pointer (some x3A))] (fun _=>by kernel_rfl) ?_
   obtain ⟨xB_2, xN_2, xC_2, q12, h⟩ := h
   refine N_val (some 21) (loadN 101 (.pointer (some x3A))) (.slice xB_2 xN_2 xC_2) (fun _=>by kernel_rfl) (loadN_run (loadOK_one (fun _=>by kernel_rfl) q12)) [(1, .slice gensB gensN gensC), (2, .pointer (some (Addr.mk b 0 none))), (5, .slice lB lN lC), (6, .int .i64 s15), (14, .int .i64 (xN : Int)), (15, .int .i64 s15), (21, .slice xB_2 xN_2 xC_2)] (ps (by kernel_rfl)) ?_
   refine N_run 1 [(1, .slice gensB gensN gensC), (2, .pointer (some (Addr.mk b 0 none))), (5, .slice lB lN lC), (6, .int .i64 s15), (14, .int .i64 (xN : Int)), (15, .int .i64 s15), (21, .slice xB_2 xN_2 xC_2), (22, .int .i64 s15)] (fun _=>by kernel_rfl) ?_
   obtain ⟨xB2A, rfl, h⟩ := h
   obtain ⟨q13, h⟩ := h
   refine N_val (some 23) (indexAtN 101 (.slice (some xB2A) xN_2 xC_2) (.int .i64 s15)) (.pointer (some (xB2A.add (Int.toNat s15 * 72)))) (fun _=>by kernel_rfl) (fun w _ => indexAt_run (P := Tryz.prog) (t := 101) (elem := 107) (sz := 72) (a := xB2A) (len := xN_2) (cap := xC_2) (k := .i64) (i := s15) Tryz.underlying101 (fun _=>by kernel_rfl) q13.1 q13.2 w) [(1, .slice gensB gensN gensC), (2, .pointer (some (Addr.mk b 0 none))), (5, .slice lB lN lC), (6, .int .i64 s15), (14, .int .i64 (xN : Int)), (15, .int .i64 s15), (23, .pointer (some (xB2A.add (Int.toNat s15 * 72))))] (ps (by kernel_rfl)) ?_
   refine N_run 1 [(1, .slice gensB gensN gensC), (2, .pointer (some (Addr.mk b 0 none))), (5, .slice lB lN lC), (6, .int .i64 s15), (7, .pointer (some (xB2A.add (Int.toNat s15 * 72)))), (14, .int .i64 (xN : Int)), (15, .int .i64 s15)] (fun _=>by kernel_rfl) ?_
   refine T_e ?_
   refine T_sr 8 kk32 kk33 ?_
   refine N_run 3 [(1, .slice gensB gensN gensC), (2, .pointer (some (Addr.mk b 0 none))), (5, .slice lB lN lC), (6, .int .i64 s15), (7, .pointer (some (xB2A.add (Int.toNat s15 * 72)))), (14, .int .i64 (xN : Int)), (15, .int .i64 s15), (26, .pointer (some ((xB2A.add (Int.toNat s15 * 72)).add 7)))] (fun _=>by kernel_rfl) ?_
   obtain ⟨x_4, q14, h⟩ := h
   refine N_val (some 27) (loadN 3 (.pointer (some ((xB2A.add (Int.toNat s15 * 72)).add 7)))) (.int .i64 x_4) (fun _=>by kernel_rfl) (loadN_run (loadOK_one (fun _=>by kernel_rfl) q14)) [(1, .slice gensB gensN gensC), (2, .pointer (some (Addr.mk b 0 none))), (5, .slice lB lN lC), (6, .int .i64 s15), (7, .pointer (some (xB2A.add (Int.toNat s15 * 72)))), (14, .int .i64 (xN : Int)), (15, .int .i64 s15), (27, .int .i64 x_4)] (ps (by kernel_rfl)) ?_
   refine N_run 2 [(1, .slice gensB gensN gensC), (2, .pointer (some (Addr.mk b 0 none))), (5, .slice lB lN lC), (6, .int .i64 s15), (7, .pointer (some (xB2A.add (Int.toNat s15 * 72)))), (14, .int .i64 (xN : Int)), (15, .int .i64 s15), (29, .bool (decide (x_4 > 0)))] (fun _=>by kernel_rfl) ?_
   by_cases c15 : x_4 > 0
   ·rw [if_pos c15] at h
    have b16 : (decide (x_4 > 0)) = true := decide_eq_true c15
    refine N_env [(1, .slice gensB gensN gensC), (2, .pointer (some (Addr.mk b 0 none))), (5, .slice lB lN lC), (6, .int .i64 s15), (7, .pointer (some (xB2A.add (Int.toNat s15 * 72)))), (14, .int .i64 (xN : Int)), (15, .int .i64 s15), (29, .bool true)] (by simp only [b16, Bool.not_true, Bool.not_false]) ?_
    clear b16
    refine N_run 4 [(1, .slice gensB gensN gensC), (2, .pointer (some (Addr.mk b 0 none))), (5, .slice lB lN lC), (6, .int .i64 s15), (7, .pointer (some (xB2A.add (Int.toNat s15 * 72)))), (14, .int .i64 (xN : Int)), (15, .int .i64 s15), (29, .bool true), (33, .bool ((gensN : Int) == 0))] (fun _=>by kernel_rfl) ?_
    by_cases c17 : (gensN : Int) = 0
    ·rw [if_pos c17] at h
     have b18 : ((gensN : Int) == 0) = true := beq_iff_eq.mpr c17
     refine N_env [(1, .slice gensB gensN gensC), (2, .pointer (some (Addr.mk b 0 none))), (5, .slice lB lN lC), (6, .int .i64 s15), (7, .pointer (some (xB2A.add (Int.toNat s15 * 72)))), (14, .int .i64 (xN : Int)), (15, .int .i64 s15), (29, .bool true), (33, .bool true)] (by simp only [b18, Bool.not_true, Bool.not_false]) ?_
     clear b18
     refine N_run 9 [(1, .slice gensB gensN gensC), (2, .pointer (some (Addr.mk b 0 none))), (5, .slice lB lN lC), (6, .int .i64 s15), (14, .int .i64 (xN : Int)), (15, .int .i64 s15), (42, .bool true)] (fun _=>by kernel_rfl) ?_
     refine T_e ?_
     refine S_condT (.tmp 42) kk34 kk35 (by kernel_rfl) (by kernel_rfl) ?_
     refine S_region 9 (Code.ops kk34) (by kernel_rfl) ?_
     refine N_run 2 [(1, .slice gensB gensN gensC), (2, .pointer (some (Addr.mk b 0 none))), (14, .int .i64 (xN : Int)), (15, .int .i64 s15), (43, .slice lB lN lC), (44, .int .i64 s15)] (fun _=>by kernel_rfl) ?_
     refine N_new (some 45) (fun b => .slice (some (Addr.mk b 0 none)) 1 1) (.cells #[.int .i64 s15] 3) (fun _=>by kernel_rfl) ?_
     intro b_2 H3 e19 e20
     replace h := h b_2 H3 e19 e20
     refine ⟨[(1, .slice gensB gensN gensC), (2, .pointer (some (Addr.mk b 0 none))), (14, .int .i64 (xN : Int)), (15, .int .i64 s15), (43, .slice lB lN lC), (45, .slice (some (Addr.mk b_2 0 none)) 1 1)], ps (by kernel_rfl), ?_⟩
     refine N_op (some 46) (appendN #[66, 66] 66 #[.slice lB lN lC, .slice (some (Addr.mk b_2 0 none)) 1 1]) _ (fun _=>by kernel_rfl) (ss_append (T := 3) (sz := 1) (bytes := 8) (zero := (.int .i64 0 : Value)) Tryz.underlying66 Tryz.underlying66 rfl (show Tryz.prog.info? 3 = some Tryz.t3 from by kernel_rfl) (by kernel_rfl) (by kernel_rfl) (by decide) (by kernel_rfl) (by first | exact h | (simpa only [Value.cells, List.toList_toArray] using h))) ?_; clear h
     rintro _ H4 ⟨ap, apC, rfl, h⟩
     refine ⟨[(1, .slice gensB gensN gensC), (2, .pointer (some (Addr.mk b 0 none))), (14, .int .i64 (xN : Int)), (15, .int .i64 s15), (46, .slice ap (lN + 1) apC)], ps (by kernel_rfl), ?_⟩
     refine N_run 1 [(1, .slice gensB gensN gensC), (2, .pointer (some (Addr.mk b 0 none))), (5, .slice ap (lN + 1) apC), (14, .int .i64 (xN : Int)), (15, .int .i64 s15)] (fun _=>by kernel_rfl) ?_
     refine N_end (by kernel_rfl) ?_
     refine S_blockEnd ?_
     refine S_then ?_
     refine S_region 10 (Code.ops kk26) (by kernel_rfl) ?_
     refine N_run 2 [(1, .slice gensB gensN gensC), (2, .pointer (some (Addr.mk b 0 none))), (5, .slice ap (lN + 1) apC), (14, .int .i64 (xN : Int)), (15, .int .i64 (IntKind.wrap .i64 (s15 + 1)))] (fun _=>by kernel_rfl) ?_
     refine T_e ?_
     exact S_round ((ap, (lN + 1), apC, (IntKind.wrap .i64 (s15 + 1))) : (Option Addr) × Nat × Nat × Int) (sb (by kernel_rfl)) h
    ·rw [if_neg c17] at h
     have b18 : ((gensN : Int) == 0) = false := beq_eq_false_iff_ne.mpr c17
     refine N_env [(1, .slice gensB gensN gensC), (2, .pointer (some (Addr.mk b 0 none))), (5, .slice lB lN lC), (6, .int .i64 s15), (7, .pointer (some (xB2A.add (Int.toNat s15 * 72)))), (14, .int .i64 (xN : Int)), (15, .int .i64 s15), (29, .bool true), (33, .bool false)] (by simp only [b18, Bool.not_true, Bool.not_false]) ?_
     clear b18
     refine N_run 5 [(1, .slice gensB gensN gensC), (2, .pointer (some (Addr.mk b 0 none))), (5, .slice lB lN lC), (6, .int .i64 s15), (14, .int .i64 (xN : Int)), (15, .int .i64 s15), (29, .bool true), (33, .bool false), (34, .slice gensB gensN gensC), (38, .pointer (some (xB2A.add (Int.toNat s15 * 72))))] (fun _=>by kernel_rfl) ?_
     obtain ⟨x_5, q21, h⟩ := h
     refine N_val (some 39) (loadN 3 (.pointer (some (xB2A.add (Int.toNat s15 * 72))))) (.int .i64 x_5) (fun _=>by kernel_rfl) (loadN_run (loadOK_one (fun _=>by kernel_rfl) q21)) [(1, .slice gensB gensN gensC), (2, .pointer (some (Addr.mk b 0 none))), (5, .slice lB lN lC), (6, .int .i64 s15), (14, .int .i64 (xN : Int)), (15, .int .i64 s15), (29, .bool true), (33, .bool false), (34, .slice gensB gensN gensC), (39, .int .i64 x_5)] (ps (by kernel_rfl)) ?_
     refine N_call (some 40) 43 #[.slice gensB gensN gensC, .int .i64 x_5] (fun _=>by kernel_rfl) h ?_; clear h
     rintro v H5 ⟨x_6, rfl, h⟩
     refine ⟨[(1, .slice gensB gensN gensC), (2, .pointer (some (Addr.mk b 0 none))), (5, .slice lB lN lC), (6, .int .i64 s15), (14, .int .i64 (xN : Int)), (15, .int .i64 s15), (29, .bool true), (33, .bool false), (40, .bool x_6)], ps (by kernel_rfl), ?_⟩
     refine N_run 2 [(1, .slice gensB gensN gensC), (2, .pointer (some (Addr.mk b 0 none))), (5, .slice lB lN lC), (6, .int .i64 s15), (14, .int .i64 (xN : Int)), (15, .int .i64 s15), (42, .bool x_6)] (fun _=>by kernel_rfl) ?_
     refine T_e ?_
     by_cases c22 : x_6 = true
     ·rw [if_pos c22] at h
      have b23 : x_6 = true := c22
      refine S_env [(1, .slice gensB gensN gensC), (2, .pointer (some (Addr.mk b 0 none))), (5, .slice lB lN lC), (6, .int .i64 s15), (14, .int .i64 (xN : Int)), (15, .int .i64 s15), (42, .bool true)] (by simp only [b23, Bool.not_true, Bool.not_false]) ?_
      clear b23
      refine S_condT (.tmp 42) kk34 kk35 (by kernel_rfl) (by kernel_rfl) ?_
      refine S_region 9 (Code.ops kk34) (by kernel_rfl) ?_
      refine N_run 2 [(1, .slice gensB gensN gensC), (2, .pointer (some (Addr.mk b 0 none))), (14, .int .i64 (xN : Int)), (15, .int .i64 s15), (43, .slice lB lN lC), (44, .int .i64 s15)] (fun _=>by kernel_rfl) ?_
      refine N_new (some 45) (fun b => .slice (some (Addr.mk b 0 none)) 1 1) (.cells #[.int .i64 s15] 3) (fun _=>by kernel_rfl) ?_
      intro b_3 H6 e24 e25
      replace h := h b_3 H6 e24 e25
      refine ⟨[(1, .slice gensB gensN gensC), (2, .pointer (some (Addr.mk b 0 none))), (14, .int .i64 (xN : Int)), (15, .int .i64 s15), (43, .slice lB lN lC), (45, .slice (some (Addr.mk b_3 0 none)) 1 1)], ps (by kernel_rfl), ?_⟩
      refine N_op (some 46) (appendN #[66, 66] 66 #[.slice lB lN lC, .slice (some (Addr.mk b_3 0 none)) 1 1]) _ (fun _=>by kernel_rfl) (ss_append (T := 3) (sz := 1) (bytes := 8) (zero := (.int .i64 0 : Value)) Tryz.underlying66 Tryz.underlying66 rfl (show Tryz.prog.info? 3 = some Tryz.t3 from by kernel_rfl) (by kernel_rfl) (by kernel_rfl) (by decide) (by kernel_rfl) (by first | exact h | (simpa only [Value.cells, List.toList_toArray] using h))) ?_; clear h
      rintro _ H7 ⟨ap_2, apC_2, rfl, h⟩
      refine ⟨[(1, .slice gensB gensN gensC), (2, .pointer (some (Addr.mk b 0 none))), (14, .int .i64 (xN : Int)), (15, .int .i64 s15), (46, .slice ap_2 (lN + 1) apC_2)], ps (by kernel_rfl), ?_⟩
      refine N_run 1 [(1, .slice gensB gensN gensC), (2, .pointer (some (Addr.mk b 0 none))), (5, .slice ap_2 (lN + 1) apC_2), (14, .int .i64 (xN : Int)), (15, .int .i64 s15)] (fun _=>by kernel_rfl) ?_
      refine N_end (by kernel_rfl) ?_
      refine S_blockEnd ?_
      refine S_then ?_
      refine S_region 10 (Code.ops kk26) (by kernel_rfl) ?_
      refine N_run 2 [(1, .slice gensB gensN gensC), (2, .pointer (some (Addr.mk b 0 none))), (5, .slice ap_2 (lN + 1) apC_2), (14, .int .i64 (xN : Int)), (15, .int .i64 (IntKind.wrap .i64 (s15 + 1)))] (fun _=>by kernel_rfl) ?_
      refine T_e ?_
      exact S_round ((ap_2, (lN + 1), apC_2, (IntKind.wrap .i64 (s15 + 1))) : (Option Addr) × Nat × Nat × Int) (sb (by kernel_rfl)) h
     ·rw [if_neg c22] at h
      have b23 : x_6 = false := eq_false_of_ne_true c22
      refine S_env [(1, .slice gensB gensN gensC), (2, .pointer (some (Addr.mk b 0 none))), (5, .slice lB lN lC), (6, .int .i64 s15), (14, .int .i64 (xN : Int)), (15, .int .i64 s15), (42, .bool false)] (by simp only [b23, Bool.not_true, Bool.not_false]) ?_
      clear b23
      refine S_condF (.tmp 42) kk34 kk35 (by kernel_rfl) (by kernel_rfl) ?_
      refine S_skip (by kernel_rfl) ?_
      refine S_blockEnd ?_
      refine S_then ?_
      refine S_region 10 (Code.ops kk26) (by kernel_rfl) ?_
      refine N_run 2 [(1, .slice gensB gensN gensC), (2, .pointer (some (Addr.mk b 0 none))), (5, .slice lB lN lC), (14, .int .i64 (xN : Int)), (15, .int .i64 (IntKind.wrap .i64 (s15 + 1)))] (fun _=>by kernel_rfl) ?_
      refine T_e ?_
      exact S_round ((lB, lN, lC, (IntKind.wrap .i64 (s15 + 1))) : (Option Addr) × Nat × Nat × Int) (sb (by kernel_rfl)) h
   ·rw [if_neg c15] at h
    have b16 : (decide (x_4 > 0)) = false := decide_eq_false c15
    refine N_env [(1, .slice gensB gensN gensC), (2, .pointer (some (Addr.mk b 0 none))), (5, .slice lB lN lC), (6, .int .i64 s15), (7, .pointer (some (xB2A.add (Int.toNat s15 * 72)))), (14, .int .i64 (xN : Int)), (15, .int .i64 s15), (29, .bool false)] (by simp only [b16, Bool.not_true, Bool.not_false]) ?_
    clear b16
    refine N_run 13 [(1, .slice gensB gensN gensC), (2, .pointer (some (Addr.mk b 0 none))), (5, .slice lB lN lC), (6, .int .i64 s15), (14, .int .i64 (xN : Int)), (15, .int .i64 s15), (42, .bool false)] (fun _=>by kernel_rfl) ?_
    refine T_e ?_
    refine S_condF (.tmp 42) kk34 kk35 (by kernel_rfl) (by kernel_rfl) ?_
    refine S_skip (by kernel_rfl) ?_
    refine S_blockEnd ?_
    refine S_then ?_
    refine S_region 10 (Code.ops kk26) (by kernel_rfl) ?_
    refine N_run 2 [(1, .slice gensB gensN gensC), (2, .pointer (some (Addr.mk b 0 none))), (5, .slice lB lN lC), (14, .int .i64 (xN : Int)), (15, .int .i64 (IntKind.wrap .i64 (s15 + 1)))] (fun _=>by kernel_rfl) ?_
    refine T_e ?_
    exact S_round ((lB, lN, lC, (IntKind.wrap .i64 (s15 + 1))) : (Option Addr) × Nat × Nat × Int) (sb (by kernel_rfl)) h
  ·rw [if_neg c9] at h
   have b10 : (decide (s15 < (xN : Int))) = false := decide_eq_false c9
   refine S_env [(1, .slice gensB gensN gensC), (2, .pointer (some (Addr.mk b 0 none))), (5, .slice lB lN lC), (14, .int .i64 (xN : Int)), (15, .int .i64 s15), (16, .bool false)] (by simp only [b10, Bool.not_true, Bool.not_false]) ?_
   clear b10
   refine S_condF (.tmp 16) kk23 kk24 (by kernel_rfl) (by kernel_rfl) ?_
   refine S_exit 0 (by kernel_rfl) ?_
   refine S_exitThen ?_
   refine S_exitThen ?_
   refine S_exitHere ?_
   refine S_then ?_
   refine T_sr 11 kk36 kk37 ?_
   refine N_run 2 [(5, .slice lB lN lC), (48, .slice lB lN lC), (49, .func (.func 47) #[] #[.pointer (some (Addr.mk b 0 none))])] (fun _=>by kernel_rfl) ?_
   refine N_call (some 50) 46 #[.slice lB lN lC, .func (.func 47) #[] #[.pointer (some (Addr.mk b 0 none))]] (fun _=>by kernel_rfl) h ?_; clear h
   intro v_2 H8 h
   refine ⟨[(5, .slice lB lN lC)], ps (by kernel_rfl), ?_⟩
   refine T_e ?_
   refine T_sr 12 kk38 kk39 ?_
   refine N_run 2 [(4, .slice lB lN lC)] (fun _=>by kernel_rfl) ?_
   refine T_e ?_
   refine S_ret (by kernel_rfl) ?_
   show At _ _ _ _ _ (Q .ret)
   exact S_done (fn := Tryz.f27) [.slice lB lN lC] hQ (show ResOK _ _ _ [.tmp 4] _ from .tmp (by kernel_rfl) (.nil)) h
end seg_Mem_Taken

/-! (*moraine/seg.Mem).Taken.1 -/
namespace seg_Mem_Taken_1
def kk0 := Func.code Tryz.f47
def kk1 := Code.fa kk0
def kk2 := Code.fb kk0
def kk3 := Code.fa kk2
def kk4 := Code.fb kk2
end seg_Mem_Taken_1
def seg_Mem_Taken_1.pt (a : Int) (b : Int) (cap0 : Option Addr) (H : Array Obj) (R : Value → Array Obj → Prop) : Prop :=
 ∃ cap0A : Addr, cap0 = some cap0A ∧
 ∃ x : Option Addr, hat H cap0A = some (.pointer x) ∧
 ∃ xA : Addr, x = some xA ∧
 ∃ xB : Option Addr, ∃ xN : Nat, ∃ xC : Nat, hat H xA = some (.slice xB xN xC) ∧
 ∃ xBA : Addr, xB = some xBA ∧
 ((0 : Int) ≤ a ∧ a < (xN : Int)) ∧
 ∃ x_2 : Int, hat H ((xBA.add (Int.toNat a * 72)).add 7) = some (.int .i64 x_2) ∧
 ∃ x_3 : Option Addr, hat H cap0A = some (.pointer x_3) ∧
 ∃ x3A : Addr, x_3 = some x3A ∧
 ∃ xB_2 : Option Addr, ∃ xN_2 : Nat, ∃ xC_2 : Nat, hat H x3A = some (.slice xB_2 xN_2 xC_2) ∧
 ∃ xB2A : Addr, xB_2 = some xB2A ∧
 ((0 : Int) ≤ b ∧ b < (xN_2 : Int)) ∧
 ∃ x_4 : Int, hat H ((xB2A.add (Int.toNat b * 72)).add 7) = some (.int .i64 x_4) ∧
 cmp_Compare_int.C x_2 x_4 H (fun v H1 => ∃ x_5 : Int, v = .int .i64 x_5 ∧ 
 R (.int .i64 x_5) H1)
namespace seg_Mem_Taken_1
set_option maxRecDepth 100000 in
theorem link {a : Int} {b : Int} {cap0 : Option Addr} {H : Array Obj} {R : Value → Array Obj → Prop} (h : pt a b cap0 H R) : C a b cap0 H R := by
 refine S_enter (fn := Tryz.f47) (c := kk0) 23 Tryz.func47 (by kernel_rfl) (by kernel_rfl) (Nat.le_of_ble_eq_true (by kernel_rfl)) ?_
 intro w0 Q hQ
 unfold pt at h
 refine S_sub [(0, .int .i64 a), (1, .int .i64 b), (2, .pointer cap0)] (sb (by kernel_rfl)) ?_
 refine T_sr 0 kk1 kk2 ?_
 refine N_run 1 [(0, .int .i64 a), (1, .int .i64 b), (2, .pointer cap0)] (fun _=>by kernel_rfl) ?_
 refine T_e ?_
 refine S_seq kk3 kk4 (by kernel_rfl) ?_
 obtain ⟨cap0A, rfl, h⟩ := h
 obtain ⟨x, q1, h⟩ := h
 obtain ⟨xA, rfl, h⟩ := h
 obtain ⟨xB, xN, xC, q2, h⟩ := h
 obtain ⟨xBA, rfl, h⟩ := h
 obtain ⟨q3, h⟩ := h
 obtain ⟨x_2, q4, h⟩ := h
 obtain ⟨x_3, q5, h⟩ := h
 obtain ⟨x3A, rfl, h⟩ := h
 obtain ⟨xB_2, xN_2, xC_2, q6, h⟩ := h
 obtain ⟨xB2A, rfl, h⟩ := h
 obtain ⟨q7, h⟩ := h
 obtain ⟨x_4, q8, h⟩ := h
 refine S_regionG 1 (Code.ops kk3) [(16, cap0A, [.pointer (some xA)]), (16, xA, [.slice (some xBA) xN xC]), (16, ((xBA.add (Int.toNat a * 72)).add 7), [.int .i64 x_2]), (16, cap0A, [.pointer (some x3A)]), (16, x3A, [.slice (some xB2A) xN_2 xC_2]), (16, ((xB2A.add (Int.toNat b * 72)).add 7), [.int .i64 x_4])] 18 #[false, false, false, false, false, false, false, false, false, false, false, false, false, false, false, false, false, false] (by kernel_rfl) (by kernel_rfl) (by kernel_rfl) (by kernel_rfl) (by kernel_rfl) (show FactsAt _ _ _ from ⟨⟨q1, trivial⟩, ⟨q2, trivial⟩, ⟨q4, trivial⟩, ⟨q5, trivial⟩, ⟨q6, trivial⟩, ⟨q8, trivial⟩, trivial⟩) ?_
 refine G_take 0 (some 6) (.pointer (some xA)) #[true, false, false, false, false, false, false, false, false, false, false, false, false, false, false, false, false, false] [(0, .int .i64 a), (1, .int .i64 b), (2, .pointer (some cap0A)), (6, .pointer (some xA))] (loadN 68 (.pointer (some cap0A))) (fun _=>by kernel_rfl) (held_one 16 (fun _=>by kernel_rfl) (List.Mem.head _) (.inl (by kernel_rfl))) (by kernel_rfl) (by kernel_rfl) (by kernel_rfl) (by kernel_rfl) (by kernel_rfl) (by kernel_rfl) (ps (by kernel_rfl)) ?_
 refine G_take 1 (some 7) (.pointer (some xA)) #[true, true, false, false, false, false, false, false, false, false, false, false, false, false, false, false, false, false] [(0, .int .i64 a), (1, .int .i64 b), (2, .pointer (some cap0A)), (7, .pointer (some xA))] ((pure (.value (.pointer (some xA))) : Sem Next)) (fun _=>by kernel_rfl) (fun _ _ _ _ _ => rfl) (by kernel_rfl) (by kernel_rfl) (by kernel_rfl) (by kernel_rfl) (by kernel_rfl) (by kernel_rfl) (ps (by kernel_rfl)) ?_
 refine G_take 2 (some 8) (.pointer (some xA)) #[true, true, true, false, false, false, false, false, false, false, false, false, false, false, false, false, false, false] [(0, .int .i64 a), (1, .int .i64 b), (2, .pointer (some cap0A)), (8, .pointer (some xA))] ((pure (.value (.pointer (some xA))) : Sem Next)) (fun _=>by kernel_rfl) (fun _ _ _ _ _ => rfl) (by kernel_rfl) (by kernel_rfl) (by kernel_rfl) (by kernel_rfl) (by kernel_rfl) (by kernel_rfl) (ps (by kernel_rfl)) ?_
 refine G_take 3 (some 9) (.slice (some xBA) xN xC) #[true, true, true, true, false, false, false, false, false, false, false, false, false, false, false, false, false, false] [(0, .int .i64 a), (1, .int .i64 b), (2, .pointer (some cap0A)), (9, .slice (some xBA) xN xC)] (loadN 101 (.pointer (some xA))) (fun _=>by kernel_rfl) (held_one 16 (fun _=>by kernel_rfl) (List.Mem.tail _ (List.Mem.head _)) (.inl (by kernel_rfl))) (by kernel_rfl) (by kernel_rfl) (by kernel_rfl) (by kernel_rfl) (by kernel_rfl) (by kernel_rfl) (ps (by kernel_rfl)) ?_
 refine G_take 4 (some 10) (.int .i64 a) #[true, true, true, true, true, false, false, false, false, false, false, false, false, false, false, false, false, false] [(1, .int .i64 b), (2, .pointer (some cap0A)), (9, .slice (some xBA) xN xC), (10, .int .i64 a)] ((pure (.value (.int .i64 a)) : Sem Next)) (fun _=>by kernel_rfl) (fun _ _ _ _ _ => rfl) (by kernel_rfl) (by kernel_rfl) (by kernel_rfl) (by kernel_rfl) (by kernel_rfl) (by kernel_rfl) (ps (by kernel_rfl)) ?_
 refine G_take 5 (some 11) (.pointer (some (xBA.add (Int.toNat a * 72)))) #[true, true, true, true, true, true, false, false, false, false, false, false, false, false, false, false, false, false] [(1, .int .i64 b), (2, .pointer (some cap0A)), (11, .pointer (some (xBA.add (Int.toNat a * 72))))] (indexAtN 101 (.slice (some xBA) xN xC) (.int .i64 a)) (fun _=>by kernel_rfl) (fun _ w _ _ _ => indexAt_run (P := Tryz.prog) (t := 101) (elem := 107) (sz := 72) (a := xBA) (len := xN) (cap := xC) (k := .i64) (i := a) Tryz.underlying101 (fun _=>by kernel_rfl) q3.1 q3.2 w) (by kernel_rfl) (by kernel_rfl) (by kernel_rfl) (by kernel_rfl) (by kernel_rfl) (by kernel_rfl) (ps (by kernel_rfl)) ?_
 refine G_take 6 (some 12) (.pointer (some ((xBA.add (Int.toNat a * 72)).add 7))) #[true, true, true, true, true, true, true, false, false, false, false, false, false, false, false, false, false, false] [(1, .int .i64 b), (2, .pointer (some cap0A)), (12, .pointer (some ((xBA.add (Int.toNat a * 72)).add 7)))] ((pure (.value (.pointer (some ((xBA.add (Int.toNat a * 72)).add 7)))) : Sem Next)) (fun _=>by kernel_rfl) (fun _ _ _ _ _ => rfl) (by kernel_rfl) (by kernel_rfl) (by kernel_rfl) (by kernel_rfl) (by kernel_rfl) (by kernel_rfl) (ps (by kernel_rfl)) ?_
 refine G_take 7 (some 13) (.int .i64 x_2) #[true, true, true, true, true, true, true, true, false, false, false, false, false, false, false, false, false, false] [(1, .int .i64 b), (2, .pointer (some cap0A)), (13, .int .i64 x_2)] (loadN 3 (.pointer (some ((xBA.add (Int.toNat a * 72)).add 7)))) (fun _=>by kernel_rfl) (held_one 16 (fun _=>by kernel_rfl) (List.Mem.tail _ (List.Mem.tail _ (List.Mem.head _))) (.inl (by kernel_rfl))) (by kernel_rfl) (by kernel_rfl) (by kernel_rfl) (by kernel_rfl) (by kernel_rfl) (by kernel_rfl) (ps (by kernel_rfl)) ?_
 refine G_take 8 (some 14) (.pointer (some x3A)) #[true, true, true, true, true, true, true, true, true, false, false, false, false, false, false, false, false, false] [(1, .int .i64 b), (13, .int .i64 x_2), (14, .pointer (some x3A))] (loadN 68 (.pointer (some cap0A))) (fun _=>by kernel_rfl) (held_one 16 (fun _=>by kernel_rfl) (List.Mem.tail _ (List.Mem.tail _ (List.Mem.tail _ (List.Mem.head _)))) (.inl (by kernel_rfl))) (by kernel_rfl) (by kernel_rfl) (by kernel_rfl) (by kernel_rfl) (by kernel_rfl) (by kernel_rfl) (ps (by kernel_rfl)) ?_
 refine G_take 9 (some 15) (.pointer (some x3A)) #[true, true, true, true, true, true, true, true, true, true, false, false, false, false, false, false, false, false] [(1, .int .i64 b), (13, .int .i64 x_2), (15, .pointer (some x3A))] ((pure (.value (.pointer (some x3A))) : Sem Next)) (fun _=>by kernel_rfl) (fun _ _ _ _ _ => rfl) (by kernel_rfl) (by kernel_rfl) (by kernel_rfl) (by kernel_rfl) (by kernel_rfl) (by kernel_rfl) (ps (by kernel_rfl)) ?_
 refine G_take 10 (some 16) (.pointer (some x3A)) #[true, true, true, true, true, true, true, true, true, true, true, false, false, false, false, false, false, false] [(1, .int .i64 b), (13, .int .i64 x_2), (16, .pointer (some x3A))] ((pure (.value (.pointer (some x3A))) : Sem Next)) (fun _=>by kernel_rfl) (fun _ _ _ _ _ => rfl) (by kernel_rfl) (by kernel_rfl) (by kernel_rfl) (by kernel_rfl) (by kernel_rfl) (by kernel_rfl) (ps (by kernel_rfl)) ?_
 refine G_take 11 (some 17) (.slice (some xB2A) xN_2 xC_2) #[true, true, true, true, true, true, true, true, true, true, true, true, false, false, false, false, false, false] [(1, .int .i64 b), (13, .int .i64 x_2), (17, .slice (some xB2A) xN_2 xC_2)] (loadN 101 (.pointer (some x3A))) (fun _=>by kernel_rfl) (held_one 16 (fun _=>by kernel_rfl) (List.Mem.tail _ (List.Mem.tail _ (List.Mem.tail _ (List.Mem.tail _ (List.Mem.head _))))) (.inl (by kernel_rfl))) (by kernel_rfl) (by kernel_rfl) (by kernel_rfl) (by kernel_rfl) (by kernel_rfl) (by kernel_rfl) (ps (by kernel_rfl)) ?_
 refine G_take 12 (some 18) (.int .i64 b) #[true, true, true, true, true, true, true, true, true, true, true, true, true, false, false, false, false, false] [(13, .int .i64 x_2), (17, .slice (some xB2A) xN_2 xC_2), (18, .int .i64 b)] ((pure (.value (.int .i64 b)) : Sem Next)) (fun _=>by kernel_rfl) (fun _ _ _ _ _ => rfl) (by kernel_rfl) (by kernel_rfl) (by kernel_rfl) (by kernel_rfl) (by kernel_rfl) (by kernel_rfl) (ps (by kernel_rfl)) ?_
 refine G_take 13 (some 19) (.pointer (some (xB2A.add (Int.toNat b * 72)))) #[true, true, true, true, true, true, true, true, true, true, true, true, true, true, false, false, false, false] [(13, .int .i64 x_2), (19, .pointer (some (xB2A.add (Int.toNat b * 72))))] (indexAtN 101 (.slice (some xB2A) xN_2 xC_2) (.int .i64 b)) (fun _=>by kernel_rfl) (fun _ w _ _ _ => indexAt_run (P := Tryz.prog) (t := 101) (elem := 107) (sz := 72) (a := xB2A) (len := xN_2) (cap := xC_2) (k := .i64) (i := b) Tryz.underlying101 (fun _=>by kernel_rfl) q7.1 q7.2 w) (by kernel_rfl) (by kernel_rfl) (by kernel_rfl) (by kernel_rfl) (by kernel_rfl) (by kernel_rfl) (ps (by kernel_rfl)) ?_
 refine G_take 14 (some 20) (.pointer (some ((xB2A.add (Int.toNat b * 72)).add 7))) #[true, true, true, true, true, true, true, true, true, true, true, true, true, true, true, false, false, false] [(13, .int .i64 x_2), (20, .pointer (some ((xB2A.add (Int.toNat b * 72)).add 7)))] ((pure (.value (.pointer (some ((xB2A.add (Int.toNat b * 72)).add 7)))) : Sem Next)) (fun _=>by kernel_rfl) (fun _ _ _ _ _ => rfl) (by kernel_rfl) (by kernel_rfl) (by kernel_rfl) (by kernel_rfl) (by kernel_rfl) (by kernel_rfl) (ps (by kernel_rfl)) ?_
 refine G_take 15 (some 21) (.int .i64 x_4) #[true, true, true, true, true, true, true, true, true, true, true, true, true, true, true, true, false, false] [(13, .int .i64 x_2), (21, .int .i64 x_4)] (loadN 3 (.pointer (some ((xB2A.add (Int.toNat b * 72)).add 7)))) (fun _=>by kernel_rfl) (held_one 16 (fun _=>by kernel_rfl) (List.Mem.tail _ (List.Mem.tail _ (List.Mem.tail _ (List.Mem.tail _ (List.Mem.tail _ (List.Mem.head _)))))) (.inl (by kernel_rfl))) (by kernel_rfl) (by kernel_rfl) (by kernel_rfl) (by kernel_rfl) (by kernel_rfl) (by kernel_rfl) (ps (by kernel_rfl)) ?_
 refine G_call 16 (some 22) #[true, true, true, true, true, true, true, true, true, true, true, true, true, true, true, true, true, false] 48 #[.int .i64 x_2, .int .i64 x_4] (by kernel_rfl) (fun _=>by kernel_rfl) h (by kernel_rfl) ?_; clear h
 rintro v H1 ⟨x_5, rfl, h⟩
 refine ⟨[(22, .int .i64 x_5)], ps (by kernel_rfl), (show FactsAt _ _ _ from ⟨trivial, trivial, trivial, trivial, trivial, trivial, trivial⟩), ?_⟩
 refine G_take 17 (some 5) (.int .i64 x_5) #[true, true, true, true, true, true, true, true, true, true, true, true, true, true, true, true, true, true] [(5, .int .i64 x_5)] (pure (.value (.int .i64 x_5)) : Sem Next) (fun _=>by kernel_rfl) (fun _ _ _ _ _ => rfl) (by kernel_rfl) (by kernel_rfl) (by kernel_rfl) (by kernel_rfl) (by kernel_rfl) (by kernel_rfl) (ps (by kernel_rfl)) ?_
 refine G_sub [(5, .int .i64 x_5)] (sb (by kernel_rfl)) ?_
 refine G_end (by kernel_rfl) ?_
 refine S_then ?_
 refine S_ret (by kernel_rfl) ?_
 show At _ _ _ _ _ (Q .ret)
 exact S_done (fn := Tryz.f47) [.int .i64 x_5] hQ (show ResOK _ _ _ [.tmp 5] _ from .tmp (by kernel_rfl) (.nil)) h
end seg_Mem_Taken_1

end Go.Proofs.YthlohokmnajpoaaGreat
