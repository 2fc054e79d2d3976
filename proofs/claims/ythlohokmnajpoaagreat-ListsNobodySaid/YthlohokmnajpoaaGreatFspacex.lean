/-
 Written by a program of mine (gen.py): for functions of this translation a predicate transformer over heaps (.pt), and the proof that it is sound for the call (.link).
-/
import Derived.Test.YthlohokmnajpoaaGreatFnsC
set_option linter.unusedSimpArgs false
set_option linter.unusedVariables false
set_option maxHeartbeats 1000000
noncomputable section
namespace Go.Proofs.YthlohokmnajpoaaGreat
open Go
/-! (*moraine/space.Space).Words -/
namespace space_Space_Words
def kk0 := Func.code Tryz.f8
def kk1 := Code.fa kk0
def kk2 := Code.fb kk0
def kk3 := Code.fa kk2
def kk4 := Code.fb kk2
def kk5 := Code.fa kk3
def kk6 := Code.fb kk3
def kk7 := Code.fa kk6
def kk8 := Code.fb kk6
def kk9 := Code.fa kk7
def kk10 := Code.fb kk7
def kk11 := Code.fa kk4
def kk12 := Code.fb kk4
def kk13 := Code.fa kk12
def kk14 := Code.fb kk12
def kk15 := Code.fa kk13
def kk16 := Code.fb kk13
def kk17 := Code.fa kk16
def kk18 := Code.fa kk17
def kk19 := Code.fa kk18
def kk20 := Code.fb kk18
def kk21 := Code.fa kk20
def kk22 := Code.fb kk20
def kk23 := Code.fa kk21
def kk24 := Code.fb kk21
def kk25 := Code.fa kk22
def kk26 := Code.fb kk22
def kk27 := Code.fa kk25
def kk28 := Code.fa kk27
def kk29 := Code.fb kk27
def kk30 := Code.fa kk29
def kk31 := Code.fb kk29
def kk32 := Code.fa kk14
def kk33 := Code.fb kk14
end space_Space_Words
def space_Space_Words.pt (s : Option Addr) (gensB : Option Addr) (gensN : Nat) (gensC : Nat) (H : Array Obj) (R : Value → Array Obj → Prop) : Prop :=
 space_Space_none.C s H (fun v H1 => ∃ x : Bool, v = .bool x ∧ 
 if x = true then (
 R (.int .i64 0) H1)
 else
 ∃ sA : Addr, s = some sA ∧
 ∃ x_2 : Option Addr, hat H1 sA = some (.pointer x_2) ∧
 seg_Mem_Taken.C x_2 gensB gensN gensC H1 (fun v_2 H2 => ∃ xB : Option Addr, ∃ xN : Nat, ∃ xC : Nat, v_2 = .slice xB xN xC ∧ 
 ∃ (I19 : Int → Int → Array Obj → Prop) (m19 : Int → Int → Array Obj → Nat), I19 0 0 H2 ∧ ∀ (sum : Int) (s19 : Int) (H3 : Array Obj), I19 sum s19 H3 →
 if s19 < (xN : Int) then (
 ∃ xBA : Addr, xB = some xBA ∧
 ((0 : Int) ≤ s19 ∧ s19 < (xN : Int)) ∧
 ∃ x_3 : Int, hat H3 (xBA.add (Int.toNat s19 * 1)) = some (.int .i64 x_3) ∧
 ∃ x_4 : Option Addr, hat H3 sA = some (.pointer x_4) ∧
 seg_Mem_Seg.C x_4 x_3 H3 (fun v_3 H4 => ∃ raGen : Int, ∃ raKind : Int, ∃ raN : Int, ∃ raCardsi0 : Int, ∃ raCardsi1 : Int, ∃ raCardsi2 : Int, ∃ raCardsi3 : Int, ∃ rb : Bool, v_3 = .tuple #[.agg #[.int .i64 raGen, .int .i64 raKind, .int .i64 raN, .int .i64 raCardsi0, .int .i64 raCardsi1, .int .i64 raCardsi2, .int .i64 raCardsi3], .bool rb] ∧ 
 ∀ (b : Nat) (H5 : Array Obj), b = H4.size → H5 = H4.push (.cells #[.int .i64 0, .int .i64 0, .int .i64 0, .int .i64 0, .int .i64 0, .int .i64 0, .int .i64 0] 74) →
 (CanPuts H5 (Addr.mk b 0 none) 0 7) ∧ ∀ H6 : Array Obj, H6 = hputs H5 (Addr.mk b 0 none) [.int .i64 raGen, .int .i64 raKind, .int .i64 raN, .int .i64 raCardsi0, .int .i64 raCardsi1, .int .i64 raCardsi2, .int .i64 raCardsi3] 0 →
 ∃ x_5 : Int, hat H6 ((Addr.mk b 0 none).add 2) = some (.int .i64 x_5) ∧
 (I19 (IntKind.wrap .i64 (sum + x_5)) (IntKind.wrap .i64 (s19 + 1)) H6 ∧ m19 (IntKind.wrap .i64 (sum + x_5)) (IntKind.wrap .i64 (s19 + 1)) H6 < m19 sum s19 H3)))
 else
 R (.int .i64 sum) H3))
namespace space_Space_Words
set_option maxRecDepth 100000 in
theorem link {s : Option Addr} {gensB : Option Addr} {gensN : Nat} {gensC : Nat} {H : Array Obj} {R : Value → Array Obj → Prop} (h : pt s gensB gensN gensC H R) : C s gensB gensN gensC H R := by
 refine S_enter (fn := Tryz.f8) (c := kk0) 38 Tryz.func8 (by kernel_rfl) (by kernel_rfl) (Nat.le_of_ble_eq_true (by kernel_rfl)) ?_
 intro w0 Q hQ
 unfold pt at h
 refine S_sub [(0, .pointer s), (1, .slice gensB gensN gensC)] (sb (by kernel_rfl)) ?_
 refine T_sr 0 kk1 kk2 ?_
 refine N_run 1 [(0, .pointer s), (1, .slice gensB gensN gensC)] (fun _=>by kernel_rfl) ?_
 refine T_e ?_
 refine S_seq kk3 kk4 (by kernel_rfl) ?_
 refine T_sr 1 kk5 kk6 ?_
 refine N_run 1 [(0, .pointer s), (1, .slice gensB gensN gensC), (10, .pointer s)] (fun _=>by kernel_rfl) ?_
 refine N_call (some 11) 26 #[.pointer s] (fun _=>by kernel_rfl) h ?_; clear h
 rintro v H1 ⟨x, rfl, h⟩
 refine ⟨[(0, .pointer s), (1, .slice gensB gensN gensC), (11, .bool x)], ps (by kernel_rfl), ?_⟩
 refine T_e ?_
 by_cases c1 : x = true
 ·rw [if_pos c1] at h
  have b2 : x = true := c1
  refine S_env [(0, .pointer s), (1, .slice gensB gensN gensC), (11, .bool true)] (by simp only [b2, Bool.not_true, Bool.not_false]) ?_
  clear b2
  refine S_condT (.tmp 11) kk7 kk8 (by kernel_rfl) (by kernel_rfl) ?_
  refine T_sr 2 kk9 kk10 ?_
  refine N_run 1 [(4, .int .i64 0)] (fun _=>by kernel_rfl) ?_
  refine T_e ?_
  refine S_ret (by kernel_rfl) ?_
  show At _ _ _ _ _ (Q .ret)
  exact S_done (fn := Tryz.f8) [.int .i64 0] hQ (show ResOK _ _ _ [.tmp 4] _ from .tmp (by kernel_rfl) (.nil)) h
 ·rw [if_neg c1] at h
  have b2 : x = false := eq_false_of_ne_true c1
  refine S_env [(0, .pointer s), (1, .slice gensB gensN gensC), (11, .bool false)] (by simp only [b2, Bool.not_true, Bool.not_false]) ?_
  clear b2
  refine S_condF (.tmp 11) kk7 kk8 (by kernel_rfl) (by kernel_rfl) ?_
  refine S_skip (by kernel_rfl) ?_
  refine S_then ?_
  refine T_sr 3 kk11 kk12 ?_
  refine N_run 1 [(0, .pointer s), (1, .slice gensB gensN gensC), (5, .int .i64 0)] (fun _=>by kernel_rfl) ?_
  refine T_e ?_
  refine S_seq kk13 kk14 (by kernel_rfl) ?_
  refine T_sr 4 kk15 kk16 ?_
  refine N_run 1 [(0, .pointer s), (1, .slice gensB gensN gensC), (5, .int .i64 0), (12, .pointer s)] (fun _=>by kernel_rfl) ?_
  obtain ⟨sA, rfl, h⟩ := h
  refine N_run 2 [(0, .pointer (some sA)), (1, .slice gensB gensN gensC), (5, .int .i64 0), (14, .pointer (some sA))] (fun _=>by kernel_rfl) ?_
  obtain ⟨x_2, q3, h⟩ := h
  refine N_val (some 15) (loadN 68 (.pointer (some sA))) (.pointer x_2) (fun _=>by kernel_rfl) (loadN_run (loadOK_one (fun _=>by kernel_rfl) q3)) [(0, .pointer (some sA)), (1, .slice gensB gensN gensC), (5, .int .i64 0), (15, .pointer x_2)] (ps (by kernel_rfl)) ?_
  refine N_run 1 [(0, .pointer (some sA)), (5, .int .i64 0), (15, .pointer x_2), (16, .slice gensB gensN gensC)] (fun _=>by kernel_rfl) ?_
  refine N_call (some 17) 27 #[.pointer x_2, .slice gensB gensN gensC] (fun _=>by kernel_rfl) h ?_; clear h
  rintro v_2 H2 ⟨xB, xN, xC, rfl, h⟩
  refine ⟨[(0, .pointer (some sA)), (5, .int .i64 0), (17, .slice xB xN xC)], ps (by kernel_rfl), ?_⟩
  refine N_run 2 [(0, .pointer (some sA)), (5, .int .i64 0), (17, .slice xB xN xC), (18, .int .i64 (xN : Int)), (19, .int .i64 0)] (fun _=>by kernel_rfl) ?_
  refine T_e ?_
  refine S_block 0 kk17 (by kernel_rfl) ?_
  obtain ⟨I19, m19, i4, i5⟩ := h
  refine S_loop (x := kk18) (σ := Int × Int) (fun s_ => [(0, .pointer (some sA)), (5, .int .i64 s_.1), (17, .slice xB xN xC), (18, .int .i64 (xN : Int)), (19, .int .i64 s_.2)]) (fun s_ H => I19 s_.1 s_.2 H) (fun s_ H => m19 s_.1 s_.2 H) ((0, 0) : Int × Int) (by kernel_rfl) i4 (sb (by kernel_rfl)) ?_
  rintro ⟨sum, s19⟩ H3 i6
  have h := i5 sum s19 H3 i6
  refine S_sub [(0, .pointer (some sA)), (5, .int .i64 sum), (17, .slice xB xN xC), (18, .int .i64 (xN : Int)), (19, .int .i64 s19)] (sb (by kernel_rfl)) ?_
  refine T_sr 5 kk19 kk20 ?_
  refine N_run 1 [(0, .pointer (some sA)), (5, .int .i64 sum), (17, .slice xB xN xC), (18, .int .i64 (xN : Int)), (19, .int .i64 s19), (20, .bool (decide (s19 < (xN : Int))))] (fun _=>by kernel_rfl) ?_
  refine T_e ?_
  refine S_seq kk21 kk22 (by kernel_rfl) ?_
  by_cases c7 : s19 < (xN : Int)
  ·rw [if_pos c7] at h
   have b8 : (decide (s19 < (xN : Int))) = true := decide_eq_true c7
   refine S_env [(0, .pointer (some sA)), (5, .int .i64 sum), (17, .slice xB xN xC), (18, .int .i64 (xN : Int)), (19, .int .i64 s19), (20, .bool true)] (by simp only [b8, Bool.not_true, Bool.not_false]) ?_
   clear b8
   refine S_condT (.tmp 20) kk23 kk24 (by kernel_rfl) (by kernel_rfl) ?_
   refine S_skip (by kernel_rfl) ?_
   refine S_then ?_
   refine S_seq kk25 kk26 (by kernel_rfl) ?_
   refine S_block 1 kk27 (by kernel_rfl) ?_
   refine T_sr 6 kk28 kk29 ?_
   refine N_sub [(0, .pointer (some sA)), (5, .int .i64 sum), (17, .slice xB xN xC), (18, .int .i64 (xN : Int)), (19, .int .i64 s19)] (sb (by kernel_rfl)) ?_
   obtain ⟨xBA, rfl, h⟩ := h
   obtain ⟨q9, h⟩ := h
   refine N_val (some 21) (indexAtN 66 (.slice (some xBA) xN xC) (.int .i64 s19)) (.pointer (some (xBA.add (Int.toNat s19 * 1)))) (fun _=>by kernel_rfl) (fun w _ => indexAt_run (P := Tryz.prog) (t := 66) (elem := 3) (sz := 1) (a := xBA) (len := xN) (cap := xC) (k := .i64) (i := s19) Tryz.underlying66 (fun _=>by kernel_rfl) q9.1 q9.2 w) [(0, .pointer (some sA)), (5, .int .i64 sum), (17, .slice (some xBA) xN xC), (18, .int .i64 (xN : Int)), (19, .int .i64 s19), (21, .pointer (some (xBA.add (Int.toNat s19 * 1))))] (ps (by kernel_rfl)) ?_
   obtain ⟨x_3, q10, h⟩ := h
   refine N_val (some 22) (loadN 3 (.pointer (some (xBA.add (Int.toNat s19 * 1))))) (.int .i64 x_3) (fun _=>by kernel_rfl) (loadN_run (loadOK_one (fun _=>by kernel_rfl) q10)) [(0, .pointer (some sA)), (5, .int .i64 sum), (17, .slice (some xBA) xN xC), (18, .int .i64 (xN : Int)), (19, .int .i64 s19), (22, .int .i64 x_3)] (ps (by kernel_rfl)) ?_
   refine N_run 1 [(0, .pointer (some sA)), (5, .int .i64 sum), (7, .int .i64 x_3), (17, .slice (some xBA) xN xC), (18, .int .i64 (xN : Int)), (19, .int .i64 s19)] (fun _=>by kernel_rfl) ?_
   refine T_e ?_
   refine T_sr 7 kk30 kk31 ?_
   refine N_run 3 [(0, .pointer (some sA)), (5, .int .i64 sum), (7, .int .i64 x_3), (17, .slice (some xBA) xN xC), (18, .int .i64 (xN : Int)), (19, .int .i64 s19), (26, .pointer (some sA))] (fun _=>by kernel_rfl) ?_
   obtain ⟨x_4, q11, h⟩ := h
   refine N_val (some 27) (loadN 68 (.pointer (some sA))) (.pointer x_4) (fun _=>by kernel_rfl) (loadN_run (loadOK_one (fun _=>by kernel_rfl) q11)) [(0, .pointer (some sA)), (5, .int .i64 sum), (7, .int .i64 x_3), (17, .slice (some xBA) xN xC), (18, .int .i64 (xN : Int)), (19, .int .i64 s19), (27, .pointer x_4)] (ps (by kernel_rfl)) ?_
   refine N_run 1 [(0, .pointer (some sA)), (5, .int .i64 sum), (17, .slice (some xBA) xN xC), (18, .int .i64 (xN : Int)), (19, .int .i64 s19), (27, .pointer x_4), (28, .int .i64 x_3)] (fun _=>by kernel_rfl) ?_
   refine N_call (some 29) 28 #[.pointer x_4, .int .i64 x_3] (fun _=>by kernel_rfl) h ?_; clear h
   rintro v_3 H4 ⟨raGen, raKind, raN, raCardsi0, raCardsi1, raCardsi2, raCardsi3, rb, rfl, h⟩
   refine ⟨[(0, .pointer (some sA)), (5, .int .i64 sum), (17, .slice (some xBA) xN xC), (18, .int .i64 (xN : Int)), (19, .int .i64 s19), (29, .tuple #[.agg #[.int .i64 raGen, .int .i64 raKind, .int .i64 raN, .int .i64 raCardsi0, .int .i64 raCardsi1, .int .i64 raCardsi2, .int .i64 raCardsi3], .bool rb])], ps (by kernel_rfl), ?_⟩
   refine N_run 3 [(0, .pointer (some sA)), (5, .int .i64 sum), (17, .slice (some xBA) xN xC), (18, .int .i64 (xN : Int)), (19, .int .i64 s19), (30, .agg #[.int .i64 raGen, .int .i64 raKind, .int .i64 raN, .int .i64 raCardsi0, .int .i64 raCardsi1, .int .i64 raCardsi2, .int .i64 raCardsi3]), (31, .bool rb)] (fun _=>by kernel_rfl) ?_
   refine N_new (some 8) (fun b => .pointer (some (Addr.mk b 0 none))) (.cells #[.int .i64 0, .int .i64 0, .int .i64 0, .int .i64 0, .int .i64 0, .int .i64 0, .int .i64 0] 74) (fun _=>by kernel_rfl) ?_
   intro b H5 e12 e13
   replace h := h b H5 e12 e13
   refine ⟨[(0, .pointer (some sA)), (5, .int .i64 sum), (8, .pointer (some (Addr.mk b 0 none))), (17, .slice (some xBA) xN xC), (18, .int .i64 (xN : Int)), (19, .int .i64 s19), (30, .agg #[.int .i64 raGen, .int .i64 raKind, .int .i64 raN, .int .i64 raCardsi0, .int .i64 raCardsi1, .int .i64 raCardsi2, .int .i64 raCardsi3]), (31, .bool rb)], ps (by kernel_rfl), ?_⟩
   obtain ⟨q15, h⟩ := h
   refine N_skipop none (storeN 74 (.pointer (some (Addr.mk b 0 none))) (.agg #[.int .i64 raGen, .int .i64 raKind, .int .i64 raN, .int .i64 raCardsi0, .int .i64 raCardsi1, .int .i64 raCardsi2, .int .i64 raCardsi3])) (fun Hz => Hz = hputs H5 (Addr.mk b 0 none) [.int .i64 raGen, .int .i64 raKind, .int .i64 raN, .int .i64 raCardsi0, .int .i64 raCardsi1, .int .i64 raCardsi2, .int .i64 raCardsi3] 0) (fun _=>by kernel_rfl) (ss_store [.int .i64 raGen, .int .i64 raKind, .int .i64 raN, .int .i64 raCardsi0, .int .i64 raCardsi1, .int .i64 raCardsi2, .int .i64 raCardsi3] 7 (by kernel_rfl) (by kernel_rfl) (fun _=>by kernel_rfl) (by kernel_rfl) q15) ?_
   intro H6 e14
   replace h := h H6 e14
   refine ⟨[(0, .pointer (some sA)), (5, .int .i64 sum), (8, .pointer (some (Addr.mk b 0 none))), (17, .slice (some xBA) xN xC), (18, .int .i64 (xN : Int)), (19, .int .i64 s19), (31, .bool rb)], ps (by kernel_rfl), ?_⟩
   refine N_run 1 [(0, .pointer (some sA)), (5, .int .i64 sum), (8, .pointer (some (Addr.mk b 0 none))), (17, .slice (some xBA) xN xC), (18, .int .i64 (xN : Int)), (19, .int .i64 s19)] (fun _=>by kernel_rfl) ?_
   refine T_e ?_
   refine S_region 8 (Code.ops kk31) (by kernel_rfl) ?_
   refine N_run 2 [(0, .pointer (some sA)), (17, .slice (some xBA) xN xC), (18, .int .i64 (xN : Int)), (19, .int .i64 s19), (32, .int .i64 sum), (33, .pointer (some ((Addr.mk b 0 none).add 2)))] (fun _=>by kernel_rfl) ?_
   obtain ⟨x_5, q16, h⟩ := h
   refine N_val (some 34) (loadN 3 (.pointer (some ((Addr.mk b 0 none).add 2)))) (.int .i64 x_5) (fun _=>by kernel_rfl) (loadN_run (loadOK_one (fun _=>by kernel_rfl) q16)) [(0, .pointer (some sA)), (17, .slice (some xBA) xN xC), (18, .int .i64 (xN : Int)), (19, .int .i64 s19), (32, .int .i64 sum), (34, .int .i64 x_5)] (ps (by kernel_rfl)) ?_
   refine N_run 2 [(0, .pointer (some sA)), (5, .int .i64 (IntKind.wrap .i64 (sum + x_5))), (17, .slice (some xBA) xN xC), (18, .int .i64 (xN : Int)), (19, .int .i64 s19)] (fun _=>by kernel_rfl) ?_
   refine N_end (by kernel_rfl) ?_
   refine S_blockEnd ?_
   refine S_then ?_
   refine S_region 9 (Code.ops kk26) (by kernel_rfl) ?_
   refine N_run 2 [(0, .pointer (some sA)), (5, .int .i64 (IntKind.wrap .i64 (sum + x_5))), (17, .slice (some xBA) xN xC), (18, .int .i64 (xN : Int)), (19, .int .i64 (IntKind.wrap .i64 (s19 + 1)))] (fun _=>by kernel_rfl) ?_
   refine T_e ?_
   exact S_round (((IntKind.wrap .i64 (sum + x_5)), (IntKind.wrap .i64 (s19 + 1))) : Int × Int) (sb (by kernel_rfl)) h
  ·rw [if_neg c7] at h
   have b8 : (decide (s19 < (xN : Int))) = false := decide_eq_false c7
   refine S_env [(0, .pointer (some sA)), (5, .int .i64 sum), (17, .slice xB xN xC), (18, .int .i64 (xN : Int)), (19, .int .i64 s19), (20, .bool false)] (by simp only [b8, Bool.not_true, Bool.not_false]) ?_
   clear b8
   refine S_condF (.tmp 20) kk23 kk24 (by kernel_rfl) (by kernel_rfl) ?_
   refine S_exit 0 (by kernel_rfl) ?_
   refine S_exitThen ?_
   refine S_exitThen ?_
   refine S_exitHere ?_
   refine S_then ?_
   refine T_sr 10 kk32 kk33 ?_
   refine N_run 2 [(4, .int .i64 sum)] (fun _=>by kernel_rfl) ?_
   refine T_e ?_
   refine S_ret (by kernel_rfl) ?_
   show At _ _ _ _ _ (Q .ret)
   exact S_done (fn := Tryz.f8) [.int .i64 sum] hQ (show ResOK _ _ _ [.tmp 4] _ from .tmp (by kernel_rfl) (.nil)) h
end space_Space_Words

end Go.Proofs.YthlohokmnajpoaaGreat
