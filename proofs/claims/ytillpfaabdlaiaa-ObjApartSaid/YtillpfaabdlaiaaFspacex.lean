/-
 Written by a program of mine (gen.py): for functions of this translation a predicate transformer over heaps (.pt), and the proof that it is sound for the call (.link).
-/
import Derived.Test.YtillpfaabdlaiaaFnsC
set_option linter.unusedSimpArgs false
set_option linter.unusedVariables false
set_option maxHeartbeats 1000000
noncomputable section
namespace Go.Proofs.Ytillpfaabdlaiaa
open Go
/-! (*moraine/space.Space).Words -/
namespace space_Space_Words
def kk0 := Func.code Try.f17
def kk1 := Code.fa kk0
def kk2 := Code.fb kk0
def kk3 := Code.fa kk2
def kk4 := Code.fb kk2
def kk5 := Code.fa kk3
def kk6 := Code.fb kk3
def kk7 := Code.fa kk6
def kk8 := Code.fb kk6
def kk9 := Code.fa kk7
def kk10 := Code.fb kk7
def kk11 := Code.fa kk4
def kk12 := Code.fb kk4
def kk13 := Code.fa kk12
def kk14 := Code.fb kk12
def kk15 := Code.fa kk13
def kk16 := Code.fb kk13
def kk17 := Code.fa kk16
def kk18 := Code.fa kk17
def kk19 := Code.fa kk18
def kk20 := Code.fb kk18
def kk21 := Code.fa kk20
def kk22 := Code.fb kk20
def kk23 := Code.fa kk21
def kk24 := Code.fb kk21
def kk25 := Code.fa kk22
def kk26 := Code.fb kk22
def kk27 := Code.fa kk25
def kk28 := Code.fa kk27
def kk29 := Code.fb kk27
def kk30 := Code.fa kk29
def kk31 := Code.fb kk29
def kk32 := Code.fa kk14
def kk33 := Code.fb kk14
end space_Space_Words
def space_Space_Words.pt (s : Option Addr) (gensB : Option Addr) (gensN : Nat) (gensC : Nat) (H : Array Obj) (R : Value → Array Obj → Prop) : Prop :=
 space_Space_none.C s H (fun v H1 => ∃ x : Bool, v = .bool x ∧ 
 if x = true then (
 R (.int .i64 0) H1)
 else
 ∃ sA : Addr, s = some sA ∧
 ∃ r : Option Addr, hat H1 sA = some (.pointer r) ∧
 seg_Mem_Taken.C r gensB gensN gensC H1 (fun z H2 => ∃ xB : Option Addr, ∃ xN : Nat, ∃ xC : Nat, z = .slice xB xN xC ∧ 
 ∃ (y : Int → Int → Array Obj → Prop) (m19 : Int → Int → Array Obj → Nat), y 0 0 H2 ∧ ∀ (d : Int) (s19 : Int) (H3 : Array Obj), y d s19 H3 →
 if s19 < (xN : Int) then (
 ∃ l : Addr, xB = some l ∧
 ((0 : Int) ≤ s19 ∧ s19 < (xN : Int)) ∧
 ∃ o : Int, hat H3 (l.add (Int.toNat s19 * 1)) = some (.int .i64 o) ∧
 ∃ u : Option Addr, hat H3 sA = some (.pointer u) ∧
 seg_Mem_Seg.C u o H3 (fun aa H4 => ∃ n : Int, ∃ m : Int, ∃ p : Int, ∃ f : Int, ∃ e : Int, ∃ g : Int, ∃ j : Int, ∃ rb : Bool, aa = .tuple #[.agg #[.int .i64 n, .int .i64 m, .int .i64 p, .int .i64 f, .int .i64 e, .int .i64 g, .int .i64 j], .bool rb] ∧ 
 ∀ (b : Nat) (H5 : Array Obj), b = H4.size → H5 = H4.push (.cells #[.int .i64 0, .int .i64 0, .int .i64 0, .int .i64 0, .int .i64 0, .int .i64 0, .int .i64 0] 83) →
 (CanPuts H5 (Addr.mk b 0 none) 0 7) ∧ ∀ H6 : Array Obj, H6 = hputs H5 (Addr.mk b 0 none) [.int .i64 n, .int .i64 m, .int .i64 p, .int .i64 f, .int .i64 e, .int .i64 g, .int .i64 j] 0 →
 ∃ q : Int, hat H6 ((Addr.mk b 0 none).add 2) = some (.int .i64 q) ∧
 (y (IntKind.wrap .i64 (d + q)) (IntKind.wrap .i64 (s19 + 1)) H6 ∧ m19 (IntKind.wrap .i64 (d + q)) (IntKind.wrap .i64 (s19 + 1)) H6 < m19 d s19 H3)))
 else
 R (.int .i64 d) H3))
namespace space_Space_Words
set_option maxRecDepth 100000 in
theorem link {s : Option Addr} {gensB : Option Addr} {gensN : Nat} {gensC : Nat} {H : Array Obj} {R : Value → Array Obj → Prop} (h : pt s gensB gensN gensC H R) : C s gensB gensN gensC H R := by
 refine S_enter (fn := Try.f17) (c := kk0) 38 Try.func17 (by kernel_rfl) (by kernel_rfl) (Nat.le_of_ble_eq_true (by kernel_rfl)) ?_
 intro w0 Q hQ
 unfold pt at h
 refine T_su [(0, vp s), (1, vs gensB gensN gensC)] ?_
 refine T_sr 0 kk1 kk2 ?_
 refine T_ne 1 [(0, vp s), (1, vs gensB gensN gensC)] ?_
 refine T_s kk3 kk4 ?_
 refine T_sr 1 kk5 kk6 ?_
 refine T_n 1 [(0, vp s), (1, vs gensB gensN gensC), (10, vp s)] ?_
 refine N_call (some 11) 37 #[vp s] (fun _=>by kernel_rfl) h ?_; clear h
 rintro v H1 ⟨x, rfl, h⟩
 refine ⟨[(0, vp s), (1, vs gensB gensN gensC), (11, .bool x)], pk, ?_⟩
 refine T_e ?_
 by_cases c1 : x = true
 ·rw [if_pos c1] at h
  have b2 : x = true := c1
  refine S_env [(0, vp s), (1, vs gensB gensN gensC), (11, .bool true)] (by simp only [b2, Bool.not_true, Bool.not_false]) ?_
  clear b2
  refine T_t 11 kk7 kk8 ?_
  refine T_sr 2 kk9 kk10 ?_
  refine T_ne 1 [(4, vi 0)] ?_
  refine S_ret (by kernel_rfl) ?_
  show At _ _ _ _ _ (Q .ret)
  exact S_done (fn := Try.f17) [vi 0] hQ (show ResOK _ _ _ [.tmp 4] _ from .tmp (by kernel_rfl) (.nil)) h
 ·rw [if_neg c1] at h
  have b2 : x = false := eq_false_of_ne_true c1
  refine S_env [(0, vp s), (1, vs gensB gensN gensC), (11, .bool false)] (by simp only [b2, Bool.not_true, Bool.not_false]) ?_
  clear b2
  refine T_f 11 kk7 kk8 ?_
  refine T_kt ?_
  refine T_sr 3 kk11 kk12 ?_
  refine T_ne 1 [(0, vp s), (1, vs gensB gensN gensC), (5, vi 0)] ?_
  refine T_s kk13 kk14 ?_
  refine T_sr 4 kk15 kk16 ?_
  refine T_n 1 [(0, vp s), (1, vs gensB gensN gensC), (5, vi 0), (12, vp s)] ?_
  obtain ⟨sA, rfl, h⟩ := h
  refine T_n 2 [(0, vp (some sA)), (1, vs gensB gensN gensC), (5, vi 0), (14, vp (some sA))] ?_
  obtain ⟨r, q3, h⟩ := h
  refine T_l (some 15) 86 q3 [(0, vp (some sA)), (1, vs gensB gensN gensC), (5, vi 0), (15, vp r)] ?_
  refine T_n 1 [(0, vp (some sA)), (5, vi 0), (15, vp r), (16, vs gensB gensN gensC)] ?_
  refine N_call (some 17) 38 #[vp r, vs gensB gensN gensC] (fun _=>by kernel_rfl) h ?_; clear h
  rintro z H2 ⟨xB, xN, xC, rfl, h⟩
  refine ⟨[(0, vp (some sA)), (5, vi 0), (17, vs xB xN xC)], pk, ?_⟩
  refine T_ne 2 [(0, vp (some sA)), (5, vi 0), (17, vs xB xN xC), (18, vi xN), (19, vi 0)] ?_
  refine T_b 0 kk17 ?_
  obtain ⟨y, m19, i4, i5⟩ := h
  refine S_loop (x := kk18) (σ := Int × Int) (fun s_ => [(0, vp (some sA)), (5, vi s_.1), (17, vs xB xN xC), (18, vi xN), (19, vi s_.2)]) (fun s_ H => y s_.1 s_.2 H) (fun s_ H => m19 s_.1 s_.2 H) ((0, 0) : Int × Int) (by kernel_rfl) i4 sk ?_
  rintro ⟨d, s19⟩ H3 i6
  have h := i5 d s19 H3 i6
  refine T_su [(0, vp (some sA)), (5, vi d), (17, vs xB xN xC), (18, vi xN), (19, vi s19)] ?_
  refine T_sr 5 kk19 kk20 ?_
  refine T_ne 1 [(0, vp (some sA)), (5, vi d), (17, vs xB xN xC), (18, vi xN), (19, vi s19), (20, .bool (decide (s19 < (xN : Int))))] ?_
  refine T_s kk21 kk22 ?_
  by_cases c7 : s19 < (xN : Int)
  ·rw [if_pos c7] at h
   have b8 : (decide (s19 < (xN : Int))) = true := decide_eq_true c7
   refine S_env [(0, vp (some sA)), (5, vi d), (17, vs xB xN xC), (18, vi xN), (19, vi s19), (20, .bool true)] (by simp only [b8, Bool.not_true, Bool.not_false]) ?_
   clear b8
   refine T_t 20 kk23 kk24 ?_
   refine T_kt ?_
   refine T_s kk25 kk26 ?_
   refine T_b 1 kk27 ?_
   refine T_sr 6 kk28 kk29 ?_
   refine T_nu [(0, vp (some sA)), (5, vi d), (17, vs xB xN xC), (18, vi xN), (19, vi s19)] ?_
   obtain ⟨l, rfl, h⟩ := h
   obtain ⟨q9, h⟩ := h
   refine T_ix (some 21) 90 3 1 l xN xC .i64 s19 Try.underlying90 q9.1 q9.2 [(0, vp (some sA)), (5, vi d), (17, vs (some l) xN xC), (18, vi xN), (19, vi s19), (21, vp (some (l.add (Int.toNat s19 * 1))))] ?_
   obtain ⟨o, q10, h⟩ := h
   refine T_l (some 22) 3 q10 [(0, vp (some sA)), (5, vi d), (17, vs (some l) xN xC), (18, vi xN), (19, vi s19), (22, vi o)] ?_
   refine T_ne 1 [(0, vp (some sA)), (5, vi d), (7, vi o), (17, vs (some l) xN xC), (18, vi xN), (19, vi s19)] ?_
   refine T_sr 7 kk30 kk31 ?_
   refine T_n 3 [(0, vp (some sA)), (5, vi d), (7, vi o), (17, vs (some l) xN xC), (18, vi xN), (19, vi s19), (26, vp (some sA))] ?_
   obtain ⟨u, q11, h⟩ := h
   refine T_l (some 27) 86 q11 [(0, vp (some sA)), (5, vi d), (7, vi o), (17, vs (some l) xN xC), (18, vi xN), (19, vi s19), (27, vp u)] ?_
   refine T_n 1 [(0, vp (some sA)), (5, vi d), (17, vs (some l) xN xC), (18, vi xN), (19, vi s19), (27, vp u), (28, vi o)] ?_
   refine N_call (some 29) 36 #[vp u, vi o] (fun _=>by kernel_rfl) h ?_; clear h
   rintro aa H4 ⟨n, m, p, f, e, g, j, rb, rfl, h⟩
   refine ⟨[(0, vp (some sA)), (5, vi d), (17, vs (some l) xN xC), (18, vi xN), (19, vi s19), (29, .tuple #[.agg #[vi n, vi m, vi p, vi f, vi e, vi g, vi j], .bool rb])], pk, ?_⟩
   refine T_n 3 [(0, vp (some sA)), (5, vi d), (17, vs (some l) xN xC), (18, vi xN), (19, vi s19), (30, .agg #[vi n, vi m, vi p, vi f, vi e, vi g, vi j]), (31, .bool rb)] ?_
   refine N_new (some 8) (fun b => vp (pa b)) (.cells #[vi 0, vi 0, vi 0, vi 0, vi 0, vi 0, vi 0] 83) (fun _=>by kernel_rfl) ?_
   intro b H5 e12 e13
   replace h := h b H5 e12 e13
   refine ⟨[(0, vp (some sA)), (5, vi d), (8, vp (pa b)), (17, vs (some l) xN xC), (18, vi xN), (19, vi s19), (30, .agg #[vi n, vi m, vi p, vi f, vi e, vi g, vi j]), (31, .bool rb)], pk, ?_⟩
   obtain ⟨q15, h⟩ := h
   refine N_skipop none (storeN 83 (vp (pa b)) (.agg #[vi n, vi m, vi p, vi f, vi e, vi g, vi j])) (fun Hz => Hz = hputs H5 (Addr.mk b 0 none) [vi n, vi m, vi p, vi f, vi e, vi g, vi j] 0) (fun _=>by kernel_rfl) (ss_store [vi n, vi m, vi p, vi f, vi e, vi g, vi j] 7 (by kernel_rfl) (by kernel_rfl) (fun _=>by kernel_rfl) (by kernel_rfl) q15) ?_
   intro H6 e14
   replace h := h H6 e14
   refine ⟨[(0, vp (some sA)), (5, vi d), (8, vp (pa b)), (17, vs (some l) xN xC), (18, vi xN), (19, vi s19), (31, .bool rb)], pk, ?_⟩
   refine T_ne 1 [(0, vp (some sA)), (5, vi d), (8, vp (pa b)), (17, vs (some l) xN xC), (18, vi xN), (19, vi s19)] ?_
   refine T_r 8 kk31 ?_
   refine T_n 2 [(0, vp (some sA)), (17, vs (some l) xN xC), (18, vi xN), (19, vi s19), (32, vi d), (33, vp (some ((Addr.mk b 0 none).add 2)))] ?_
   obtain ⟨q, q16, h⟩ := h
   refine T_l (some 34) 3 q16 [(0, vp (some sA)), (17, vs (some l) xN xC), (18, vi xN), (19, vi s19), (32, vi d), (34, vi q)] ?_
   refine T_n 2 [(0, vp (some sA)), (5, vi (IntKind.wrap .i64 (d + q))), (17, vs (some l) xN xC), (18, vi xN), (19, vi s19)] ?_
   refine N_end (by kernel_rfl) ?_
   refine S_blockEnd ?_
   refine S_then ?_
   refine T_r 9 kk26 ?_
   refine T_ne 2 [(0, vp (some sA)), (5, vi (IntKind.wrap .i64 (d + q))), (17, vs (some l) xN xC), (18, vi xN), (19, vi (IntKind.wrap .i64 (s19 + 1)))] ?_
   exact S_round (((IntKind.wrap .i64 (d + q)), (IntKind.wrap .i64 (s19 + 1))) : Int × Int) sk h
  ·rw [if_neg c7] at h
   have b8 : (decide (s19 < (xN : Int))) = false := decide_eq_false c7
   refine S_env [(0, vp (some sA)), (5, vi d), (17, vs xB xN xC), (18, vi xN), (19, vi s19), (20, .bool false)] (by simp only [b8, Bool.not_true, Bool.not_false]) ?_
   clear b8
   refine T_f 20 kk23 kk24 ?_
   refine S_exit 0 (by kernel_rfl) ?_
   refine S_exitThen ?_
   refine S_exitThen ?_
   refine S_exitHere ?_
   refine S_then ?_
   refine T_sr 10 kk32 kk33 ?_
   refine T_ne 2 [(4, vi d)] ?_
   refine S_ret (by kernel_rfl) ?_
   show At _ _ _ _ _ (Q .ret)
   exact S_done (fn := Try.f17) [vi d] hQ (show ResOK _ _ _ [.tmp 4] _ from .tmp (by kernel_rfl) (.nil)) h
end space_Space_Words

end Go.Proofs.Ytillpfaabdlaiaa
