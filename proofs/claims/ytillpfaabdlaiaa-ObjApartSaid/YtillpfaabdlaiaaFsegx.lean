/-
 Written by a program of mine (gen.py): for functions of this translation a predicate transformer over heaps (.pt), and the proof that it is sound for the call (.link).
-/
import Derived.Test.YtillpfaabdlaiaaFnsC
set_option linter.unusedSimpArgs false
set_option linter.unusedVariables false
set_option maxHeartbeats 1000000
noncomputable section
namespace Go.Proofs.Ytillpfaabdlaiaa
open Go
/-! (*moraine/seg.Mem).Taken -/
namespace seg_Mem_Taken
def kk0 := Func.code Try.f38
def kk1 := Code.fa kk0
def kk2 := Code.fb kk0
def kk3 := Code.fa kk2
def kk4 := Code.fb kk2
def kk5 := Code.fa kk3
def kk6 := Code.fb kk3
def kk7 := Code.fa kk6
def kk8 := Code.fb kk6
def kk9 := Code.fa kk7
def kk10 := Code.fb kk7
def kk11 := Code.fa kk4
def kk12 := Code.fb kk4
def kk13 := Code.fa kk12
def kk14 := Code.fb kk12
def kk15 := Code.fa kk13
def kk16 := Code.fb kk13
def kk17 := Code.fa kk16
def kk18 := Code.fa kk17
def kk19 := Code.fa kk18
def kk20 := Code.fb kk18
def kk21 := Code.fa kk20
def kk22 := Code.fb kk20
def kk23 := Code.fa kk21
def kk24 := Code.fb kk21
def kk25 := Code.fa kk22
def kk26 := Code.fb kk22
def kk27 := Code.fa kk25
def kk28 := Code.fa kk27
def kk29 := Code.fb kk27
def kk30 := Code.fa kk29
def kk31 := Code.fb kk29
def kk32 := Code.fa kk31
def kk33 := Code.fb kk31
def kk34 := Code.fa kk33
def kk35 := Code.fb kk33
def kk36 := Code.fa kk14
def kk37 := Code.fb kk14
def kk38 := Code.fa kk37
def kk39 := Code.fb kk37
end seg_Mem_Taken
def seg_Mem_Taken.pt (m : Option Addr) (gensB : Option Addr) (gensN : Nat) (gensC : Nat) (H : Array Obj) (R : Value → Array Obj → Prop) : Prop :=
 ∀ (b : Nat) (H1 : Array Obj), b = H.size → H1 = H.push (.cells #[.pointer m] 86) →
 ∃ x : Option Addr, hat H1 (Addr.mk b 0 none) = some (.pointer x) ∧
 onPtr x (
 R (.slice none 0 0) H1) (fun xA =>
 ∃ aa : Option Addr, hat H1 (Addr.mk b 0 none) = some (.pointer aa) ∧
 ∃ z : Addr, aa = some z ∧
 ∃ xB : Option Addr, ∃ xN : Nat, ∃ xC : Nat, hat H1 z = some (.slice xB xN xC) ∧
 ∃ (p : (Option Addr) → Nat → Nat → Int → Array Obj → Prop) (m19 : (Option Addr) → Nat → Nat → Int → Array Obj → Nat), p none 0 0 0 H1 ∧ ∀ (lB : Option Addr) (lN : Nat) (lC : Nat) (s15 : Int) (H2 : Array Obj), p lB lN lC s15 H2 →
 if s15 < (xN : Int) then (
 ∃ y : Option Addr, hat H2 (Addr.mk b 0 none) = some (.pointer y) ∧
 ∃ ab : Addr, y = some ab ∧
 ∃ n : Option Addr, ∃ f : Nat, ∃ j : Nat, hat H2 ab = some (.slice n f j) ∧
 ∃ d : Addr, n = some d ∧
 ((0 : Int) ≤ s15 ∧ s15 < (f : Int)) ∧
 ∃ l : Int, hat H2 ((d.add (Int.toNat s15 * 72)).add 7) = some (.int .i64 l) ∧
 if l > 0 then (
 if (gensN : Int) = 0 then (
 ∀ (s : Nat) (H3 : Array Obj), s = H2.size → H3 = H2.push (.cells #[.int .i64 s15] 3) →
 appendK 1 3 8 [.int .i64 0] lB lN lC (some (Addr.mk s 0 none)) 1 H3 (fun ap q H4 =>
 (p ap (lN + 1) q (IntKind.wrap .i64 (s15 + 1)) H4 ∧ m19 ap (lN + 1) q (IntKind.wrap .i64 (s15 + 1)) H4 < m19 lB lN lC s15 H2)))
 else
 ∃ r : Int, hat H2 (d.add (Int.toNat s15 * 72)) = some (.int .i64 r) ∧
 slices_Contains_int_int.C gensB gensN gensC r H2 (fun v H5 => ∃ o : Bool, v = .bool o ∧ 
 if o = true then (
 ∀ (u : Nat) (H6 : Array Obj), u = H5.size → H6 = H5.push (.cells #[.int .i64 s15] 3) →
 appendK 1 3 8 [.int .i64 0] lB lN lC (some (Addr.mk u 0 none)) 1 H6 (fun g e H7 =>
 (p g (lN + 1) e (IntKind.wrap .i64 (s15 + 1)) H7 ∧ m19 g (lN + 1) e (IntKind.wrap .i64 (s15 + 1)) H7 < m19 lB lN lC s15 H2)))
 else
 (p lB lN lC (IntKind.wrap .i64 (s15 + 1)) H5 ∧ m19 lB lN lC (IntKind.wrap .i64 (s15 + 1)) H5 < m19 lB lN lC s15 H2)))
 else
 (p lB lN lC (IntKind.wrap .i64 (s15 + 1)) H2 ∧ m19 lB lN lC (IntKind.wrap .i64 (s15 + 1)) H2 < m19 lB lN lC s15 H2))
 else
 slices_SortFunc_int_int.C lB lN lC (.func (.func 59) #[] #[.pointer (some (Addr.mk b 0 none))]) H2 (fun _ H8 =>
 R (.slice lB lN lC) H8))
namespace seg_Mem_Taken
set_option maxRecDepth 100000 in
theorem link {m : Option Addr} {gensB : Option Addr} {gensN : Nat} {gensC : Nat} {H : Array Obj} {R : Value → Array Obj → Prop} (h : pt m gensB gensN gensC H R) : C m gensB gensN gensC H R := by
 refine S_enter (fn := Try.f38) (c := kk0) 52 Try.func38 (by kernel_rfl) (by kernel_rfl) (Nat.le_of_ble_eq_true (by kernel_rfl)) ?_
 intro w0 Q hQ
 unfold pt at h
 refine T_su [(0, vp m), (1, vs gensB gensN gensC)] ?_
 refine T_sr 0 kk1 kk2 ?_
 refine N_new (some 2) (fun b => vp (pa b)) (.cells #[vp m] 86) (fun _=>by kernel_rfl) ?_
 intro b H1 e1 e2
 replace h := h b H1 e1 e2
 refine ⟨[(1, vs gensB gensN gensC), (2, vp (pa b))], pk, ?_⟩
 refine T_ne 1 [(1, vs gensB gensN gensC), (2, vp (pa b))] ?_
 refine T_s kk3 kk4 ?_
 refine T_sr 1 kk5 kk6 ?_
 obtain ⟨x, q3, h⟩ := h
 refine T_l (some 8) 86 q3 [(1, vs gensB gensN gensC), (2, vp (pa b)), (8, vp x)] ?_
 rcases x with _ | xA
 ·rw [onPtr_none] at h
  refine T_ne 1 [(1, vs gensB gensN gensC), (2, vp (pa b)), (9, .bool true)] ?_
  refine T_t 9 kk7 kk8 ?_
  refine T_sr 2 kk9 kk10 ?_
  refine T_ne 1 [(4, vs none 0 0)] ?_
  refine S_ret (by kernel_rfl) ?_
  show At _ _ _ _ _ (Q .ret)
  exact S_done (fn := Try.f38) [vs none 0 0] hQ (show ResOK _ _ _ [.tmp 4] _ from .tmp (by kernel_rfl) (.nil)) h
 ·rw [onPtr_some] at h
  refine T_ne 1 [(1, vs gensB gensN gensC), (2, vp (pa b)), (9, .bool false)] ?_
  refine T_f 9 kk7 kk8 ?_
  refine T_kt ?_
  refine T_sr 3 kk11 kk12 ?_
  refine T_ne 1 [(1, vs gensB gensN gensC), (2, vp (pa b)), (5, vs none 0 0)] ?_
  refine T_s kk13 kk14 ?_
  refine T_sr 4 kk15 kk16 ?_
  obtain ⟨aa, q4, h⟩ := h
  refine T_l (some 10) 86 q4 [(1, vs gensB gensN gensC), (2, vp (pa b)), (5, vs none 0 0), (10, vp aa)] ?_
  obtain ⟨z, rfl, h⟩ := h
  refine T_n 2 [(1, vs gensB gensN gensC), (2, vp (pa b)), (5, vs none 0 0), (12, vp (some z))] ?_
  obtain ⟨xB, xN, xC, q5, h⟩ := h
  refine T_l (some 13) 118 q5 [(1, vs gensB gensN gensC), (2, vp (pa b)), (5, vs none 0 0), (13, vs xB xN xC)] ?_
  refine T_ne 2 [(1, vs gensB gensN gensC), (2, vp (pa b)), (5, vs none 0 0), (14, vi xN), (15, vi 0)] ?_
  refine T_b 0 kk17 ?_
  obtain ⟨p, m19, i6, i7⟩ := h
  refine S_loop (x := kk18) (σ := (Option Addr) × Nat × Nat × Int) (fun s_ => [(1, vs gensB gensN gensC), (2, vp (pa b)), (5, vs s_.1 s_.2.1 s_.2.2.1), (14, vi xN), (15, vi s_.2.2.2)]) (fun s_ H => p s_.1 s_.2.1 s_.2.2.1 s_.2.2.2 H) (fun s_ H => m19 s_.1 s_.2.1 s_.2.2.1 s_.2.2.2 H) ((none, 0, 0, 0) : (Option Addr) × Nat × Nat × Int) (by kernel_rfl) i6 sk ?_
  rintro ⟨lB, lN, lC, s15⟩ H2 i8
  have h := i7 lB lN lC s15 H2 i8
  refine T_su [(1, vs gensB gensN gensC), (2, vp (pa b)), (5, vs lB lN lC), (14, vi xN), (15, vi s15)] ?_
  refine T_sr 5 kk19 kk20 ?_
  refine T_ne 1 [(1, vs gensB gensN gensC), (2, vp (pa b)), (5, vs lB lN lC), (14, vi xN), (15, vi s15), (16, .bool (decide (s15 < (xN : Int))))] ?_
  refine T_s kk21 kk22 ?_
  by_cases c9 : s15 < (xN : Int)
  ·rw [if_pos c9] at h
   have b10 : (decide (s15 < (xN : Int))) = true := decide_eq_true c9
   refine S_env [(1, vs gensB gensN gensC), (2, vp (pa b)), (5, vs lB lN lC), (14, vi xN), (15, vi s15), (16, .bool true)] (by simp only [b10, Bool.not_true, Bool.not_false]) ?_
   clear b10
   refine T_t 16 kk23 kk24 ?_
   refine T_kt ?_
   refine T_s kk25 kk26 ?_
   refine T_b 1 kk27 ?_
   refine T_sr 6 kk28 kk29 ?_
   refine T_ne 2 [(1, vs gensB gensN gensC), (2, vp (pa b)), (5, vs lB lN lC), (6, vi s15), (14, vi xN), (15, vi s15)] ?_
   refine T_sr 7 kk30 kk31 ?_
   obtain ⟨y, q11, h⟩ := h
   refine T_l (some 18) 86 q11 [(1, vs gensB gensN gensC), (2, vp (pa b)), (5, vs lB lN lC), (6, vi s15), (14, vi xN), (15, vi s15), (18, vp y)] ?_
   obtain ⟨ab, rfl, h⟩ := h
   refine T_n 2 [(1, vs gensB gensN gensC), (2, vp (pa b)), (5, vs lB lN lC), (6, vi s15), (14, vi xN), (15, vi s15), (20, vp (some ab))] ?_
   obtain ⟨n, f, j, q12, h⟩ := h
   refine T_l (some 21) 118 q12 [(1, vs gensB gensN gensC), (2, vp (pa b)), (5, vs lB lN lC), (6, vi s15), (14, vi xN), (15, vi s15), (21, vs n f j)] ?_
   refine T_n 1 [(1, vs gensB gensN gensC), (2, vp (pa b)), (5, vs lB lN lC), (6, vi s15), (14, vi xN), (15, vi s15), (21, vs n f j), (22, vi s15)] ?_
   obtain ⟨d, rfl, h⟩ := h
   obtain ⟨q13, h⟩ := h
   refine T_ix (some 23) 118 117 72 d f j .i64 s15 Try.underlying118 q13.1 q13.2 [(1, vs gensB gensN gensC), (2, vp (pa b)), (5, vs lB lN lC), (6, vi s15), (14, vi xN), (15, vi s15), (23, vp (some (d.add (Int.toNat s15 * 72))))] ?_
   refine T_ne 1 [(1, vs gensB gensN gensC), (2, vp (pa b)), (5, vs lB lN lC), (6, vi s15), (7, vp (some (d.add (Int.toNat s15 * 72)))), (14, vi xN), (15, vi s15)] ?_
   refine T_sr 8 kk32 kk33 ?_
   refine T_n 3 [(1, vs gensB gensN gensC), (2, vp (pa b)), (5, vs lB lN lC), (6, vi s15), (7, vp (some (d.add (Int.toNat s15 * 72)))), (14, vi xN), (15, vi s15), (26, vp (some ((d.add (Int.toNat s15 * 72)).add 7)))] ?_
   obtain ⟨l, q14, h⟩ := h
   refine T_l (some 27) 3 q14 [(1, vs gensB gensN gensC), (2, vp (pa b)), (5, vs lB lN lC), (6, vi s15), (7, vp (some (d.add (Int.toNat s15 * 72)))), (14, vi xN), (15, vi s15), (27, vi l)] ?_
   refine T_n 2 [(1, vs gensB gensN gensC), (2, vp (pa b)), (5, vs lB lN lC), (6, vi s15), (7, vp (some (d.add (Int.toNat s15 * 72)))), (14, vi xN), (15, vi s15), (29, .bool (decide (l > 0)))] ?_
   by_cases c15 : l > 0
   ·rw [if_pos c15] at h
    have b16 : (decide (l > 0)) = true := decide_eq_true c15
    refine N_env [(1, vs gensB gensN gensC), (2, vp (pa b)), (5, vs lB lN lC), (6, vi s15), (7, vp (some (d.add (Int.toNat s15 * 72)))), (14, vi xN), (15, vi s15), (29, .bool true)] (by simp only [b16, Bool.not_true, Bool.not_false]) ?_
    clear b16
    refine T_n 4 [(1, vs gensB gensN gensC), (2, vp (pa b)), (5, vs lB lN lC), (6, vi s15), (7, vp (some (d.add (Int.toNat s15 * 72)))), (14, vi xN), (15, vi s15), (29, .bool true), (33, .bool ((gensN : Int) == 0))] ?_
    by_cases c17 : (gensN : Int) = 0
    ·rw [if_pos c17] at h
     have b18 : ((gensN : Int) == 0) = true := beq_iff_eq.mpr c17
     refine N_env [(1, vs gensB gensN gensC), (2, vp (pa b)), (5, vs lB lN lC), (6, vi s15), (7, vp (some (d.add (Int.toNat s15 * 72)))), (14, vi xN), (15, vi s15), (29, .bool true), (33, .bool true)] (by simp only [b18, Bool.not_true, Bool.not_false]) ?_
     clear b18
     refine T_ne 9 [(1, vs gensB gensN gensC), (2, vp (pa b)), (5, vs lB lN lC), (6, vi s15), (14, vi xN), (15, vi s15), (42, .bool true)] ?_
     refine T_t 42 kk34 kk35 ?_
     refine T_r 9 kk34 ?_
     refine T_n 2 [(1, vs gensB gensN gensC), (2, vp (pa b)), (14, vi xN), (15, vi s15), (43, vs lB lN lC), (44, vi s15)] ?_
     refine N_new (some 45) (fun b => vs (pa b) 1 1) (.cells #[vi s15] 3) (fun _=>by kernel_rfl) ?_
     intro s H3 e19 e20
     replace h := h s H3 e19 e20
     refine ⟨[(1, vs gensB gensN gensC), (2, vp (pa b)), (14, vi xN), (15, vi s15), (43, vs lB lN lC), (45, vs (pa s) 1 1)], pk, ?_⟩
     refine N_op (some 46) (appendN #[90, 90] 90 #[vs lB lN lC, vs (pa s) 1 1]) _ (fun _=>by kernel_rfl) (ss_append (T := 3) (sz := 1) (bytes := 8) (zero := (vi 0 : Value)) Try.underlying90 Try.underlying90 rfl (show Try.prog.info? 3 = some Try.t3 from by kernel_rfl) (by kernel_rfl) (by kernel_rfl) (by decide) (by kernel_rfl) (by first | exact h | (simpa only [Value.cells, List.toList_toArray] using h))) ?_; clear h
     rintro _ H4 ⟨ap, q, rfl, h⟩
     refine ⟨[(1, vs gensB gensN gensC), (2, vp (pa b)), (14, vi xN), (15, vi s15), (46, vs ap (lN + 1) q)], pk, ?_⟩
     refine T_n 1 [(1, vs gensB gensN gensC), (2, vp (pa b)), (5, vs ap (lN + 1) q), (14, vi xN), (15, vi s15)] ?_
     refine N_end (by kernel_rfl) ?_
     refine S_blockEnd ?_
     refine S_then ?_
     refine T_r 10 kk26 ?_
     refine T_ne 2 [(1, vs gensB gensN gensC), (2, vp (pa b)), (5, vs ap (lN + 1) q), (14, vi xN), (15, vi (IntKind.wrap .i64 (s15 + 1)))] ?_
     exact S_round ((ap, (lN + 1), q, (IntKind.wrap .i64 (s15 + 1))) : (Option Addr) × Nat × Nat × Int) sk h
    ·rw [if_neg c17] at h
     have b18 : ((gensN : Int) == 0) = false := beq_eq_false_iff_ne.mpr c17
     refine N_env [(1, vs gensB gensN gensC), (2, vp (pa b)), (5, vs lB lN lC), (6, vi s15), (7, vp (some (d.add (Int.toNat s15 * 72)))), (14, vi xN), (15, vi s15), (29, .bool true), (33, .bool false)] (by simp only [b18, Bool.not_true, Bool.not_false]) ?_
     clear b18
     refine T_n 5 [(1, vs gensB gensN gensC), (2, vp (pa b)), (5, vs lB lN lC), (6, vi s15), (14, vi xN), (15, vi s15), (29, .bool true), (33, .bool false), (34, vs gensB gensN gensC), (38, vp (some (d.add (Int.toNat s15 * 72))))] ?_
     obtain ⟨r, q21, h⟩ := h
     refine T_l (some 39) 3 q21 [(1, vs gensB gensN gensC), (2, vp (pa b)), (5, vs lB lN lC), (6, vi s15), (14, vi xN), (15, vi s15), (29, .bool true), (33, .bool false), (34, vs gensB gensN gensC), (39, vi r)] ?_
     refine N_call (some 40) 57 #[vs gensB gensN gensC, vi r] (fun _=>by kernel_rfl) h ?_; clear h
     rintro v H5 ⟨o, rfl, h⟩
     refine ⟨[(1, vs gensB gensN gensC), (2, vp (pa b)), (5, vs lB lN lC), (6, vi s15), (14, vi xN), (15, vi s15), (29, .bool true), (33, .bool false), (40, .bool o)], pk, ?_⟩
     refine T_ne 2 [(1, vs gensB gensN gensC), (2, vp (pa b)), (5, vs lB lN lC), (6, vi s15), (14, vi xN), (15, vi s15), (42, .bool o)] ?_
     by_cases c22 : o = true
     ·rw [if_pos c22] at h
      have b23 : o = true := c22
      refine S_env [(1, vs gensB gensN gensC), (2, vp (pa b)), (5, vs lB lN lC), (6, vi s15), (14, vi xN), (15, vi s15), (42, .bool true)] (by simp only [b23, Bool.not_true, Bool.not_false]) ?_
      clear b23
      refine T_t 42 kk34 kk35 ?_
      refine T_r 9 kk34 ?_
      refine T_n 2 [(1, vs gensB gensN gensC), (2, vp (pa b)), (14, vi xN), (15, vi s15), (43, vs lB lN lC), (44, vi s15)] ?_
      refine N_new (some 45) (fun b => vs (pa b) 1 1) (.cells #[vi s15] 3) (fun _=>by kernel_rfl) ?_
      intro u H6 e24 e25
      replace h := h u H6 e24 e25
      refine ⟨[(1, vs gensB gensN gensC), (2, vp (pa b)), (14, vi xN), (15, vi s15), (43, vs lB lN lC), (45, vs (pa u) 1 1)], pk, ?_⟩
      refine N_op (some 46) (appendN #[90, 90] 90 #[vs lB lN lC, vs (pa u) 1 1]) _ (fun _=>by kernel_rfl) (ss_append (T := 3) (sz := 1) (bytes := 8) (zero := (vi 0 : Value)) Try.underlying90 Try.underlying90 rfl (show Try.prog.info? 3 = some Try.t3 from by kernel_rfl) (by kernel_rfl) (by kernel_rfl) (by decide) (by kernel_rfl) (by first | exact h | (simpa only [Value.cells, List.toList_toArray] using h))) ?_; clear h
      rintro _ H7 ⟨g, e, rfl, h⟩
      refine ⟨[(1, vs gensB gensN gensC), (2, vp (pa b)), (14, vi xN), (15, vi s15), (46, vs g (lN + 1) e)], pk, ?_⟩
      refine T_n 1 [(1, vs gensB gensN gensC), (2, vp (pa b)), (5, vs g (lN + 1) e), (14, vi xN), (15, vi s15)] ?_
      refine N_end (by kernel_rfl) ?_
      refine S_blockEnd ?_
      refine S_then ?_
      refine T_r 10 kk26 ?_
      refine T_ne 2 [(1, vs gensB gensN gensC), (2, vp (pa b)), (5, vs g (lN + 1) e), (14, vi xN), (15, vi (IntKind.wrap .i64 (s15 + 1)))] ?_
      exact S_round ((g, (lN + 1), e, (IntKind.wrap .i64 (s15 + 1))) : (Option Addr) × Nat × Nat × Int) sk h
     ·rw [if_neg c22] at h
      have b23 : o = false := eq_false_of_ne_true c22
      refine S_env [(1, vs gensB gensN gensC), (2, vp (pa b)), (5, vs lB lN lC), (6, vi s15), (14, vi xN), (15, vi s15), (42, .bool false)] (by simp only [b23, Bool.not_true, Bool.not_false]) ?_
      clear b23
      refine T_f 42 kk34 kk35 ?_
      refine T_k ?_
      refine S_blockEnd ?_
      refine S_then ?_
      refine T_r 10 kk26 ?_
      refine T_ne 2 [(1, vs gensB gensN gensC), (2, vp (pa b)), (5, vs lB lN lC), (14, vi xN), (15, vi (IntKind.wrap .i64 (s15 + 1)))] ?_
      exact S_round ((lB, lN, lC, (IntKind.wrap .i64 (s15 + 1))) : (Option Addr) × Nat × Nat × Int) sk h
   ·rw [if_neg c15] at h
    have b16 : (decide (l > 0)) = false := decide_eq_false c15
    refine N_env [(1, vs gensB gensN gensC), (2, vp (pa b)), (5, vs lB lN lC), (6, vi s15), (7, vp (some (d.add (Int.toNat s15 * 72)))), (14, vi xN), (15, vi s15), (29, .bool false)] (by simp only [b16, Bool.not_true, Bool.not_false]) ?_
    clear b16
    refine T_ne 13 [(1, vs gensB gensN gensC), (2, vp (pa b)), (5, vs lB lN lC), (6, vi s15), (14, vi xN), (15, vi s15), (42, .bool false)] ?_
    refine T_f 42 kk34 kk35 ?_
    refine T_k ?_
    refine S_blockEnd ?_
    refine S_then ?_
    refine T_r 10 kk26 ?_
    refine T_ne 2 [(1, vs gensB gensN gensC), (2, vp (pa b)), (5, vs lB lN lC), (14, vi xN), (15, vi (IntKind.wrap .i64 (s15 + 1)))] ?_
    exact S_round ((lB, lN, lC, (IntKind.wrap .i64 (s15 + 1))) : (Option Addr) × Nat × Nat × Int) sk h
  ·rw [if_neg c9] at h
   have b10 : (decide (s15 < (xN : Int))) = false := decide_eq_false c9
   refine S_env [(1, vs gensB gensN gensC), (2, vp (pa b)), (5, vs lB lN lC), (14, vi xN), (15, vi s15), (16, .bool false)] (by simp only [b10, Bool.not_true, Bool.not_false]) ?_
   clear b10
   refine T_f 16 kk23 kk24 ?_
   refine S_exit 0 (by kernel_rfl) ?_
   refine S_exitThen ?_
   refine S_exitThen ?_
   refine S_exitHere ?_
   refine S_then ?_
   refine T_sr 11 kk36 kk37 ?_
   refine T_n 2 [(5, vs lB lN lC), (48, vs lB lN lC), (49, .func (.func 59) #[] #[vp (pa b)])] ?_
   refine N_call (some 50) 58 #[vs lB lN lC, .func (.func 59) #[] #[vp (pa b)]] (fun _=>by kernel_rfl) h ?_; clear h
   intro v_2 H8 h
   refine ⟨[(5, vs lB lN lC)], pk, ?_⟩
   refine T_e ?_
   refine T_sr 12 kk38 kk39 ?_
   refine T_ne 2 [(4, vs lB lN lC)] ?_
   refine S_ret (by kernel_rfl) ?_
   show At _ _ _ _ _ (Q .ret)
   exact S_done (fn := Try.f38) [vs lB lN lC] hQ (show ResOK _ _ _ [.tmp 4] _ from .tmp (by kernel_rfl) (.nil)) h
end seg_Mem_Taken

/-! (*moraine/seg.Mem).Taken.1 -/
namespace seg_Mem_Taken_1
def kk0 := Func.code Try.f59
def kk1 := Code.fa kk0
def kk2 := Code.fb kk0
def kk3 := Code.fa kk2
def kk4 := Code.fb kk2
end seg_Mem_Taken_1
def seg_Mem_Taken_1.pt (a : Int) (b : Int) (cap0 : Option Addr) (H : Array Obj) (R : Value → Array Obj → Prop) : Prop :=
 ∃ d : Addr, cap0 = some d ∧
 ∃ x : Option Addr, hat H d = some (.pointer x) ∧
 ∃ xA : Addr, x = some xA ∧
 ∃ xB : Option Addr, ∃ xN : Nat, ∃ xC : Nat, hat H xA = some (.slice xB xN xC) ∧
 ∃ f : Addr, xB = some f ∧
 ((0 : Int) ≤ a ∧ a < (xN : Int)) ∧
 ∃ g : Int, hat H ((f.add (Int.toNat a * 72)).add 7) = some (.int .i64 g) ∧
 ∃ q : Option Addr, hat H d = some (.pointer q) ∧
 ∃ j : Addr, q = some j ∧
 ∃ p : Option Addr, ∃ l : Nat, ∃ m : Nat, hat H j = some (.slice p l m) ∧
 ∃ e : Addr, p = some e ∧
 ((0 : Int) ≤ b ∧ b < (l : Int)) ∧
 ∃ o : Int, hat H ((e.add (Int.toNat b * 72)).add 7) = some (.int .i64 o) ∧
 cmp_Compare_int.C g o H (fun v H1 => ∃ n : Int, v = .int .i64 n ∧ 
 R (.int .i64 n) H1)
namespace seg_Mem_Taken_1
set_option maxRecDepth 100000 in
theorem link {a : Int} {b : Int} {cap0 : Option Addr} {H : Array Obj} {R : Value → Array Obj → Prop} (h : pt a b cap0 H R) : C a b cap0 H R := by
 refine S_enter (fn := Try.f59) (c := kk0) 23 Try.func59 (by kernel_rfl) (by kernel_rfl) (Nat.le_of_ble_eq_true (by kernel_rfl)) ?_
 intro w0 Q hQ
 unfold pt at h
 refine T_su [(0, vi a), (1, vi b), (2, vp cap0)] ?_
 refine T_sr 0 kk1 kk2 ?_
 refine T_ne 1 [(0, vi a), (1, vi b), (2, vp cap0)] ?_
 refine T_s kk3 kk4 ?_
 obtain ⟨d, rfl, h⟩ := h
 obtain ⟨x, q1, h⟩ := h
 obtain ⟨xA, rfl, h⟩ := h
 obtain ⟨xB, xN, xC, q2, h⟩ := h
 obtain ⟨f, rfl, h⟩ := h
 obtain ⟨q3, h⟩ := h
 obtain ⟨g, q4, h⟩ := h
 obtain ⟨q, q5, h⟩ := h
 obtain ⟨j, rfl, h⟩ := h
 obtain ⟨p, l, m, q6, h⟩ := h
 obtain ⟨e, rfl, h⟩ := h
 obtain ⟨q7, h⟩ := h
 obtain ⟨o, q8, h⟩ := h
 refine S_regionG 1 (Code.ops kk3) [(16, d, [vp (some xA)]), (16, xA, [vs (some f) xN xC]), (16, ((f.add (Int.toNat a * 72)).add 7), [vi g]), (16, d, [vp (some j)]), (16, j, [vs (some e) l m]), (16, ((e.add (Int.toNat b * 72)).add 7), [vi o])] 18 #[false, false, false, false, false, false, false, false, false, false, false, false, false, false, false, false, false, false] (by kernel_rfl) (by kernel_rfl) (by kernel_rfl) (by kernel_rfl) (by kernel_rfl) (show FactsAt _ _ _ from ⟨⟨q1, trivial⟩, ⟨q2, trivial⟩, ⟨q4, trivial⟩, ⟨q5, trivial⟩, ⟨q6, trivial⟩, ⟨q8, trivial⟩, trivial⟩) ?_
 refine T_g 0 (some 6) (vp (some xA)) #[true, false, false, false, false, false, false, false, false, false, false, false, false, false, false, false, false, false] [(0, vi a), (1, vi b), (2, vp (some d)), (6, vp (some xA))] (loadN 86 (vp (some d))) (held_one 16 (fun _=>by kernel_rfl) (List.Mem.head _) (.inl (by kernel_rfl))) ?_
 refine T_gp 1 (some 7) (vp (some xA)) #[true, true, false, false, false, false, false, false, false, false, false, false, false, false, false, false, false, false] [(0, vi a), (1, vi b), (2, vp (some d)), (7, vp (some xA))] ?_
 refine T_gp 2 (some 8) (vp (some xA)) #[true, true, true, false, false, false, false, false, false, false, false, false, false, false, false, false, false, false] [(0, vi a), (1, vi b), (2, vp (some d)), (8, vp (some xA))] ?_
 refine T_g 3 (some 9) (vs (some f) xN xC) #[true, true, true, true, false, false, false, false, false, false, false, false, false, false, false, false, false, false] [(0, vi a), (1, vi b), (2, vp (some d)), (9, vs (some f) xN xC)] (loadN 118 (vp (some xA))) (held_one 16 (fun _=>by kernel_rfl) (List.Mem.tail _ (List.Mem.head _)) (.inl (by kernel_rfl))) ?_
 refine T_gp 4 (some 10) (vi a) #[true, true, true, true, true, false, false, false, false, false, false, false, false, false, false, false, false, false] [(1, vi b), (2, vp (some d)), (9, vs (some f) xN xC), (10, vi a)] ?_
 refine T_g 5 (some 11) (vp (some (f.add (Int.toNat a * 72)))) #[true, true, true, true, true, true, false, false, false, false, false, false, false, false, false, false, false, false] [(1, vi b), (2, vp (some d)), (11, vp (some (f.add (Int.toNat a * 72))))] (indexAtN 118 (vs (some f) xN xC) (vi a)) (fun _ w _ _ _ => indexAt_run (P := Try.prog) (t := 118) (elem := 117) (sz := 72) (a := f) (len := xN) (cap := xC) (k := .i64) (i := a) Try.underlying118 (fun _=>by kernel_rfl) q3.1 q3.2 w) ?_
 refine T_gp 6 (some 12) (vp (some ((f.add (Int.toNat a * 72)).add 7))) #[true, true, true, true, true, true, true, false, false, false, false, false, false, false, false, false, false, false] [(1, vi b), (2, vp (some d)), (12, vp (some ((f.add (Int.toNat a * 72)).add 7)))] ?_
 refine T_g 7 (some 13) (vi g) #[true, true, true, true, true, true, true, true, false, false, false, false, false, false, false, false, false, false] [(1, vi b), (2, vp (some d)), (13, vi g)] (loadN 3 (vp (some ((f.add (Int.toNat a * 72)).add 7)))) (held_one 16 (fun _=>by kernel_rfl) (List.Mem.tail _ (List.Mem.tail _ (List.Mem.head _))) (.inl (by kernel_rfl))) ?_
 refine T_g 8 (some 14) (vp (some j)) #[true, true, true, true, true, true, true, true, true, false, false, false, false, false, false, false, false, false] [(1, vi b), (13, vi g), (14, vp (some j))] (loadN 86 (vp (some d))) (held_one 16 (fun _=>by kernel_rfl) (List.Mem.tail _ (List.Mem.tail _ (List.Mem.tail _ (List.Mem.head _)))) (.inl (by kernel_rfl))) ?_
 refine T_gp 9 (some 15) (vp (some j)) #[true, true, true, true, true, true, true, true, true, true, false, false, false, false, false, false, false, false] [(1, vi b), (13, vi g), (15, vp (some j))] ?_
 refine T_gp 10 (some 16) (vp (some j)) #[true, true, true, true, true, true, true, true, true, true, true, false, false, false, false, false, false, false] [(1, vi b), (13, vi g), (16, vp (some j))] ?_
 refine T_g 11 (some 17) (vs (some e) l m) #[true, true, true, true, true, true, true, true, true, true, true, true, false, false, false, false, false, false] [(1, vi b), (13, vi g), (17, vs (some e) l m)] (loadN 118 (vp (some j))) (held_one 16 (fun _=>by kernel_rfl) (List.Mem.tail _ (List.Mem.tail _ (List.Mem.tail _ (List.Mem.tail _ (List.Mem.head _))))) (.inl (by kernel_rfl))) ?_
 refine T_gp 12 (some 18) (vi b) #[true, true, true, true, true, true, true, true, true, true, true, true, true, false, false, false, false, false] [(13, vi g), (17, vs (some e) l m), (18, vi b)] ?_
 refine T_g 13 (some 19) (vp (some (e.add (Int.toNat b * 72)))) #[true, true, true, true, true, true, true, true, true, true, true, true, true, true, false, false, false, false] [(13, vi g), (19, vp (some (e.add (Int.toNat b * 72))))] (indexAtN 118 (vs (some e) l m) (vi b)) (fun _ w _ _ _ => indexAt_run (P := Try.prog) (t := 118) (elem := 117) (sz := 72) (a := e) (len := l) (cap := m) (k := .i64) (i := b) Try.underlying118 (fun _=>by kernel_rfl) q7.1 q7.2 w) ?_
 refine T_gp 14 (some 20) (vp (some ((e.add (Int.toNat b * 72)).add 7))) #[true, true, true, true, true, true, true, true, true, true, true, true, true, true, true, false, false, false] [(13, vi g), (20, vp (some ((e.add (Int.toNat b * 72)).add 7)))] ?_
 refine T_g 15 (some 21) (vi o) #[true, true, true, true, true, true, true, true, true, true, true, true, true, true, true, true, false, false] [(13, vi g), (21, vi o)] (loadN 3 (vp (some ((e.add (Int.toNat b * 72)).add 7)))) (held_one 16 (fun _=>by kernel_rfl) (List.Mem.tail _ (List.Mem.tail _ (List.Mem.tail _ (List.Mem.tail _ (List.Mem.tail _ (List.Mem.head _)))))) (.inl (by kernel_rfl))) ?_
 refine G_call 16 (some 22) #[true, true, true, true, true, true, true, true, true, true, true, true, true, true, true, true, true, false] 60 #[vi g, vi o] (by kernel_rfl) (fun _=>by kernel_rfl) h (by kernel_rfl) ?_; clear h
 rintro v H1 ⟨n, rfl, h⟩
 refine ⟨[(22, vi n)], pk, (show FactsAt _ _ _ from ⟨trivial, trivial, trivial, trivial, trivial, trivial, trivial⟩), ?_⟩
 refine T_g 17 (some 5) (vi n) #[true, true, true, true, true, true, true, true, true, true, true, true, true, true, true, true, true, true] [(5, vi n)] (pure (.value (vi n)) : Sem Next) (fun _ _ _ _ _ => rfl) ?_
 refine G_sub [(5, vi n)] sk ?_
 refine G_end (by kernel_rfl) ?_
 refine S_then ?_
 refine S_ret (by kernel_rfl) ?_
 show At _ _ _ _ _ (Q .ret)
 exact S_done (fn := Try.f59) [vi n] hQ (show ResOK _ _ _ [.tmp 5] _ from .tmp (by kernel_rfl) (.nil)) h
end seg_Mem_Taken_1

end Go.Proofs.Ytillpfaabdlaiaa
