/-
  Written by a program of mine (gen.py): for functions of this translation a predicate transformer over heaps (.pt), and the proof that it is sound for the call (.link).
-/
import Derived.Test.YtfohlkiikppefaaFnsC
set_option linter.unusedSimpArgs false
set_option linter.unusedVariables false
set_option maxHeartbeats 1000000
noncomputable section
namespace Go.Proofs.Ytfohlkiikppefaa
open Go
/-! slices.Repeat[[]moraine/api.Word,moraine/api.Word] -/
namespace slices_Repeat_api_Word_api_Word
def kk0 := Func.code Try.f74
def kk1 := Code.fa kk0
def kk2 := Code.fb kk0
def kk3 := Code.fa kk2
def kk4 := Code.fb kk2
def kk5 := Code.fa kk3
def kk6 := Code.fb kk3
def kk7 := Code.fa kk6
def kk8 := Code.fb kk6
def kk9 := Code.fa kk4
def kk10 := Code.fb kk4
def kk11 := Code.fa kk10
def kk12 := Code.fb kk10
def kk13 := Code.fa kk11
def kk14 := Code.fb kk11
def kk15 := Code.fa kk14
def kk16 := Code.fb kk14
def kk17 := Code.fa kk12
def kk18 := Code.fb kk12
def kk19 := Code.fa kk18
def kk20 := Code.fb kk18
def kk21 := Code.fa kk20
def kk22 := Code.fb kk20
def kk23 := Code.fa kk21
def kk24 := Code.fa kk23
def kk25 := Code.fa kk24
def kk26 := Code.fb kk24
def kk27 := Code.fa kk25
def kk28 := Code.fb kk25
def kk29 := Code.fa kk28
def kk30 := Code.fb kk28
def kk31 := Code.fa kk26
def kk32 := Code.fa kk22
def kk33 := Code.fb kk22
end slices_Repeat_api_Word_api_Word
def slices_Repeat_api_Word_api_Word.pt (xB : Option Addr) (xN : Nat) (xC : Nat) (count : Int) (H : Array Obj) (R : Value → Array Obj → Prop) : Prop :=
 if count < 0 then (
  False)
 else
 math_bits_Mul.C (IntKind.wrap .u64 (xN : Int)) (IntKind.wrap .u64 count) H (fun v H1 => ∃ ra : Int, ∃ rb : Int, v = .tuple #[.int .u64 ra, .int .u64 rb] ∧ 
  if ((decide (ra > 0)) || (decide (rb > 9223372036854775807))) = true then (
   False)
  else
  0 ≤ (IntKind.wrap .i64 rb) ∧ (IntKind.wrap .i64 rb) ≤ (IntKind.wrap .i64 rb) ∧ 8 * (IntKind.wrap .i64 rb) ≤ 2 ^ 48 ∧ (IntKind.wrap .i64 rb) ≤ 9223372036854775807 ∧
  ∀ (b : Nat) (H2 : Array Obj), b = H1.size → H2 = H1.push (.cells (Builtin.zeroCells #[.int .u64 0] (Int.toNat (IntKind.wrap .i64 rb))) 29) →
  copyK 1 (some (Addr.mk b 0 none)) (Int.toNat (IntKind.wrap .i64 rb)) xB xN H2 (fun cn H3 =>
   ∃ (I25 : Int → Array Obj → Prop) (m25 : Int → Array Obj → Nat), I25 (cn : Int) H3 ∧ ∀ (nv : Int) (H4 : Array Obj), I25 nv H4 →
   if nv < ((Int.toNat (IntKind.wrap .i64 rb)) : Int) then (
    ∃ (lo hi : Nat), nv = (lo : Int) ∧ hi = (Int.toNat (IntKind.wrap .i64 rb)) ∧ lo ≤ hi ∧ hi ≤ (Int.toNat (IntKind.wrap .i64 rb)) ∧
    ∀ sl : Option Addr, sl = (if (Int.toNat (IntKind.wrap .i64 rb)) = lo then (some (Addr.mk b 0 none)) else Option.map (fun a : Addr => a.add (lo * 1)) (some (Addr.mk b 0 none))) →
    ∃ (lo_2 hi_2 : Nat), lo_2 = 0 ∧ nv = (hi_2 : Int) ∧ lo_2 ≤ hi_2 ∧ hi_2 ≤ (Int.toNat (IntKind.wrap .i64 rb)) ∧
    ∀ sl_2 : Option Addr, sl_2 = (if (Int.toNat (IntKind.wrap .i64 rb)) = lo_2 then (some (Addr.mk b 0 none)) else Option.map (fun a : Addr => a.add (lo_2 * 1)) (some (Addr.mk b 0 none))) →
    copyK 1 sl (hi - lo) sl_2 (hi_2 - lo_2) H4 (fun cn_2 H5 =>
     (I25 (IntKind.wrap .i64 (nv + (cn_2 : Int))) H5 ∧ m25 (IntKind.wrap .i64 (nv + (cn_2 : Int))) H5 < m25 nv H4)))
   else
   R (.slice (some (Addr.mk b 0 none)) (Int.toNat (IntKind.wrap .i64 rb)) (Int.toNat (IntKind.wrap .i64 rb))) H4))
namespace slices_Repeat_api_Word_api_Word
set_option maxRecDepth 100000 in
theorem link {xB : Option Addr} {xN : Nat} {xC : Nat} {count : Int} {H : Array Obj} {R : Value → Array Obj → Prop} (h : pt xB xN xC count H R) : C xB xN xC count H R := by
  refine S_enter (fn := Try.f74) (c := kk0) 48 Try.func74 (by kernel_rfl) (by kernel_rfl) (Nat.le_of_ble_eq_true (by kernel_rfl)) ?_
  intro w0 Q hQ
  unfold pt at h
  refine S_sub [(0, .slice xB xN xC), (1, .int .i64 count)] (sb (by kernel_rfl)) ?_
  refine S_seq kk1 kk2 (by kernel_rfl) ?_
  refine S_region 0 (Code.ops kk1) (by kernel_rfl) ?_
  refine N_run 1 [(0, .slice xB xN xC), (1, .int .i64 count)] (fun w => by kernel_rfl) ?_
  refine N_end (by kernel_rfl) ?_
  refine S_then ?_
  refine S_seq kk3 kk4 (by kernel_rfl) ?_
  refine S_seq kk5 kk6 (by kernel_rfl) ?_
  refine S_region 1 (Code.ops kk5) (by kernel_rfl) ?_
  refine N_run 2 [(0, .slice xB xN xC), (1, .int .i64 count), (10, .bool (decide (count < 0)))] (fun w => by kernel_rfl) ?_
  refine N_end (by kernel_rfl) ?_
  refine S_then ?_
  by_cases c1 : count < 0
  · rw [if_pos c1] at h
    have b2 : (decide (count < 0)) = true := decide_eq_true c1
    refine S_env [(0, .slice xB xN xC), (1, .int .i64 count), (10, .bool true)] (by simp only [b2, Bool.not_true, Bool.not_false]) ?_
    clear b2
    refine S_condT (.tmp 10) kk7 kk8 (by kernel_rfl) (by kernel_rfl) ?_
    refine S_region 2 (Code.ops kk7) (by kernel_rfl) ?_
    refine N_sub [(0, .slice xB xN xC), (1, .int .i64 count)] (sb (by kernel_rfl)) ?_
    exact h.elim
  · rw [if_neg c1] at h
    have b2 : (decide (count < 0)) = false := decide_eq_false c1
    refine S_env [(0, .slice xB xN xC), (1, .int .i64 count), (10, .bool false)] (by simp only [b2, Bool.not_true, Bool.not_false]) ?_
    clear b2
    refine S_condF (.tmp 10) kk7 kk8 (by kernel_rfl) (by kernel_rfl) ?_
    refine S_skip (by kernel_rfl) ?_
    refine S_then ?_
    refine S_seq kk9 kk10 (by kernel_rfl) ?_
    refine S_region 3 (Code.ops kk9) (by kernel_rfl) ?_
    refine N_run 5 [(0, .slice xB xN xC), (15, .int .u64 (IntKind.wrap .u64 (xN : Int))), (17, .int .u64 (IntKind.wrap .u64 count))] (fun w => by kernel_rfl) ?_
    refine N_call (some 18) 97 #[.int .u64 (IntKind.wrap .u64 (xN : Int)), .int .u64 (IntKind.wrap .u64 count)] (fun w => by kernel_rfl) h ?_; clear h
    rintro v H1 ⟨ra, rb, rfl, h⟩
    refine ⟨[(0, .slice xB xN xC), (18, .tuple #[.int .u64 ra, .int .u64 rb])], ps (by kernel_rfl), ?_⟩
    refine N_run 5 [(0, .slice xB xN xC), (5, .int .u64 ra), (6, .int .u64 rb)] (fun w => by kernel_rfl) ?_
    refine N_end (by kernel_rfl) ?_
    refine S_then ?_
    refine S_seq kk11 kk12 (by kernel_rfl) ?_
    refine S_seq kk13 kk14 (by kernel_rfl) ?_
    refine S_region 4 (Code.ops kk13) (by kernel_rfl) ?_
    refine N_cut [(0, .slice xB xN xC), (6, .int .u64 rb), (26, .bool ((decide (ra > 0)) || (decide (rb > 9223372036854775807))))] ?_ ?_
    · refine S_then ?_
      by_cases c5 : ((decide (ra > 0)) || (decide (rb > 9223372036854775807))) = true
      · rw [if_pos c5] at h
        have b6 : ((decide (ra > 0)) || (decide (rb > 9223372036854775807))) = true := c5
        refine S_env [(0, .slice xB xN xC), (6, .int .u64 rb), (26, .bool true)] (by simp only [b6, Bool.not_true, Bool.not_false]) ?_
        clear b6
        refine S_condT (.tmp 26) kk15 kk16 (by kernel_rfl) (by kernel_rfl) ?_
        refine S_region 5 (Code.ops kk15) (by kernel_rfl) ?_
        refine N_sub [(0, .slice xB xN xC), (6, .int .u64 rb)] (sb (by kernel_rfl)) ?_
        exact h.elim
      · rw [if_neg c5] at h
        have b6 : ((decide (ra > 0)) || (decide (rb > 9223372036854775807))) = false := eq_false_of_ne_true c5
        refine S_env [(0, .slice xB xN xC), (6, .int .u64 rb), (26, .bool false)] (by simp only [b6, Bool.not_true, Bool.not_false]) ?_
        clear b6
        refine S_condF (.tmp 26) kk15 kk16 (by kernel_rfl) (by kernel_rfl) ?_
        refine S_skip (by kernel_rfl) ?_
        refine S_then ?_
        refine S_seq kk17 kk18 (by kernel_rfl) ?_
        refine S_region 6 (Code.ops kk17) (by kernel_rfl) ?_
        refine N_run 2 [(0, .slice xB xN xC), (29, .int .i64 (IntKind.wrap .i64 rb))] (fun w => by kernel_rfl) ?_
        obtain ⟨q7, q8, q9, q10, h⟩ := h
        refine N_op (some 30) (makeSliceN 39 (.int .i64 (IntKind.wrap .i64 rb)) (.int .i64 (IntKind.wrap .i64 rb))) (fun v Hz => v = Value.slice (some (Addr.mk H1.size 0 none)) (Int.toNat (IntKind.wrap .i64 rb)) (Int.toNat (IntKind.wrap .i64 rb)) ∧ Hz = H1.push (.cells (Builtin.zeroCells #[.int .u64 0] (Int.toNat (IntKind.wrap .i64 rb))) 29)) (fun w => by kernel_rfl) (ss_make (T := 29) (zero := .int .u64 0) Try.underlying39 (show Try.prog.info? 29 = some Try.t29 from by kernel_rfl) (by kernel_rfl) q7 q8 q9 q10 (by kernel_rfl) (by decide)) ?_
        rintro _ H2 ⟨rfl, e12⟩
        obtain ⟨b, e11⟩ : ∃ b, b = H1.size := ⟨_, rfl⟩
        replace h := h b H2 e11 e12
        rw [← e11]
        refine ⟨[(0, .slice xB xN xC), (30, .slice (some (Addr.mk b 0 none)) (Int.toNat (IntKind.wrap .i64 rb)) (Int.toNat (IntKind.wrap .i64 rb)))], ps (by kernel_rfl), ?_⟩
        refine N_run 1 [(0, .slice xB xN xC), (7, .slice (some (Addr.mk b 0 none)) (Int.toNat (IntKind.wrap .i64 rb)) (Int.toNat (IntKind.wrap .i64 rb)))] (fun w => by kernel_rfl) ?_
        refine N_end (by kernel_rfl) ?_
        refine S_then ?_
        refine S_seq kk19 kk20 (by kernel_rfl) ?_
        refine S_region 7 (Code.ops kk19) (by kernel_rfl) ?_
        refine N_run 2 [(7, .slice (some (Addr.mk b 0 none)) (Int.toNat (IntKind.wrap .i64 rb)) (Int.toNat (IntKind.wrap .i64 rb))), (31, .slice (some (Addr.mk b 0 none)) (Int.toNat (IntKind.wrap .i64 rb)) (Int.toNat (IntKind.wrap .i64 rb))), (32, .slice xB xN xC)] (fun w => by kernel_rfl) ?_
        refine N_op (some 33) (copyN #[39, 39] 3 #[.slice (some (Addr.mk b 0 none)) (Int.toNat (IntKind.wrap .i64 rb)) (Int.toNat (IntKind.wrap .i64 rb)), .slice xB xN xC]) _ (fun w => by kernel_rfl) (ss_copy (T := 29) (sz := 1) Try.underlying39 (fun w => by kernel_rfl) h) ?_
        rintro _ H3 ⟨cn, rfl, h⟩
        refine ⟨[(7, .slice (some (Addr.mk b 0 none)) (Int.toNat (IntKind.wrap .i64 rb)) (Int.toNat (IntKind.wrap .i64 rb))), (33, .int .i64 (cn : Int))], ps (by kernel_rfl), ?_⟩
        refine N_run 1 [(7, .slice (some (Addr.mk b 0 none)) (Int.toNat (IntKind.wrap .i64 rb)) (Int.toNat (IntKind.wrap .i64 rb))), (8, .int .i64 (cn : Int))] (fun w => by kernel_rfl) ?_
        refine N_end (by kernel_rfl) ?_
        refine S_then ?_
        refine S_seq kk21 kk22 (by kernel_rfl) ?_
        refine S_block 0 kk23 (by kernel_rfl) ?_
        obtain ⟨I25, m25, i13, i14⟩ := h
        refine S_loop (x := kk24) (σ := Int) (fun s_ => [(7, .slice (some (Addr.mk b 0 none)) (Int.toNat (IntKind.wrap .i64 rb)) (Int.toNat (IntKind.wrap .i64 rb))), (8, .int .i64 s_)]) (fun s_ H => I25 s_ H) (fun s_ H => m25 s_ H) ((cn : Int) : Int) (by kernel_rfl) i13 (sb (by kernel_rfl)) ?_
        rintro nv H4 i15
        have h := i14 nv H4 i15
        refine S_sub [(7, .slice (some (Addr.mk b 0 none)) (Int.toNat (IntKind.wrap .i64 rb)) (Int.toNat (IntKind.wrap .i64 rb))), (8, .int .i64 nv)] (sb (by kernel_rfl)) ?_
        refine S_seq kk25 kk26 (by kernel_rfl) ?_
        refine S_seq kk27 kk28 (by kernel_rfl) ?_
        refine S_region 8 (Code.ops kk27) (by kernel_rfl) ?_
        refine N_run 4 [(7, .slice (some (Addr.mk b 0 none)) (Int.toNat (IntKind.wrap .i64 rb)) (Int.toNat (IntKind.wrap .i64 rb))), (8, .int .i64 nv), (37, .bool (decide (nv < ((Int.toNat (IntKind.wrap .i64 rb)) : Int))))] (fun w => by kernel_rfl) ?_
        refine N_end (by kernel_rfl) ?_
        refine S_then ?_
        by_cases c16 : nv < ((Int.toNat (IntKind.wrap .i64 rb)) : Int)
        · rw [if_pos c16] at h
          have b17 : (decide (nv < ((Int.toNat (IntKind.wrap .i64 rb)) : Int))) = true := decide_eq_true c16
          refine S_env [(7, .slice (some (Addr.mk b 0 none)) (Int.toNat (IntKind.wrap .i64 rb)) (Int.toNat (IntKind.wrap .i64 rb))), (8, .int .i64 nv), (37, .bool true)] (by simp only [b17, Bool.not_true, Bool.not_false]) ?_
          clear b17
          refine S_condT (.tmp 37) kk29 kk30 (by kernel_rfl) (by kernel_rfl) ?_
          refine S_skip (by kernel_rfl) ?_
          refine S_then ?_
          refine S_block 1 kk31 (by kernel_rfl) ?_
          obtain ⟨lo, hi, q18, q19, q20, q21, h⟩ := h
          obtain ⟨sl, e22⟩ : ∃ B, B = (if (Int.toNat (IntKind.wrap .i64 rb)) = lo then (some (Addr.mk b 0 none)) else Option.map (fun a : Addr => a.add (lo * 1)) (some (Addr.mk b 0 none))) := ⟨_, rfl⟩
          replace h := h sl e22
          obtain ⟨lo_2, hi_2, q23, q24, q25, q26, h⟩ := h
          obtain ⟨sl_2, e27⟩ : ∃ B, B = (if (Int.toNat (IntKind.wrap .i64 rb)) = lo_2 then (some (Addr.mk b 0 none)) else Option.map (fun a : Addr => a.add (lo_2 * 1)) (some (Addr.mk b 0 none))) := ⟨_, rfl⟩
          replace h := h sl_2 e27
          refine S_regionG 9 (Code.ops kk31) [] 10 #[false, false, false, false, false, false, false, false, false, false] (by kernel_rfl) (by kernel_rfl) (by kernel_rfl) (by kernel_rfl) (by kernel_rfl) (show FactsAt _ _ _ from trivial) ?_
          refine G_take 0 (some 38) (.int .i64 nv) #[true, false, false, false, false, false, false, false, false, false] [(7, .slice (some (Addr.mk b 0 none)) (Int.toNat (IntKind.wrap .i64 rb)) (Int.toNat (IntKind.wrap .i64 rb))), (8, .int .i64 nv), (38, .int .i64 nv)] ((pure (.value (.int .i64 nv)) : Sem Next)) (fun w => by kernel_rfl) (fun _ _ _ _ _ => rfl) (by kernel_rfl) (by kernel_rfl) (by kernel_rfl) (by kernel_rfl) (by kernel_rfl) (by kernel_rfl) (ps (by kernel_rfl)) ?_
          refine G_take 1 (some 39) (.slice (some (Addr.mk b 0 none)) (Int.toNat (IntKind.wrap .i64 rb)) (Int.toNat (IntKind.wrap .i64 rb))) #[true, true, false, false, false, false, false, false, false, false] [(7, .slice (some (Addr.mk b 0 none)) (Int.toNat (IntKind.wrap .i64 rb)) (Int.toNat (IntKind.wrap .i64 rb))), (8, .int .i64 nv), (38, .int .i64 nv), (39, .slice (some (Addr.mk b 0 none)) (Int.toNat (IntKind.wrap .i64 rb)) (Int.toNat (IntKind.wrap .i64 rb)))] ((pure (.value (.slice (some (Addr.mk b 0 none)) (Int.toNat (IntKind.wrap .i64 rb)) (Int.toNat (IntKind.wrap .i64 rb)))) : Sem Next)) (fun w => by kernel_rfl) (fun _ _ _ _ _ => rfl) (by kernel_rfl) (by kernel_rfl) (by kernel_rfl) (by kernel_rfl) (by kernel_rfl) (by kernel_rfl) (ps (by kernel_rfl)) ?_
          refine G_take 2 (some 40) (.int .i64 nv) #[true, true, true, false, false, false, false, false, false, false] [(7, .slice (some (Addr.mk b 0 none)) (Int.toNat (IntKind.wrap .i64 rb)) (Int.toNat (IntKind.wrap .i64 rb))), (8, .int .i64 nv), (38, .int .i64 nv), (39, .slice (some (Addr.mk b 0 none)) (Int.toNat (IntKind.wrap .i64 rb)) (Int.toNat (IntKind.wrap .i64 rb))), (40, .int .i64 nv)] ((pure (.value (.int .i64 nv)) : Sem Next)) (fun w => by kernel_rfl) (fun _ _ _ _ _ => rfl) (by kernel_rfl) (by kernel_rfl) (by kernel_rfl) (by kernel_rfl) (by kernel_rfl) (by kernel_rfl) (ps (by kernel_rfl)) ?_
          refine G_take 3 (some 41) (.slice sl (hi - lo) ((Int.toNat (IntKind.wrap .i64 rb)) - lo)) #[true, true, true, true, false, false, false, false, false, false] [(7, .slice (some (Addr.mk b 0 none)) (Int.toNat (IntKind.wrap .i64 rb)) (Int.toNat (IntKind.wrap .i64 rb))), (8, .int .i64 nv), (38, .int .i64 nv), (41, .slice sl (hi - lo) ((Int.toNat (IntKind.wrap .i64 rb)) - lo))] (sliceN 39 (.slice (some (Addr.mk b 0 none)) (Int.toNat (IntKind.wrap .i64 rb)) (Int.toNat (IntKind.wrap .i64 rb))) (some (.int .i64 nv)) none none) (fun w => by kernel_rfl) (fun _ w _ _ _ => (slice_run (P := Try.prog) (t := 39) (elem := 29) (sz := 1) (a := (some (Addr.mk b 0 none))) (len := (Int.toNat (IntKind.wrap .i64 rb))) (cap := (Int.toNat (IntKind.wrap .i64 rb))) (some (.int .i64 nv)) none lo hi Try.underlying39 (fun w => by kernel_rfl) (.inr ⟨.i64, by rw [q18]⟩) (.inl ⟨rfl, q19⟩) q20 q21 w).trans (by rw [e22]; try rfl)) (by kernel_rfl) (by kernel_rfl) (by kernel_rfl) (by kernel_rfl) (by kernel_rfl) (by kernel_rfl) (ps (by kernel_rfl)) ?_
          refine G_take 4 (some 42) (.slice (some (Addr.mk b 0 none)) (Int.toNat (IntKind.wrap .i64 rb)) (Int.toNat (IntKind.wrap .i64 rb))) #[true, true, true, true, true, false, false, false, false, false] [(7, .slice (some (Addr.mk b 0 none)) (Int.toNat (IntKind.wrap .i64 rb)) (Int.toNat (IntKind.wrap .i64 rb))), (8, .int .i64 nv), (38, .int .i64 nv), (41, .slice sl (hi - lo) ((Int.toNat (IntKind.wrap .i64 rb)) - lo)), (42, .slice (some (Addr.mk b 0 none)) (Int.toNat (IntKind.wrap .i64 rb)) (Int.toNat (IntKind.wrap .i64 rb)))] ((pure (.value (.slice (some (Addr.mk b 0 none)) (Int.toNat (IntKind.wrap .i64 rb)) (Int.toNat (IntKind.wrap .i64 rb)))) : Sem Next)) (fun w => by kernel_rfl) (fun _ _ _ _ _ => rfl) (by kernel_rfl) (by kernel_rfl) (by kernel_rfl) (by kernel_rfl) (by kernel_rfl) (by kernel_rfl) (ps (by kernel_rfl)) ?_
          refine G_take 5 (some 43) (.int .i64 nv) #[true, true, true, true, true, true, false, false, false, false] [(7, .slice (some (Addr.mk b 0 none)) (Int.toNat (IntKind.wrap .i64 rb)) (Int.toNat (IntKind.wrap .i64 rb))), (8, .int .i64 nv), (38, .int .i64 nv), (41, .slice sl (hi - lo) ((Int.toNat (IntKind.wrap .i64 rb)) - lo)), (42, .slice (some (Addr.mk b 0 none)) (Int.toNat (IntKind.wrap .i64 rb)) (Int.toNat (IntKind.wrap .i64 rb))), (43, .int .i64 nv)] ((pure (.value (.int .i64 nv)) : Sem Next)) (fun w => by kernel_rfl) (fun _ _ _ _ _ => rfl) (by kernel_rfl) (by kernel_rfl) (by kernel_rfl) (by kernel_rfl) (by kernel_rfl) (by kernel_rfl) (ps (by kernel_rfl)) ?_
          refine G_take 6 (some 44) (.slice sl_2 (hi_2 - lo_2) ((Int.toNat (IntKind.wrap .i64 rb)) - lo_2)) #[true, true, true, true, true, true, true, false, false, false] [(7, .slice (some (Addr.mk b 0 none)) (Int.toNat (IntKind.wrap .i64 rb)) (Int.toNat (IntKind.wrap .i64 rb))), (8, .int .i64 nv), (38, .int .i64 nv), (41, .slice sl (hi - lo) ((Int.toNat (IntKind.wrap .i64 rb)) - lo)), (44, .slice sl_2 (hi_2 - lo_2) ((Int.toNat (IntKind.wrap .i64 rb)) - lo_2))] (sliceN 39 (.slice (some (Addr.mk b 0 none)) (Int.toNat (IntKind.wrap .i64 rb)) (Int.toNat (IntKind.wrap .i64 rb))) none (some (.int .i64 nv)) none) (fun w => by kernel_rfl) (fun _ w _ _ _ => (slice_run (P := Try.prog) (t := 39) (elem := 29) (sz := 1) (a := (some (Addr.mk b 0 none))) (len := (Int.toNat (IntKind.wrap .i64 rb))) (cap := (Int.toNat (IntKind.wrap .i64 rb))) none (some (.int .i64 nv)) lo_2 hi_2 Try.underlying39 (fun w => by kernel_rfl) (.inl ⟨rfl, q23⟩) (.inr ⟨.i64, by rw [q24]⟩) q25 q26 w).trans (by rw [e27]; try rfl)) (by kernel_rfl) (by kernel_rfl) (by kernel_rfl) (by kernel_rfl) (by kernel_rfl) (by kernel_rfl) (ps (by kernel_rfl)) ?_
          refine G_only 7 (some 45) #[true, true, true, true, true, true, true, true, false, false] (copyN #[39, 39] 3 #[.slice sl (hi - lo) ((Int.toNat (IntKind.wrap .i64 rb)) - lo), .slice sl_2 (hi_2 - lo_2) ((Int.toNat (IntKind.wrap .i64 rb)) - lo_2)]) _ (by kernel_rfl) (fun w => by kernel_rfl) (ss_copy (T := 29) (sz := 1) Try.underlying39 (fun w => by kernel_rfl) h) (by kernel_rfl) ?_
          rintro _ H5 ⟨cn_2, rfl, h⟩
          refine ⟨[(7, .slice (some (Addr.mk b 0 none)) (Int.toNat (IntKind.wrap .i64 rb)) (Int.toNat (IntKind.wrap .i64 rb))), (8, .int .i64 nv), (38, .int .i64 nv), (45, .int .i64 (cn_2 : Int))], ps (by kernel_rfl), (show FactsAt _ _ _ from trivial), ?_⟩
          refine G_take 8 (some 46) (.int .i64 (IntKind.wrap .i64 (nv + (cn_2 : Int)))) #[true, true, true, true, true, true, true, true, true, false] [(7, .slice (some (Addr.mk b 0 none)) (Int.toNat (IntKind.wrap .i64 rb)) (Int.toNat (IntKind.wrap .i64 rb))), (8, .int .i64 nv), (46, .int .i64 (IntKind.wrap .i64 (nv + (cn_2 : Int))))] (pure (.value (.int .i64 (IntKind.wrap .i64 (nv + (cn_2 : Int))))) : Sem Next) (fun w => by kernel_rfl) (fun _ _ _ _ _ => rfl) (by kernel_rfl) (by kernel_rfl) (by kernel_rfl) (by kernel_rfl) (by kernel_rfl) (by kernel_rfl) (ps (by kernel_rfl)) ?_
          refine G_take 9 (some 8) (.int .i64 (IntKind.wrap .i64 (nv + (cn_2 : Int)))) #[true, true, true, true, true, true, true, true, true, true] [(7, .slice (some (Addr.mk b 0 none)) (Int.toNat (IntKind.wrap .i64 rb)) (Int.toNat (IntKind.wrap .i64 rb))), (8, .int .i64 (IntKind.wrap .i64 (nv + (cn_2 : Int))))] (pure (.value (.int .i64 (IntKind.wrap .i64 (nv + (cn_2 : Int))))) : Sem Next) (fun w => by kernel_rfl) (fun _ _ _ _ _ => rfl) (by kernel_rfl) (by kernel_rfl) (by kernel_rfl) (by kernel_rfl) (by kernel_rfl) (by kernel_rfl) (ps (by kernel_rfl)) ?_
          refine G_sub [(7, .slice (some (Addr.mk b 0 none)) (Int.toNat (IntKind.wrap .i64 rb)) (Int.toNat (IntKind.wrap .i64 rb))), (8, .int .i64 (IntKind.wrap .i64 (nv + (cn_2 : Int))))] (sb (by kernel_rfl)) ?_
          refine G_end (by kernel_rfl) ?_
          refine S_blockEnd ?_
          refine S_then ?_
          exact S_round ((IntKind.wrap .i64 (nv + (cn_2 : Int))) : Int) (sb (by kernel_rfl)) h
        · rw [if_neg c16] at h
          have b17 : (decide (nv < ((Int.toNat (IntKind.wrap .i64 rb)) : Int))) = false := decide_eq_false c16
          refine S_env [(7, .slice (some (Addr.mk b 0 none)) (Int.toNat (IntKind.wrap .i64 rb)) (Int.toNat (IntKind.wrap .i64 rb))), (8, .int .i64 nv), (37, .bool false)] (by simp only [b17, Bool.not_true, Bool.not_false]) ?_
          clear b17
          refine S_condF (.tmp 37) kk29 kk30 (by kernel_rfl) (by kernel_rfl) ?_
          refine S_exit 0 (by kernel_rfl) ?_
          refine S_exitThen ?_
          refine S_exitThen ?_
          refine S_exitHere ?_
          refine S_then ?_
          refine S_seq kk32 kk33 (by kernel_rfl) ?_
          refine S_region 10 (Code.ops kk32) (by kernel_rfl) ?_
          refine N_run 2 [(4, .slice (some (Addr.mk b 0 none)) (Int.toNat (IntKind.wrap .i64 rb)) (Int.toNat (IntKind.wrap .i64 rb)))] (fun w => by kernel_rfl) ?_
          refine N_end (by kernel_rfl) ?_
          refine S_then ?_
          refine S_ret (by kernel_rfl) ?_
          show At _ _ _ _ _ (Q .ret)
          exact S_done (fn := Try.f74) [.slice (some (Addr.mk b 0 none)) (Int.toNat (IntKind.wrap .i64 rb)) (Int.toNat (IntKind.wrap .i64 rb))] hQ (show ResOK _ _ _ [.tmp 4] _ from .tmp (by kernel_rfl) (.nil)) h
    · intro hk
      refine N_run 3 [(0, .slice xB xN xC), (6, .int .u64 rb), (23, .bool (decide (ra > 0)))] (fun w => by kernel_rfl) ?_
      by_cases c3 : ra > 0
      · have b4 : (decide (ra > 0)) = true := decide_eq_true c3
        refine N_env [(0, .slice xB xN xC), (6, .int .u64 rb), (23, .bool true)] (by simp only [b4, Bool.not_true, Bool.not_false]) ?_
        refine N_run 3 [(0, .slice xB xN xC), (6, .int .u64 rb), (26, .bool true)] (fun w => by kernel_rfl) ?_
        refine N_end (by kernel_rfl) ?_
        refine S_env [(0, .slice xB xN xC), (6, .int .u64 rb), (26, .bool ((decide (ra > 0)) || (decide (rb > 9223372036854775807))))] (by simp only [b4, Bool.true_or, Bool.false_or, Bool.or_true, Bool.or_false, Bool.true_and, Bool.false_and, Bool.and_true, Bool.and_false, Bool.not_true, Bool.not_false, cond_true, cond_false]) ?_
        exact hk
      · have b4 : (decide (ra > 0)) = false := decide_eq_false c3
        refine N_env [(0, .slice xB xN xC), (6, .int .u64 rb), (23, .bool false)] (by simp only [b4, Bool.not_true, Bool.not_false]) ?_
        refine N_run 3 [(0, .slice xB xN xC), (6, .int .u64 rb), (26, .bool (decide (rb > 9223372036854775807)))] (fun w => by kernel_rfl) ?_
        refine N_end (by kernel_rfl) ?_
        refine S_env [(0, .slice xB xN xC), (6, .int .u64 rb), (26, .bool ((decide (ra > 0)) || (decide (rb > 9223372036854775807))))] (by simp only [b4, Bool.true_or, Bool.false_or, Bool.or_true, Bool.or_false, Bool.true_and, Bool.false_and, Bool.and_true, Bool.and_false, Bool.not_true, Bool.not_false, cond_true, cond_false]) ?_
        exact hk
end slices_Repeat_api_Word_api_Word

/-! slices.Clone[[]uint32,uint32] -/
namespace slices_Clone_uint32_uint32
def kk0 := Func.code Try.f96
def kk1 := Code.fa kk0
def kk2 := Code.fb kk0
def kk3 := Code.fa kk2
def kk4 := Code.fb kk2
def kk5 := Code.fa kk3
def kk6 := Code.fb kk3
def kk7 := Code.fa kk6
def kk8 := Code.fb kk6
def kk9 := Code.fa kk7
def kk10 := Code.fb kk7
def kk11 := Code.fa kk4
def kk12 := Code.fb kk4
end slices_Clone_uint32_uint32
def slices_Clone_uint32_uint32.pt (sB : Option Addr) (sN : Nat) (sC : Nat) (H : Array Obj) (R : Value → Array Obj → Prop) : Prop :=
 onPtr sB (
  R (.slice none 0 0) H) (fun sBA =>
  ∀ (b : Nat) (H1 : Array Obj), b = H.size → H1 = H.push (.cells #[] 41) →
  appendK 1 41 4 [.int .u32 0] (some (Addr.mk b 0 none)) 0 0 (some sBA) sN H1 (fun ap apC H2 =>
   R (.slice ap (0 + sN) apC) H2))
namespace slices_Clone_uint32_uint32
set_option maxRecDepth 100000 in
theorem link {sB : Option Addr} {sN : Nat} {sC : Nat} {H : Array Obj} {R : Value → Array Obj → Prop} (h : pt sB sN sC H R) : C sB sN sC H R := by
  refine S_enter (fn := Try.f96) (c := kk0) 8 Try.func96 (by kernel_rfl) (by kernel_rfl) (Nat.le_of_ble_eq_true (by kernel_rfl)) ?_
  intro w0 Q hQ
  unfold pt at h
  refine S_sub [(0, .slice sB sN sC)] (sb (by kernel_rfl)) ?_
  refine S_seq kk1 kk2 (by kernel_rfl) ?_
  refine S_region 0 (Code.ops kk1) (by kernel_rfl) ?_
  refine N_run 1 [(0, .slice sB sN sC)] (fun w => by kernel_rfl) ?_
  refine N_end (by kernel_rfl) ?_
  refine S_then ?_
  refine S_seq kk3 kk4 (by kernel_rfl) ?_
  refine S_seq kk5 kk6 (by kernel_rfl) ?_
  refine S_region 1 (Code.ops kk5) (by kernel_rfl) ?_
  refine N_run 1 [(0, .slice sB sN sC), (3, .slice sB sN sC)] (fun w => by kernel_rfl) ?_
  rcases sB with _ | sBA
  · rw [onPtr_none] at h
    refine N_run 1 [(0, .slice none sN sC), (4, .bool true)] (fun w => by kernel_rfl) ?_
    refine N_end (by kernel_rfl) ?_
    refine S_then ?_
    refine S_condT (.tmp 4) kk7 kk8 (by kernel_rfl) (by kernel_rfl) ?_
    refine S_seq kk9 kk10 (by kernel_rfl) ?_
    refine S_region 2 (Code.ops kk9) (by kernel_rfl) ?_
    refine N_run 1 [(2, .slice none 0 0)] (fun w => by kernel_rfl) ?_
    refine N_end (by kernel_rfl) ?_
    refine S_then ?_
    refine S_ret (by kernel_rfl) ?_
    show At _ _ _ _ _ (Q .ret)
    exact S_done (fn := Try.f96) [.slice none 0 0] hQ (show ResOK _ _ _ [.tmp 2] _ from .tmp (by kernel_rfl) (.nil)) h
  · rw [onPtr_some] at h
    refine N_run 1 [(0, .slice (some sBA) sN sC), (4, .bool false)] (fun w => by kernel_rfl) ?_
    refine N_end (by kernel_rfl) ?_
    refine S_then ?_
    refine S_condF (.tmp 4) kk7 kk8 (by kernel_rfl) (by kernel_rfl) ?_
    refine S_skip (by kernel_rfl) ?_
    refine S_then ?_
    refine S_seq kk11 kk12 (by kernel_rfl) ?_
    refine S_region 3 (Code.ops kk11) (by kernel_rfl) ?_
    refine N_sub [(0, .slice (some sBA) sN sC)] (sb (by kernel_rfl)) ?_
    refine N_new (some 5) (fun b => .slice (some (Addr.mk b 0 none)) 0 0) (.cells #[] 41) (fun w => by kernel_rfl) ?_
    intro b H1 e1 e2
    replace h := h b H1 e1 e2
    refine ⟨[(0, .slice (some sBA) sN sC), (5, .slice (some (Addr.mk b 0 none)) 0 0)], ps (by kernel_rfl), ?_⟩
    refine N_run 1 [(5, .slice (some (Addr.mk b 0 none)) 0 0), (6, .slice (some sBA) sN sC)] (fun w => by kernel_rfl) ?_
    refine N_op (some 7) (appendN #[40, 40] 40 #[.slice (some (Addr.mk b 0 none)) 0 0, .slice (some sBA) sN sC]) _ (fun w => by kernel_rfl) (ss_append (T := 41) (sz := 1) (bytes := 4) (zero := (.int .u32 0 : Value)) Try.underlying40 Try.underlying40 rfl (show Try.prog.info? 41 = some Try.t41 from by kernel_rfl) (by kernel_rfl) (by kernel_rfl) (by decide) (by kernel_rfl) (by first | exact h | (simpa only [Value.cells, List.toList_toArray] using h))) ?_
    rintro _ H2 ⟨ap, apC, rfl, h⟩
    refine ⟨[(7, .slice ap (0 + sN) apC)], ps (by kernel_rfl), ?_⟩
    refine N_run 1 [(2, .slice ap (0 + sN) apC)] (fun w => by kernel_rfl) ?_
    refine N_end (by kernel_rfl) ?_
    refine S_then ?_
    refine S_ret (by kernel_rfl) ?_
    show At _ _ _ _ _ (Q .ret)
    exact S_done (fn := Try.f96) [.slice ap (0 + sN) apC] hQ (show ResOK _ _ _ [.tmp 2] _ from .tmp (by kernel_rfl) (.nil)) h
end slices_Clone_uint32_uint32

end Go.Proofs.Ytfohlkiikppefaa
