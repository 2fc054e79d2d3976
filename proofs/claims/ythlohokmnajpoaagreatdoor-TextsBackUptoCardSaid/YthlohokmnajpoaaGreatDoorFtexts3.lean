/- Printed: what each function asks, and that it is sound. -/
import Derived.Test.YthlohokmnajpoaaGreatDoorFnsC
set_option linter.unusedSimpArgs false
set_option linter.unusedVariables false
set_option maxHeartbeats 1000000
noncomputable section
namespace Go.Proofs.YthlohokmnajpoaaGreatDoor
open Go
/-! moraine/texts.table.1 -/
namespace texts_table_1
def K0 := Func.code Tryz.f108
def K1 := ca K0
def K2 := cb K0
def K3 := ca K2
def K4 := cb K2
end texts_table_1
def texts_table_1.pt (name : ByteArray) (kindsB : Option Addr) (kindsN : Nat) (kindsC : Nat) (H : Array Obj) (R : Value → Array Obj → Prop) : Prop :=
 ∀ (b : Nat) (H1 : Array Obj), b = H.size → H1 = H.push (.cells #[.string (ByteArray.mk #[]), .int .i64 0, .int .i64 0, .slice none 0 0] 125) →
 (CanPuts H1 (Addr.mk b 0 none) 0 4) ∧ ∀ H2 : Array Obj, H2 = hputs H1 (Addr.mk b 0 none) [.string name, .int .i64 (kindsN : Int), .int .i64 (kindsN : Int), .slice kindsB kindsN kindsC] 0 →
 ∃ e : ByteArray, ∃ a : Int, ∃ d : Int, ∃ f : Option Addr, ∃ g : Nat, ∃ i : Nat, RowAt H2 (Addr.mk b 0 none) 0 [.string e, .int .i64 a, .int .i64 d, .slice f g i] ∧
 R (.agg #[.string e, .int .i64 a, .int .i64 d, .slice f g i]) H2
namespace texts_table_1
set_option maxRecDepth 100000 in
theorem link {name : ByteArray} {kindsB : Option Addr} {kindsN : Nat} {kindsC : Nat} {H : Array Obj} {R : Value → Array Obj → Prop} (h : pt name kindsB kindsN kindsC H R) : C name kindsB kindsN kindsC H R := by
 refine T_en K0 13 Tryz.func108 ?_
 intro w0 Q hQ
 unfold pt at h
 refine T_su [(0, .string name), (1, vs kindsB kindsN kindsC)] ?_
 refine T_sr 0 K1 K2 ?_
 refine T_nw (some 4) (fun b => vp (pa b)) (.cells #[.string (ByteArray.mk #[]), vi 0, vi 0, vs none 0 0] 125) ?_
 intro b H1 e1 e2
 replace h := h b H1 e1 e2
 refine ⟨[(0, .string name), (1, vs kindsB kindsN kindsC), (4, vp (pa b))], pk, ?_⟩
 refine T_e ?_
 refine T_sr 1 K3 K4 ?_
 refine T_n 8 [(4, vp (pa b)), (12, .agg #[.string name, vi kindsN, vi kindsN, vs kindsB kindsN kindsC])] ?_
 obtain ⟨q4, h⟩ := h
 refine N_skipop none (storeN 125 (vp (pa b)) (.agg #[.string name, vi kindsN, vi kindsN, vs kindsB kindsN kindsC])) (fun Hz => Hz = hputs H1 (Addr.mk b 0 none) [.string name, vi kindsN, vi kindsN, vs kindsB kindsN kindsC] 0) (fun _=>by kernel_rfl) (ss_store [.string name, vi kindsN, vi kindsN, vs kindsB kindsN kindsC] 4 (by kernel_rfl) (by kernel_rfl) (fun _=>by kernel_rfl) (by kernel_rfl) q4) ?_
 intro H2 e3
 replace h := h H2 e3
 refine ⟨[(4, vp (pa b))], pk, ?_⟩
 refine T_e ?_
 refine S_ret (by kernel_rfl) ?_
 show At _ _ _ _ _ (Q .ret)
 obtain ⟨e, a, d, f, g, i, q5, h⟩ := h
 exact S_done (fn := Tryz.f108) [.agg #[.string e, vi a, vi d, vs f g i]] hQ (show ResOK _ _ _ [.cell 4 125] _ from .cell (by kernel_rfl) (loadOK_row (fun _=>by kernel_rfl) (fun _=>by kernel_rfl) q5) (.nil)) h
end texts_table_1

/-! moraine/texts.table.2 -/
namespace texts_table_2
def K0 := Func.code Tryz.f109
def K1 := ca K0
def K2 := cb K0
def K3 := ca K2
def K4 := cb K2
def K5 := ca K4
def K6 := cb K4
end texts_table_2
def texts_table_2.pt (least : Int) (most : Int) (pPrimName : ByteArray) (pPrimLeast : Int) (pPrimMost : Int) (pkindsB : Option Addr) (pkindsN : Nat) (pkindsC : Nat) (H : Array Obj) (R : Value → Array Obj → Prop) : Prop :=
 ∀ (b : Nat) (H1 : Array Obj), b = H.size → H1 = H.push (.cells #[.string pPrimName, .int .i64 pPrimLeast, .int .i64 pPrimMost, .slice pkindsB pkindsN pkindsC] 125) →
 ∀ (k : Nat) (H2 : Array Obj), k = H1.size → H2 = H1.push (.cells #[.string (ByteArray.mk #[]), .int .i64 0, .int .i64 0, .slice none 0 0] 125) →
 (CanPuts H2 ((Addr.mk b 0 none).add 1) 0 1) ∧ ∀ H3 : Array Obj, H3 = hputs H2 ((Addr.mk b 0 none).add 1) [.int .i64 least] 0 →
 (CanPuts H3 ((Addr.mk b 0 none).add 2) 0 1) ∧ ∀ H4 : Array Obj, H4 = hputs H3 ((Addr.mk b 0 none).add 2) [.int .i64 most] 0 →
 ∃ d : ByteArray, ∃ a : Int, ∃ e : Int, ∃ i : Option Addr, ∃ f : Nat, ∃ g : Nat, RowAt H4 (Addr.mk b 0 none) 0 [.string d, .int .i64 a, .int .i64 e, .slice i f g] ∧
 (CanPuts H4 (Addr.mk k 0 none) 0 4) ∧ ∀ H5 : Array Obj, H5 = hputs H4 (Addr.mk k 0 none) [.string d, .int .i64 a, .int .i64 e, .slice i f g] 0 →
 ∃ m : ByteArray, ∃ j : Int, ∃ l : Int, ∃ n : Option Addr, ∃ o : Nat, ∃ p : Nat, RowAt H5 (Addr.mk k 0 none) 0 [.string m, .int .i64 j, .int .i64 l, .slice n o p] ∧
 R (.agg #[.string m, .int .i64 j, .int .i64 l, .slice n o p]) H5
namespace texts_table_2
set_option maxRecDepth 100000 in
theorem link {least : Int} {most : Int} {pPrimName : ByteArray} {pPrimLeast : Int} {pPrimMost : Int} {pkindsB : Option Addr} {pkindsN : Nat} {pkindsC : Nat} {H : Array Obj} {R : Value → Array Obj → Prop} (h : pt least most pPrimName pPrimLeast pPrimMost pkindsB pkindsN pkindsC H R) : C least most pPrimName pPrimLeast pPrimMost pkindsB pkindsN pkindsC H R := by
 refine T_en K0 14 Tryz.func109 ?_
 intro w0 Q hQ
 unfold pt at h
 refine T_su [(0, vi least), (1, vi most), (2, .agg #[.string pPrimName, vi pPrimLeast, vi pPrimMost, vs pkindsB pkindsN pkindsC])] ?_
 refine T_sr 0 K1 K2 ?_
 refine T_nw (some 5) (fun b => vp (pa b)) (.cells #[.string pPrimName, vi pPrimLeast, vi pPrimMost, vs pkindsB pkindsN pkindsC] 125) ?_
 intro b H1 e1 e2
 replace h := h b H1 e1 e2
 refine ⟨[(0, vi least), (1, vi most), (5, vp (pa b))], pk, ?_⟩
 refine T_nw (some 6) (fun b => vp (pa b)) (.cells #[.string (ByteArray.mk #[]), vi 0, vi 0, vs none 0 0] 125) ?_
 intro k H2 e3 e4
 replace h := h k H2 e3 e4
 refine ⟨[(0, vi least), (1, vi most), (5, vp (pa b)), (6, vp (pa k))], pk, ?_⟩
 refine T_e ?_
 refine T_sr 1 K3 K4 ?_
 refine T_n 4 [(5, vp (pa b)), (6, vp (pa k)), (7, vi least), (8, vi most), (10, vp (some ((Addr.mk b 0 none).add 1)))] ?_
 obtain ⟨q6, h⟩ := h
 refine N_skipop none (storeN 3 (vp (some ((Addr.mk b 0 none).add 1))) (vi least)) (fun Hz => Hz = hputs H2 ((Addr.mk b 0 none).add 1) [vi least] 0) (fun _=>by kernel_rfl) (ss_store [vi least] 1 (by kernel_rfl) (by kernel_rfl) (fun _=>by kernel_rfl) (by kernel_rfl) q6) ?_
 intro H3 e5
 replace h := h H3 e5
 refine ⟨[(5, vp (pa b)), (6, vp (pa k)), (8, vi most)], pk, ?_⟩
 refine T_n 2 [(5, vp (pa b)), (6, vp (pa k)), (8, vi most), (12, vp (some ((Addr.mk b 0 none).add 2)))] ?_
 obtain ⟨q8, h⟩ := h
 refine N_skipop none (storeN 3 (vp (some ((Addr.mk b 0 none).add 2))) (vi most)) (fun Hz => Hz = hputs H3 ((Addr.mk b 0 none).add 2) [vi most] 0) (fun _=>by kernel_rfl) (ss_store [vi most] 1 (by kernel_rfl) (by kernel_rfl) (fun _=>by kernel_rfl) (by kernel_rfl) q8) ?_
 intro H4 e7
 replace h := h H4 e7
 refine ⟨[(5, vp (pa b)), (6, vp (pa k))], pk, ?_⟩
 refine T_e ?_
 refine T_sr 2 K5 K6 ?_
 obtain ⟨d, a, e, i, f, g, q9, h⟩ := h
 refine T_v (some 13) (loadN 125 (vp (pa b))) (.agg #[.string d, vi a, vi e, vs i f g]) (loadN_run (loadOK_row (fun _=>by kernel_rfl) (fun _=>by kernel_rfl) q9)) [(6, vp (pa k)), (13, .agg #[.string d, vi a, vi e, vs i f g])] ?_
 obtain ⟨q11, h⟩ := h
 refine N_skipop none (storeN 125 (vp (pa k)) (.agg #[.string d, vi a, vi e, vs i f g])) (fun Hz => Hz = hputs H4 (Addr.mk k 0 none) [.string d, vi a, vi e, vs i f g] 0) (fun _=>by kernel_rfl) (ss_store [.string d, vi a, vi e, vs i f g] 4 (by kernel_rfl) (by kernel_rfl) (fun _=>by kernel_rfl) (by kernel_rfl) q11) ?_
 intro H5 e10
 replace h := h H5 e10
 refine ⟨[(6, vp (pa k))], pk, ?_⟩
 refine T_e ?_
 refine S_ret (by kernel_rfl) ?_
 show At _ _ _ _ _ (Q .ret)
 obtain ⟨m, j, l, n, o, p, q12, h⟩ := h
 exact S_done (fn := Tryz.f109) [.agg #[.string m, vi j, vi l, vs n o p]] hQ (show ResOK _ _ _ [.cell 6 125] _ from .cell (by kernel_rfl) (loadOK_row (fun _=>by kernel_rfl) (fun _=>by kernel_rfl) q12) (.nil)) h
end texts_table_2

/-! moraine/texts.small -/
namespace texts_number
def K0 := Func.code Tryz.f114
def K1 := ca K0
def K2 := cb K0
def K3 := ca K2
def K4 := cb K2
def K5 := ca K4
def K6 := cb K4
end texts_number
def texts_number.pt (wv : Int) (H : Array Obj) (R : Value → Array Obj → Prop) : Prop :=
 word_Int.C wv H (fun v H1 => ∃ ra : Int, ∃ rb : Bool, v = .tuple #[.int .i64 ra, .bool rb] ∧ 
 R (.int .i64 (if (-1) < (if 1000 < ra then 1000 else ra) then (if 1000 < ra then 1000 else ra) else (-1))) H1)
namespace texts_number
set_option maxRecDepth 100000 in
theorem link {wv : Int} {H : Array Obj} {R : Value → Array Obj → Prop} (h : pt wv H R) : C wv H R := by
 refine T_en K0 13 Tryz.func114 ?_
 intro w0 Q hQ
 unfold pt at h
 refine T_su [(0, vu wv)] ?_
 refine T_sr 0 K1 K2 ?_
 refine T_ne 1 [(0, vu wv)] ?_
 refine T_sr 1 K3 K4 ?_
 refine T_n 1 [(6, vu wv)] ?_
 refine T_c (some 7) h ?_; clear h
 rintro v H1 ⟨ra, rb, rfl, h⟩
 refine ⟨[(7, .tuple #[vi ra, .bool rb])], pk, ?_⟩
 refine T_ne 5 [(3, vi ra)] ?_
 refine T_sr 2 K5 K6 ?_
 refine T_ne 4 [(2, vi (if (-1) < (if 1000 < ra then 1000 else ra) then (if 1000 < ra then 1000 else ra) else (-1)))] ?_
 exact T_ret [2] [vi (if (-1) < (if 1000 < ra then 1000 else ra) then (if 1000 < ra then 1000 else ra) else (-1))] hQ h
end texts_number

/-! moraine/texts.runes -/
namespace texts_runes
def K0 := Func.code Tryz.f120
def K1 := ca K0
def K2 := cb K0
def K3 := ca K2
def K4 := cb K2
end texts_runes
def texts_runes.pt (hv : Option Addr) (wv : Int) (H : Array Obj) (R : Value → Array Obj → Prop) : Prop :=
 ∀ (b : Nat) (H1 : Array Obj), b = H.size → H1 = H.push (.cells #[.pointer hv] 30) →
 ∀ (a : Nat) (H2 : Array Obj), a = H1.size → H2 = H1.push (.cells #[.int .u64 wv] 35) →
 R (.func (.func 164) #[] #[.pointer (some (Addr.mk b 0 none)), .pointer (some (Addr.mk a 0 none))]) H2
namespace texts_runes
set_option maxRecDepth 100000 in
theorem link {hv : Option Addr} {wv : Int} {H : Array Obj} {R : Value → Array Obj → Prop} (h : pt hv wv H R) : C hv wv H R := by
 refine T_en K0 6 Tryz.func120 ?_
 intro w0 Q hQ
 unfold pt at h
 refine T_su [(0, vp hv), (1, vu wv)] ?_
 refine T_sr 0 K1 K2 ?_
 refine T_nw (some 2) (fun b => vp (pa b)) (.cells #[vp hv] 30) ?_
 intro b H1 e1 e2
 replace h := h b H1 e1 e2
 refine ⟨[(1, vu wv), (2, vp (pa b))], pk, ?_⟩
 refine T_nw (some 3) (fun b => vp (pa b)) (.cells #[vu wv] 35) ?_
 intro a H2 e3 e4
 replace h := h a H2 e3 e4
 refine ⟨[(2, vp (pa b)), (3, vp (pa a))], pk, ?_⟩
 refine T_ne 1 [(2, vp (pa b)), (3, vp (pa a))] ?_
 refine T_sr 1 K3 K4 ?_
 refine T_ne 2 [(4, .func (.func 164) #[] #[vp (pa b), vp (pa a)])] ?_
 exact T_ret [4] [.func (.func 164) #[] #[vp (pa b), vp (pa a)]] hQ h
end texts_runes

/-! moraine/texts.set -/
namespace texts_cut
def K0 := Func.code Tryz.f122
def K1 := ca K0
def K2 := cb K0
def K3 := ca K2
def K4 := cb K2
def K5 := ca K3
def K6 := cb K3
def K7 := ca K6
def K8 := cb K6
def K9 := ca K7
def K10 := cb K7
def K11 := ca K4
def K12 := cb K4
end texts_cut
def texts_cut.pt (hv : Option Addr) (lB : Option Addr) (lN : Nat) (lC : Nat) (fromv : Int) (to : Int) (H : Array Obj) (R : Value → Array Obj → Prop) : Prop :=
 if (((decide (fromv < 0)) || (decide (fromv > to))) || (decide (to > (lN : Int)))) = true then (
 R (.tuple #[.int .u64 0, .int .i64 4]) H)
 else
 ∃ (lo hi : Nat), fromv = (lo : Int) ∧ to = (hi : Int) ∧ lo ≤ hi ∧ hi ≤ lC ∧
 ∀ sl : Option Addr, sl = (if lC = lo then lB else Option.map (fun a : Addr => a.add (lo * 1)) lB) →
 texts_made.C hv sl (hi - lo) (lC - lo) H (fun v H1 => ∃ ra : Int, ∃ rb : Int, v = .tuple #[.int .u64 ra, .int .i64 rb] ∧ 
 R (.tuple #[.int .u64 ra, .int .i64 rb]) H1)
namespace texts_cut
set_option maxRecDepth 100000 in
theorem link {hv : Option Addr} {lB : Option Addr} {lN : Nat} {lC : Nat} {fromv : Int} {to : Int} {H : Array Obj} {R : Value → Array Obj → Prop} (h : pt hv lB lN lC fromv to H R) : C hv lB lN lC fromv to H R := by
 refine T_en K0 31 Tryz.func122 ?_
 intro w0 Q hQ
 unfold pt at h
 refine T_su [(0, vp hv), (1, vs lB lN lC), (2, vi fromv), (3, vi to)] ?_
 refine T_sr 0 K1 K2 ?_
 refine T_ne 2 [(0, vp hv), (1, vs lB lN lC), (2, vi fromv), (3, vi to)] ?_
 refine T_s K3 K4 ?_
 refine T_sr 1 K5 K6 ?_
 refine N_cut [(0, vp hv), (1, vs lB lN lC), (2, vi fromv), (3, vi to), (22, .bool (((decide (fromv < 0)) || (decide (fromv > to))) || (decide (to > (lN : Int)))))] ?_ ?_
 ·refine S_then ?_
  by_cases c5 : (((decide (fromv < 0)) || (decide (fromv > to))) || (decide (to > (lN : Int)))) = true
  ·rw [if_pos c5] at h
   have b6 : (((decide (fromv < 0)) || (decide (fromv > to))) || (decide (to > (lN : Int)))) = true := c5
   refine T_cT 22 K7 K8 b6 ?_
   refine T_sr 2 K9 K10 ?_
   refine T_ne 2 [(8, vu 0), (9, vi 4)] ?_
   exact T_ret [8, 9] [vu 0, vi 4] hQ h
  rw [if_neg c5] at h
  have b6 : (((decide (fromv < 0)) || (decide (fromv > to))) || (decide (to > (lN : Int)))) = false := eq_false_of_ne_true c5
  refine T_cF 22 K7 K8 b6 ?_
  refine T_kt ?_
  refine T_sr 3 K11 K12 ?_
  refine T_n 4 [(23, vp hv), (24, vs lB lN lC), (25, vi fromv), (26, vi to)] ?_
  obtain ⟨lo, hi, q7, q8, q9, q10, h⟩ := h
  obtain ⟨sl, e11⟩ : ∃ B, B = (if lC = lo then lB else Option.map (fun a : Addr => a.add (lo * 1)) lB) := ⟨_, rfl⟩
  replace h := h sl e11
  refine T_v (some 27) (sliceN 65 (vs lB lN lC) (some (vi fromv)) (some (vi to)) none) (vs sl (hi - lo) (lC - lo)) (fun w _ => (slice_run (P := Tryz.prog) (t := 65) (elem := 21) (sz := 1) (a := lB) (len := lN) (cap := lC) (some (vi fromv)) (some (vi to)) lo hi Tryz.underlying65 (fun _=>by kernel_rfl) (.inr ⟨.i64, by rw [q7]⟩) (.inr ⟨.i64, by rw [q8]⟩) q9 q10 w).trans (by rw [e11]; try rfl)) [(23, vp hv), (27, vs sl (hi - lo) (lC - lo))] ?_
  refine T_c (some 28) h ?_; clear h
  rintro v H1 ⟨ra, rb, rfl, h⟩
  refine ⟨[(28, .tuple #[vu ra, vi rb])], pk, ?_⟩
  refine T_ne 4 [(8, vu ra), (9, vi rb)] ?_
  exact T_ret [8, 9] [vu ra, vi rb] hQ h
 intro hk
 refine T_n 3 [(0, vp hv), (1, vs lB lN lC), (2, vi fromv), (3, vi to), (12, .bool (decide (fromv < 0)))] ?_
 by_cases c1 : fromv < 0
 ·have b2 : (decide (fromv < 0)) = true := decide_eq_true c1
  refine N_env [(0, vp hv), (1, vs lB lN lC), (2, vi fromv), (3, vi to), (12, .bool true)] (by rw [b2]) ?_
  refine T_n 10 [(0, vp hv), (1, vs lB lN lC), (2, vi fromv), (3, vi to), (22, .bool true)] ?_
  refine N_end (by kernel_rfl) ?_
  refine S_env [(0, vp hv), (1, vs lB lN lC), (2, vi fromv), (3, vi to), (22, .bool (((decide (fromv < 0)) || (decide (fromv > to))) || (decide (to > (lN : Int)))))] (by simp only [b2, BL]) ?_
  exact hk
 have b2 : (decide (fromv < 0)) = false := decide_eq_false c1
 refine N_env [(0, vp hv), (1, vs lB lN lC), (2, vi fromv), (3, vi to), (12, .bool false)] (by rw [b2]) ?_
 refine T_n 5 [(0, vp hv), (1, vs lB lN lC), (2, vi fromv), (3, vi to), (17, .bool (decide (fromv > to)))] ?_
 by_cases c3 : fromv > to
 ·have b4 : (decide (fromv > to)) = true := decide_eq_true c3
  refine N_env [(0, vp hv), (1, vs lB lN lC), (2, vi fromv), (3, vi to), (17, .bool true)] (by rw [b4]) ?_
  refine T_n 5 [(0, vp hv), (1, vs lB lN lC), (2, vi fromv), (3, vi to), (22, .bool true)] ?_
  refine N_end (by kernel_rfl) ?_
  refine S_env [(0, vp hv), (1, vs lB lN lC), (2, vi fromv), (3, vi to), (22, .bool (((decide (fromv < 0)) || (decide (fromv > to))) || (decide (to > (lN : Int)))))] (by simp only [b2, b4, BL]) ?_
  exact hk
 have b4 : (decide (fromv > to)) = false := decide_eq_false c3
 refine N_env [(0, vp hv), (1, vs lB lN lC), (2, vi fromv), (3, vi to), (17, .bool false)] (by rw [b4]) ?_
 refine T_n 5 [(0, vp hv), (1, vs lB lN lC), (2, vi fromv), (3, vi to), (22, .bool (decide (to > (lN : Int))))] ?_
 refine N_end (by kernel_rfl) ?_
 refine S_env [(0, vp hv), (1, vs lB lN lC), (2, vi fromv), (3, vi to), (22, .bool (((decide (fromv < 0)) || (decide (fromv > to))) || (decide (to > (lN : Int)))))] (by simp only [b2, b4, BL]) ?_
 exact hk
end texts_cut

/-! moraine/texts.chars -/
namespace texts_chars
def K0 := Func.code Tryz.f123
def K1 := ca K0
def K2 := cb K0
def K3 := ca K2
def K4 := cb K2
def K5 := ca K4
def K6 := cb K4
def K7 := ca K5
def K8 := cb K5
def K9 := ca K8
def K10 := ca K9
def K11 := ca K10
def K12 := cb K10
def K13 := ca K12
def K14 := cb K12
def K15 := ca K13
def K16 := cb K13
def K17 := ca K14
def K18 := cb K14
def K19 := ca K17
def K20 := ca K19
def K21 := cb K19
def K22 := ca K21
def K23 := cb K21
def K24 := ca K6
def K25 := cb K6
end texts_chars
def texts_chars.pt (lB : Option Addr) (lN : Nat) (lC : Nat) (H : Array Obj) (R : Value → Array Obj → Prop) : Prop :=
 ∃ (g : (Option Addr) → Nat → Nat → Int → Array Obj → Prop) (m11 : (Option Addr) → Nat → Nat → Int → Array Obj → Nat), g none 0 0 0 H ∧ ∀ (d : Option Addr) (outN : Nat) (outC : Nat) (s10 : Int) (H1 : Array Obj), g d outN outC s10 H1 →
 if s10 < (lN : Int) then (
 ∃ e : Addr, lB = some e ∧
 ((0 : Int) ≤ s10 ∧ s10 < (lN : Int)) ∧
 ∃ x : Int, hat H1 (e.add (Int.toNat s10 * 1)) = some (.int .i32 x) ∧
 word_Char.C x H1 (fun v H2 => ∃ ra : Int, ∃ rb : Int, v = .tuple #[.int .u64 ra, .int .i64 rb] ∧ 
 ∀ (b : Nat) (H3 : Array Obj), b = H2.size → H3 = H2.push (.cells #[.int .u64 ra] 35) →
 appendK 1 35 8 [.int .u64 0] d outN outC (some (Addr.mk b 0 none)) 1 H3 (fun ap f H4 =>
 (g ap (outN + 1) f (IntKind.wrap .i64 (s10 + 1)) H4 ∧ m11 ap (outN + 1) f (IntKind.wrap .i64 (s10 + 1)) H4 < m11 d outN outC s10 H1))))
 else
 R (.slice d outN outC) H1
namespace texts_chars
set_option maxRecDepth 100000 in
theorem link {lB : Option Addr} {lN : Nat} {lC : Nat} {H : Array Obj} {R : Value → Array Obj → Prop} (h : pt lB lN lC H R) : C lB lN lC H R := by
 refine T_en K0 25 Tryz.func123 ?_
 intro w0 Q hQ
 unfold pt at h
 refine T_su [(0, vs lB lN lC)] ?_
 refine T_sr 0 K1 K2 ?_
 refine T_ne 1 [(0, vs lB lN lC)] ?_
 refine T_sr 1 K3 K4 ?_
 refine T_ne 1 [(0, vs lB lN lC), (3, vs none 0 0)] ?_
 refine T_s K5 K6 ?_
 refine T_sr 2 K7 K8 ?_
 refine T_ne 3 [(3, vs none 0 0), (8, vs lB lN lC), (9, vi lN), (10, vi 0)] ?_
 refine T_b 0 K9 ?_
 obtain ⟨g, m11, i1, i2⟩ := h
 refine S_loop (x := K10) (σ := (Option Addr) × Nat × Nat × Int) (fun s_ => [(3, vs s_.1 s_.2.1 s_.2.2.1), (8, vs lB lN lC), (9, vi lN), (10, vi s_.2.2.2)]) (fun s_ H => g s_.1 s_.2.1 s_.2.2.1 s_.2.2.2 H) (fun s_ H => m11 s_.1 s_.2.1 s_.2.2.1 s_.2.2.2 H) ((none, 0, 0, 0) : (Option Addr) × Nat × Nat × Int) (by kernel_rfl) i1 sk ?_
 rintro ⟨d, outN, outC, s10⟩ H1 i3
 have h := i2 d outN outC s10 H1 i3
 refine T_su [(3, vs d outN outC), (8, vs lB lN lC), (9, vi lN), (10, vi s10)] ?_
 refine T_sr 3 K11 K12 ?_
 refine T_ne 1 [(3, vs d outN outC), (8, vs lB lN lC), (9, vi lN), (10, vi s10), (11, .bool (decide (s10 < (lN : Int))))] ?_
 refine T_s K13 K14 ?_
 by_cases c4 : s10 < (lN : Int)
 ·rw [if_pos c4] at h
  have b5 : (decide (s10 < (lN : Int))) = true := decide_eq_true c4
  refine T_cT 11 K15 K16 b5 ?_
  refine T_kt ?_
  refine T_s K17 K18 ?_
  refine T_b 1 K19 ?_
  refine T_sr 4 K20 K21 ?_
  refine T_nu [(3, vs d outN outC), (8, vs lB lN lC), (9, vi lN), (10, vi s10)] ?_
  obtain ⟨e, rfl, h⟩ := h
  obtain ⟨q6, h⟩ := h
  refine T_ix (some 12) 65 21 1 e lN lC .i64 s10 Tryz.underlying65 q6.1 q6.2 [(3, vs d outN outC), (8, vs (some e) lN lC), (9, vi lN), (10, vi s10), (12, vp (some (e.add (Int.toNat s10 * 1))))] ?_
  obtain ⟨x, q7, h⟩ := h
  refine T_l (some 13) 21 q7 [(3, vs d outN outC), (8, vs (some e) lN lC), (9, vi lN), (10, vi s10), (13, .int .i32 x)] ?_
  refine T_ne 1 [(3, vs d outN outC), (5, .int .i32 x), (8, vs (some e) lN lC), (9, vi lN), (10, vi s10)] ?_
  refine T_sr 5 K22 K23 ?_
  refine T_n 1 [(3, vs d outN outC), (8, vs (some e) lN lC), (9, vi lN), (10, vi s10), (15, .int .i32 x)] ?_
  refine T_c (some 16) h ?_; clear h
  rintro v H2 ⟨ra, rb, rfl, h⟩
  refine ⟨[(3, vs d outN outC), (8, vs (some e) lN lC), (9, vi lN), (10, vi s10), (16, .tuple #[vu ra, vi rb])], pk, ?_⟩
  refine T_ne 5 [(3, vs d outN outC), (6, vu ra), (8, vs (some e) lN lC), (9, vi lN), (10, vi s10)] ?_
  refine T_r 6 K23 ?_
  refine T_n 2 [(8, vs (some e) lN lC), (9, vi lN), (10, vi s10), (19, vs d outN outC), (20, vu ra)] ?_
  refine T_nw (some 21) (fun b => vs (pa b) 1 1) (.cells #[vu ra] 35) ?_
  intro b H3 e8 e9
  replace h := h b H3 e8 e9
  refine ⟨[(8, vs (some e) lN lC), (9, vi lN), (10, vi s10), (19, vs d outN outC), (21, vs (pa b) 1 1)], pk, ?_⟩
  refine N_op (some 22) (appendN #[43, 43] 43 #[vs d outN outC, vs (pa b) 1 1]) _ (fun _=>by kernel_rfl) (ss_append (T := 35) (sz := 1) (bytes := 8) (zero := (vu 0 : Value)) Tryz.underlying43 Tryz.underlying43 rfl (show Tryz.prog.info? 35 = some Tryz.t35 from by kernel_rfl) (by kernel_rfl) (by kernel_rfl) (by decide) (by kernel_rfl) (by first | exact h | (simpa only [Value.cells, List.toList_toArray] using h))) ?_; clear h
  rintro _ H4 ⟨ap, f, rfl, h⟩
  refine ⟨[(8, vs (some e) lN lC), (9, vi lN), (10, vi s10), (22, vs ap (outN + 1) f)], pk, ?_⟩
  refine T_n 1 [(3, vs ap (outN + 1) f), (8, vs (some e) lN lC), (9, vi lN), (10, vi s10)] ?_
  refine N_end (by kernel_rfl) ?_
  refine S_blockEnd ?_
  refine S_then ?_
  refine T_r 7 K18 ?_
  refine T_ne 2 [(3, vs ap (outN + 1) f), (8, vs (some e) lN lC), (9, vi lN), (10, vi (IntKind.wrap .i64 (s10 + 1)))] ?_
  exact S_round ((ap, (outN + 1), f, (IntKind.wrap .i64 (s10 + 1))) : (Option Addr) × Nat × Nat × Int) sk h
 rw [if_neg c4] at h
 have b5 : (decide (s10 < (lN : Int))) = false := decide_eq_false c4
 refine T_cF 11 K15 K16 b5 ?_
 refine S_exit 0 (by kernel_rfl) ?_
 refine S_exitThen ?_
 refine S_exitThen ?_
 refine S_exitHere ?_
 refine S_then ?_
 refine T_sr 8 K24 K25 ?_
 refine T_ne 2 [(2, vs d outN outC)] ?_
 exact T_ret [2] [vs d outN outC] hQ h
end texts_chars

/-! moraine/texts.runes.1 -/
namespace texts_runes_1
def K0 := Func.code Tryz.f164
def K1 := ca K0
def K2 := cb K0
def K3 := ca K2
def K4 := cb K2
def K5 := ca K4
def K6 := ca K5
def K7 := ca K6
def K8 := cb K6
def K9 := ca K8
def K10 := cb K8
def K11 := ca K9
def K12 := cb K9
def K13 := ca K10
def K14 := ca K13
def K15 := cb K13
def K16 := ca K15
def K17 := cb K15
def K18 := ca K17
def K19 := cb K17
end texts_runes_1
def texts_runes_1.pt (yield : Value) (cap0 : Option Addr) (cap1 : Option Addr) (H : Array Obj) (R : Value → Array Obj → Prop) : Prop :=
 ∃ e : Addr, cap0 = some e ∧
 ∃ x : Option Addr, hat H e = some (.pointer x) ∧
 ∃ d : Addr, cap1 = some d ∧
 ∃ f : Int, hat H d = some (.int .u64 f) ∧
 obj_Heap_Text.C x f H (fun v H1 => ∃ ra : ByteArray, ∃ rb : Int, v = .tuple #[.string ra, .int .i64 rb] ∧ 
 ∀ (b : Nat) (H2 : Array Obj), b = H1.size → H2 = H1.push (.stringIter ra 0) →
 ∃ (I7 : Array Obj → Prop) (m7 : Array Obj → Nat), I7 H2 ∧ ∀ (H3 : Array Obj), I7  H3 →
 ∃ (s : ByteArray) (pos : Nat), H3[b]? = some (.stringIter s pos) ∧
 if pos < s.size then (∀ H4 : Array Obj, H4 = setBlk H3 b (.stringIter s (pos + (Utf8.decode s pos).2)) →
 FC Tryz.prog yield #[.int .i32 ((Utf8.decode s pos).1 : Int)] H4 (fun g H5 => ∃ a : Bool, g = .bool a ∧ 
 if a = true then (
 (I7 H5 ∧ m7 H5 < m7  H3))
 else
 R (.tuple #[]) H5))
 else
 R (.tuple #[]) H3)
namespace texts_runes_1
set_option maxRecDepth 100000 in
theorem link {yield : Value} {cap0 : Option Addr} {cap1 : Option Addr} {H : Array Obj} {R : Value → Array Obj → Prop} (h : pt yield cap0 cap1 H R) : C yield cap0 cap1 H R := by
 refine T_en K0 23 Tryz.func164 ?_
 intro w0 Q hQ
 unfold pt at h
 refine T_su [(0, yield), (1, vp cap0), (2, vp cap1)] ?_
 refine T_sr 0 K1 K2 ?_
 obtain ⟨e, rfl, h⟩ := h
 obtain ⟨x, q1, h⟩ := h
 refine T_l (some 9) 30 q1 [(0, yield), (2, vp cap1), (9, vp x)] ?_
 obtain ⟨d, rfl, h⟩ := h
 obtain ⟨f, q2, h⟩ := h
 refine T_l (some 10) 35 q2 [(0, yield), (9, vp x), (10, vu f)] ?_
 refine T_c (some 11) h ?_; clear h
 rintro v H1 ⟨ra, rb, rfl, h⟩
 refine ⟨[(0, yield), (11, .tuple #[.string ra, vi rb])], pk, ?_⟩
 refine T_ne 5 [(0, yield), (4, .string ra)] ?_
 refine T_sr 1 K3 K4 ?_
 refine T_n 1 [(0, yield), (14, .string ra)] ?_
 refine T_nw (some 15) (fun b => vp (pa b)) (.stringIter ra 0) ?_
 intro b H2 e3 e4
 replace h := h b H2 e3 e4
 refine ⟨[(0, yield), (15, vp (pa b))], pk, ?_⟩
 refine T_e ?_
 refine T_b 0 K5 ?_
 obtain ⟨I7, m7, i5, i6⟩ := h
 refine S_loop (x := K6) (σ := Unit) (fun s_ => [(0, yield), (15, vp (pa b))]) (fun s_ H => I7  H) (fun s_ H => m7  H) (() : Unit) (by kernel_rfl) i5 sk ?_
 rintro _ H3 i7
 have h := i6 H3 i7
 refine T_su [(0, yield), (15, vp (pa b))] ?_
 refine T_sr 2 K7 K8 ?_
 obtain ⟨s, pos, q8, h⟩ := h
 by_cases c9 : pos < s.size
 ·rw [if_pos c9] at h
  refine N_op (some 16) (nextN (vp (pa b)) true 0) _ (fun _=>by kernel_rfl) (next_go q8 c9) ?_
  rintro _ H4 ⟨rfl, e12⟩
  replace h := h H4 (by assumption)
  refine ⟨[(0, yield), (15, vp (pa b)), (16, .tuple #[.bool true, vi pos, .int .i32 ((Utf8.decode s pos).1 : Int)])], pk, ?_⟩
  refine T_ne 1 [(0, yield), (15, vp (pa b)), (16, .tuple #[.bool true, vi pos, .int .i32 ((Utf8.decode s pos).1 : Int)]), (17, .bool true)] ?_
  refine T_s K9 K10 ?_
  refine T_t 17 K11 K12 ?_
  refine T_kt ?_
  refine T_b 1 K13 ?_
  refine T_sr 3 K14 K15 ?_
  refine T_ne 2 [(0, yield), (7, .int .i32 ((Utf8.decode s pos).1 : Int)), (15, vp (pa b))] ?_
  refine T_sr 4 K16 K17 ?_
  refine T_n 2 [(0, yield), (15, vp (pa b)), (19, yield), (20, .int .i32 ((Utf8.decode s pos).1 : Int))] ?_
  refine N_callv (some 21) yield #[.int .i32 ((Utf8.decode s pos).1 : Int)] (fun _=>by kernel_rfl) h ?_; clear h
  rintro g H5 ⟨a, rfl, h⟩
  refine ⟨[(0, yield), (15, vp (pa b)), (21, .bool a)], pk, ?_⟩
  refine T_ne 1 [(0, yield), (15, vp (pa b)), (22, .bool (!a))] ?_
  by_cases c10 : a = true
  ·rw [if_pos c10] at h
   have b11 : (!a) = false := congrArg Bool.not (c10)
   refine T_cF 22 K18 K19 b11 ?_
   refine T_k ?_
   refine S_blockEnd ?_
   refine S_then ?_
   exact S_round (s := ()) (() : Unit) sk h
  rw [if_neg c10] at h
  have b11 : (!a) = true := congrArg Bool.not (eq_false_of_ne_true c10)
  refine T_cT 22 K18 K19 b11 ?_
  exact T_ret [] [] hQ h
 rw [if_neg c9] at h
 refine N_op (some 16) (nextN (vp (pa b)) true 0) _ (fun _=>by kernel_rfl) (next_end q8 c9) ?_
 rintro _ _ ⟨rfl, rfl⟩
 refine ⟨[(0, yield), (15, vp (pa b)), (16, .tuple #[.bool false])], pk, ?_⟩
 refine T_ne 1 [(0, yield), (15, vp (pa b)), (16, .tuple #[.bool false]), (17, .bool false)] ?_
 refine T_s K9 K10 ?_
 refine T_f 17 K11 K12 ?_
 refine S_exit 0 (by kernel_rfl) ?_
 refine S_exitThen ?_
 refine S_exitThen ?_
 refine S_exitHere ?_
 exact S_doneN (fn := Tryz.f164) [] hQ (show ResOK _ _ _ [] _ from .nil) h
end texts_runes_1

end Go.Proofs.YthlohokmnajpoaaGreatDoor
