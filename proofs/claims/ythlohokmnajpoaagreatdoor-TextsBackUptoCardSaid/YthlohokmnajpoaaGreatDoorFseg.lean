/- Printed: what each function asks, and that it is sound. -/
import Derived.Test.YthlohokmnajpoaaGreatDoorFnsC
set_option linter.unusedSimpArgs false
set_option linter.unusedVariables false
set_option maxHeartbeats 1000000
noncomputable section
namespace Go.Proofs.YthlohokmnajpoaaGreatDoor
open Go
/-! (*moraine/seg.Mem).Seg -/
namespace seg_Mem_Seg
def K0 := Func.code Tryz.f55
def K1 := ca K0
def K2 := cb K0
def K3 := ca K2
def K4 := cb K2
def K5 := ca K4
def K6 := cb K4
def K7 := ca K5
def K8 := cb K5
def K9 := ca K8
def K10 := cb K8
def K11 := ca K9
def K12 := cb K9
def K13 := ca K6
def K14 := cb K6
end seg_Mem_Seg
def seg_Mem_Seg.pt (m : Option Addr) (seg : Int) (H : Array Obj) (R : Value → Array Obj → Prop) : Prop :=
 ∀ (b : Nat) (H1 : Array Obj), b = H.size → H1 = H.push (.cells #[.int .i64 0, .int .i64 0, .int .i64 0, .int .i64 0, .int .i64 0, .int .i64 0, .int .i64 0] 119) →
 seg_Mem_at.C m seg H1 (fun v H2 => ∃ x : Option Addr, v = .pointer x ∧ 
 onPtr x (
 (CanPuts H2 (Addr.mk b 0 none) 0 7) ∧ ∀ H3 : Array Obj, H3 = hputs H2 (Addr.mk b 0 none) [.int .i64 0, .int .i64 0, .int .i64 0, .int .i64 0, .int .i64 0, .int .i64 0, .int .i64 0] 0 →
 ∃ y : Int, ∃ u : Int, ∃ rN : Int, ∃ p : Int, ∃ q : Int, ∃ n : Int, ∃ o : Int, RowAt H3 (Addr.mk b 0 none) 0 [.int .i64 y, .int .i64 u, .int .i64 rN, .int .i64 p, .int .i64 q, .int .i64 n, .int .i64 o] ∧
 R (.tuple #[.agg #[.int .i64 y, .int .i64 u, .int .i64 rN, .int .i64 p, .int .i64 q, .int .i64 n, .int .i64 o], .bool false]) H3) (fun xA =>
 ∃ r : Int, ∃ l : Int, ∃ xN : Int, ∃ e : Int, ∃ d : Int, ∃ f : Int, ∃ a : Int, RowAt H2 xA 0 [.int .i64 r, .int .i64 l, .int .i64 xN, .int .i64 e, .int .i64 d, .int .i64 f, .int .i64 a] ∧
 (CanPuts H2 (Addr.mk b 0 none) 0 7) ∧ ∀ H4 : Array Obj, H4 = hputs H2 (Addr.mk b 0 none) [.int .i64 r, .int .i64 l, .int .i64 xN, .int .i64 e, .int .i64 d, .int .i64 f, .int .i64 a] 0 →
 ∃ t : Int, ∃ s : Int, ∃ z : Int, ∃ i : Int, ∃ k : Int, ∃ j : Int, ∃ g : Int, RowAt H4 (Addr.mk b 0 none) 0 [.int .i64 t, .int .i64 s, .int .i64 z, .int .i64 i, .int .i64 k, .int .i64 j, .int .i64 g] ∧
 R (.tuple #[.agg #[.int .i64 t, .int .i64 s, .int .i64 z, .int .i64 i, .int .i64 k, .int .i64 j, .int .i64 g], .bool true]) H4))
namespace seg_Mem_Seg
set_option maxRecDepth 100000 in
theorem link {m : Option Addr} {seg : Int} {H : Array Obj} {R : Value → Array Obj → Prop} (h : pt m seg H R) : C m seg H R := by
 refine T_en K0 17 Tryz.func55 ?_
 intro w0 Q hQ
 unfold pt at h
 refine T_su [(0, vp m), (1, vi seg)] ?_
 refine T_sr 0 K1 K2 ?_
 refine T_nw (some 4) (fun b => vp (pa b)) (.cells #[vi 0, vi 0, vi 0, vi 0, vi 0, vi 0, vi 0] 119) ?_
 intro b H1 e1 e2
 replace h := h b H1 e1 e2
 refine ⟨[(0, vp m), (1, vi seg), (4, vp (pa b))], pk, ?_⟩
 refine T_ne 1 [(0, vp m), (1, vi seg), (4, vp (pa b))] ?_
 refine T_sr 1 K3 K4 ?_
 refine T_n 2 [(4, vp (pa b)), (7, vp m), (8, vi seg)] ?_
 refine T_c (some 9) h ?_; clear h
 rintro v H2 ⟨x, rfl, h⟩
 refine ⟨[(4, vp (pa b)), (9, vp x)], pk, ?_⟩
 refine T_ne 1 [(4, vp (pa b)), (6, vp x)] ?_
 refine T_s K5 K6 ?_
 refine T_sr 2 K7 K8 ?_
 refine T_n 1 [(4, vp (pa b)), (6, vp x), (10, vp x)] ?_
 rcases x with _ | xA
 ·rw [onPtr_none] at h
  refine T_ne 1 [(4, vp (pa b)), (6, vp none), (11, .bool true)] ?_
  refine T_t 11 K9 K10 ?_
  refine T_sr 3 K11 K12 ?_
  refine T_n 1 [(4, vp (pa b)), (12, .agg #[vi 0, vi 0, vi 0, vi 0, vi 0, vi 0, vi 0])] ?_
  obtain ⟨q4, h⟩ := h
  refine N_skipop none (storeN 119 (vp (pa b)) (.agg #[vi 0, vi 0, vi 0, vi 0, vi 0, vi 0, vi 0])) (fun Hz => Hz = hputs H2 (Addr.mk b 0 none) [vi 0, vi 0, vi 0, vi 0, vi 0, vi 0, vi 0] 0) (fun _=>by kernel_rfl) (ss_store [vi 0, vi 0, vi 0, vi 0, vi 0, vi 0, vi 0] 7 (by kernel_rfl) (by kernel_rfl) (fun _=>by kernel_rfl) (by kernel_rfl) q4) ?_
  intro H3 e3
  replace h := h H3 e3
  refine ⟨[(4, vp (pa b))], pk, ?_⟩
  refine T_ne 1 [(4, vp (pa b)), (5, .bool false)] ?_
  refine S_ret (by kernel_rfl) ?_
  show At _ _ _ _ _ (Q .ret)
  obtain ⟨y, u, rN, p, q, n, o, q5, h⟩ := h
  exact S_done (fn := Tryz.f55) [.agg #[vi y, vi u, vi rN, vi p, vi q, vi n, vi o], .bool false] hQ (show ResOK _ _ _ [.cell 4 119, .tmp 5] _ from .cell (by kernel_rfl) (loadOK_row (fun _=>by kernel_rfl) (fun _=>by kernel_rfl) q5) (.tmp (by kernel_rfl) (.nil))) h
 rw [onPtr_some] at h
 refine T_ne 1 [(4, vp (pa b)), (6, vp (some xA)), (11, .bool false)] ?_
 refine T_f 11 K9 K10 ?_
 refine T_kt ?_
 refine T_sr 4 K13 K14 ?_
 refine T_n 3 [(4, vp (pa b)), (15, vp (some xA))] ?_
 obtain ⟨r, l, xN, e, d, f, a, q6, h⟩ := h
 refine T_v (some 16) (loadN 119 (vp (some xA))) (.agg #[vi r, vi l, vi xN, vi e, vi d, vi f, vi a]) (loadN_run (loadOK_row (fun _=>by kernel_rfl) (fun _=>by kernel_rfl) q6)) [(4, vp (pa b)), (16, .agg #[vi r, vi l, vi xN, vi e, vi d, vi f, vi a])] ?_
 obtain ⟨q8, h⟩ := h
 refine N_skipop none (storeN 119 (vp (pa b)) (.agg #[vi r, vi l, vi xN, vi e, vi d, vi f, vi a])) (fun Hz => Hz = hputs H2 (Addr.mk b 0 none) [vi r, vi l, vi xN, vi e, vi d, vi f, vi a] 0) (fun _=>by kernel_rfl) (ss_store [vi r, vi l, vi xN, vi e, vi d, vi f, vi a] 7 (by kernel_rfl) (by kernel_rfl) (fun _=>by kernel_rfl) (by kernel_rfl) q8) ?_
 intro H4 e7
 replace h := h H4 e7
 refine ⟨[(4, vp (pa b))], pk, ?_⟩
 refine T_ne 1 [(4, vp (pa b)), (5, .bool true)] ?_
 refine S_ret (by kernel_rfl) ?_
 show At _ _ _ _ _ (Q .ret)
 obtain ⟨t, s, z, i, k, j, g, q9, h⟩ := h
 exact S_done (fn := Tryz.f55) [.agg #[vi t, vi s, vi z, vi i, vi k, vi j, vi g], .bool true] hQ (show ResOK _ _ _ [.cell 4 119, .tmp 5] _ from .cell (by kernel_rfl) (loadOK_row (fun _=>by kernel_rfl) (fun _=>by kernel_rfl) q9) (.tmp (by kernel_rfl) (.nil))) h
end seg_Mem_Seg

/-! (*moraine/seg.Mem).Read -/
namespace seg_Mem_Read
def K0 := Func.code Tryz.f101
def K1 := ca K0
def K2 := cb K0
def K3 := ca K2
def K4 := cb K2
def K5 := ca K3
def K6 := cb K3
def K7 := ca K6
def K8 := cb K6
def K9 := ca K8
def K10 := cb K8
def K11 := ca K4
def K12 := cb K4
def K13 := ca K9
def K14 := cb K9
end seg_Mem_Read
def seg_Mem_Read.pt (m : Option Addr) (addr : Int) (H : Array Obj) (R : Value → Array Obj → Prop) : Prop :=
 seg_Mem_word.C m addr H (fun v H1 => ∃ x : Option Addr, v = .pointer x ∧ 
 onPtr x (
 R (.tuple #[.int .u64 0, .int .i64 18]) H1) (fun xA =>
 ∃ a : Int, hat H1 xA = some (.int .u64 a) ∧
 R (.tuple #[.int .u64 a, .int .i64 0]) H1))
namespace seg_Mem_Read
set_option maxRecDepth 100000 in
theorem link {m : Option Addr} {addr : Int} {H : Array Obj} {R : Value → Array Obj → Prop} (h : pt m addr H R) : C m addr H R := by
 refine T_en K0 15 Tryz.func101 ?_
 intro w0 Q hQ
 unfold pt at h
 refine T_su [(0, vp m), (1, vi addr)] ?_
 refine T_sr 0 K1 K2 ?_
 refine T_ne 2 [(0, vp m), (1, vi addr)] ?_
 refine T_s K3 K4 ?_
 refine T_sr 1 K5 K6 ?_
 refine T_n 2 [(7, vp m), (8, vi addr)] ?_
 refine T_c (some 9) h ?_; clear h
 rintro v H1 ⟨x, rfl, h⟩
 refine ⟨[(9, vp x)], pk, ?_⟩
 refine T_ne 1 [(6, vp x)] ?_
 refine T_sr 2 K7 K8 ?_
 refine T_n 1 [(6, vp x), (10, vp x)] ?_
 rcases x with _ | xA
 ·rw [onPtr_none] at h
  refine T_ne 1 [(6, vp none), (11, .bool false)] ?_
  refine T_f 11 K9 K10 ?_
  refine T_kt ?_
  refine T_sr 4 K11 K12 ?_
  refine T_ne 2 [(4, vu 0), (5, vi 18)] ?_
  exact T_ret [4, 5] [vu 0, vi 18] hQ h
 rw [onPtr_some] at h
 refine T_ne 1 [(6, vp (some xA)), (11, .bool true)] ?_
 refine T_t 11 K9 K10 ?_
 refine T_sr 3 K13 K14 ?_
 refine T_n 2 [(13, vp (some xA))] ?_
 obtain ⟨a, q1, h⟩ := h
 refine T_l (some 14) 35 q1 [(14, vu a)] ?_
 refine T_ne 2 [(4, vu a), (5, vi 0)] ?_
 exact T_ret [4, 5] [vu a, vi 0] hQ h
end seg_Mem_Read

/-! (*moraine/seg.Mem).at -/
namespace seg_Mem_at
def K0 := Func.code Tryz.f107
def K1 := ca K0
def K2 := cb K0
def K3 := ca K2
def K4 := cb K2
def K5 := ca K3
def K6 := cb K3
def K7 := ca K6
def K8 := cb K6
def K9 := ca K7
def K10 := cb K7
def K11 := ca K4
def K12 := cb K4
end seg_Mem_at
def seg_Mem_at.pt (m : Option Addr) (seg : Int) (H : Array Obj) (R : Value → Array Obj → Prop) : Prop :=
 onPtr m (
 R (.pointer none) H) (fun mA =>
 if seg < 0 then (
 R (.pointer none) H)
 else
 ∃ xB : Option Addr, ∃ xN : Nat, ∃ xC : Nat, hat H mA = some (.slice xB xN xC) ∧
 if seg ≥ (xN : Int) then (
 R (.pointer none) H)
 else
 ∃ l : Option Addr, ∃ f : Nat, ∃ j : Nat, hat H mA = some (.slice l f j) ∧
 ∃ b : Addr, l = some b ∧
 ((0 : Int) ≤ seg ∧ seg < (f : Int)) ∧
 ∃ x : Int, hat H ((b.add (Int.toNat seg * 72)).add 7) = some (.int .i64 x) ∧
 if x = 0 then (
 R (.pointer none) H)
 else
 ∃ n : Option Addr, ∃ e : Nat, ∃ g : Nat, hat H mA = some (.slice n e g) ∧
 ∃ d : Addr, n = some d ∧
 ((0 : Int) ≤ seg ∧ seg < (e : Int)) ∧
 R (.pointer (some (d.add (Int.toNat seg * 72)))) H)
namespace seg_Mem_at
set_option maxRecDepth 100000 in
theorem link {m : Option Addr} {seg : Int} {H : Array Obj} {R : Value → Array Obj → Prop} (h : pt m seg H R) : C m seg H R := by
 refine T_en K0 37 Tryz.func107 ?_
 intro w0 Q hQ
 unfold pt at h
 refine T_su [(0, vp m), (1, vi seg)] ?_
 refine T_sr 0 K1 K2 ?_
 refine T_ne 1 [(0, vp m), (1, vi seg)] ?_
 refine T_s K3 K4 ?_
 refine T_sr 1 K5 K6 ?_
 refine T_n 1 [(0, vp m), (1, vi seg), (5, vp m)] ?_
 rcases m with _ | mA
 ·rw [onPtr_none] at h
  refine T_ne 25 [(0, vp none), (1, vi seg), (30, .bool true)] ?_
  refine T_t 30 K7 K8 ?_
  refine T_sr 2 K9 K10 ?_
  refine T_ne 1 [(4, vp none)] ?_
  exact T_ret [4] [vp none] hQ h
 rw [onPtr_some] at h
 refine T_n 6 [(0, vp (some mA)), (1, vi seg), (11, .bool (decide (seg < 0)))] ?_
 by_cases c1 : seg < 0
 ·rw [if_pos c1] at h
  have b2 : (decide (seg < 0)) = true := decide_eq_true c1
  refine N_env [(0, vp (some mA)), (1, vi seg), (11, .bool true)] (by rw [b2]) ?_
  clear b2
  refine T_ne 19 [(0, vp (some mA)), (1, vi seg), (30, .bool true)] ?_
  refine T_t 30 K7 K8 ?_
  refine T_sr 2 K9 K10 ?_
  refine T_ne 1 [(4, vp none)] ?_
  exact T_ret [4] [vp none] hQ h
 rw [if_neg c1] at h
 have b2 : (decide (seg < 0)) = false := decide_eq_false c1
 refine N_env [(0, vp (some mA)), (1, vi seg), (11, .bool false)] (by rw [b2]) ?_
 clear b2
 refine T_n 4 [(0, vp (some mA)), (1, vi seg), (11, .bool false), (12, vi seg), (15, vp (some mA))] ?_
 obtain ⟨xB, xN, xC, q3, h⟩ := h
 refine T_l (some 16) 108 q3 [(0, vp (some mA)), (1, vi seg), (11, .bool false), (12, vi seg), (16, vs xB xN xC)] ?_
 refine T_n 4 [(0, vp (some mA)), (1, vi seg), (20, .bool (decide (seg ≥ (xN : Int))))] ?_
 by_cases c4 : seg ≥ (xN : Int)
 ·rw [if_pos c4] at h
  have b5 : (decide (seg ≥ (xN : Int))) = true := decide_eq_true c4
  refine N_env [(0, vp (some mA)), (1, vi seg), (20, .bool true)] (by rw [b5]) ?_
  clear b5
  refine T_ne 10 [(0, vp (some mA)), (1, vi seg), (30, .bool true)] ?_
  refine T_t 30 K7 K8 ?_
  refine T_sr 2 K9 K10 ?_
  refine T_ne 1 [(4, vp none)] ?_
  exact T_ret [4] [vp none] hQ h
 rw [if_neg c4] at h
 have b5 : (decide (seg ≥ (xN : Int))) = false := decide_eq_false c4
 refine N_env [(0, vp (some mA)), (1, vi seg), (20, .bool false)] (by rw [b5]) ?_
 clear b5
 refine T_n 3 [(0, vp (some mA)), (1, vi seg), (20, .bool false), (23, vp (some mA))] ?_
 obtain ⟨l, f, j, q6, h⟩ := h
 refine T_l (some 24) 108 q6 [(0, vp (some mA)), (1, vi seg), (20, .bool false), (24, vs l f j)] ?_
 refine T_n 1 [(0, vp (some mA)), (1, vi seg), (20, .bool false), (24, vs l f j), (25, vi seg)] ?_
 obtain ⟨b, rfl, h⟩ := h
 obtain ⟨q7, h⟩ := h
 refine T_ix (some 26) 108 178 72 b f j .i64 seg Tryz.underlying108 q7.1 q7.2 [(0, vp (some mA)), (1, vi seg), (20, .bool false), (26, vp (some (b.add (Int.toNat seg * 72))))] ?_
 refine T_n 1 [(0, vp (some mA)), (1, vi seg), (20, .bool false), (27, vp (some ((b.add (Int.toNat seg * 72)).add 7)))] ?_
 obtain ⟨x, q8, h⟩ := h
 refine T_l (some 28) 3 q8 [(0, vp (some mA)), (1, vi seg), (20, .bool false), (28, vi x)] ?_
 refine T_ne 2 [(0, vp (some mA)), (1, vi seg), (30, .bool (x == 0))] ?_
 by_cases c9 : x = 0
 ·rw [if_pos c9] at h
  have b10 : (x == 0) = true := beq_iff_eq.mpr c9
  refine T_cT 30 K7 K8 b10 ?_
  refine T_sr 2 K9 K10 ?_
  refine T_ne 1 [(4, vp none)] ?_
  exact T_ret [4] [vp none] hQ h
 rw [if_neg c9] at h
 have b10 : (x == 0) = false := beq_eq_false_iff_ne.mpr c9
 refine T_cF 30 K7 K8 b10 ?_
 refine T_kt ?_
 refine T_sr 3 K11 K12 ?_
 refine T_n 3 [(1, vi seg), (33, vp (some mA))] ?_
 obtain ⟨n, e, g, q11, h⟩ := h
 refine T_l (some 34) 108 q11 [(1, vi seg), (34, vs n e g)] ?_
 refine T_n 1 [(34, vs n e g), (35, vi seg)] ?_
 obtain ⟨d, rfl, h⟩ := h
 obtain ⟨q12, h⟩ := h
 refine T_ix (some 36) 108 178 72 d e g .i64 seg Tryz.underlying108 q12.1 q12.2 [(36, vp (some (d.add (Int.toNat seg * 72))))] ?_
 refine T_ne 1 [(4, vp (some (d.add (Int.toNat seg * 72))))] ?_
 exact T_ret [4] [vp (some (d.add (Int.toNat seg * 72)))] hQ h
end seg_Mem_at

/-! moraine/seg.New -/
namespace seg_New
def K0 := Func.code Tryz.f127
def K1 := ca K0
def K2 := cb K0
def K3 := ca K2
def K4 := cb K2
def K5 := ca K3
def K6 := cb K3
def K7 := ca K6
def K8 := cb K6
def K9 := ca K7
def K10 := cb K7
def K11 := ca K4
def K12 := cb K4
end seg_New
def seg_New.pt (limit : Int) (H : Array Obj) (R : Value → Array Obj → Prop) : Prop :=
 if ((decide (limit < 8)) || (decide (limit > 1024))) = true then (
 R (.tuple #[.pointer none, .int .i64 1]) H)
 else
 0 ≤ limit ∧ limit ≤ limit ∧ 576 * limit ≤ 2 ^ 48 ∧ limit ≤ 9223372036854775807 ∧
 ∀ (b : Nat) (H1 : Array Obj), b = H.size → H1 = H.push (.cells (Builtin.zeroCells (List.replicate 8 (.int .i64 0) ++ List.replicate 64 (.int .u64 0) : List Value).toArray (Int.toNat limit)) 178) →
 ∀ (a : Nat) (H2 : Array Obj), a = H1.size → H2 = H1.push (.cells #[.slice (some (Addr.mk b 0 none)) (Int.toNat limit) (Int.toNat limit), .int .i64 0, .int .i64 limit] 110) →
 R (.tuple #[.pointer (some (Addr.mk a 0 none)), .int .i64 0]) H2
namespace seg_New
set_option maxRecDepth 100000 in
theorem link {limit : Int} {H : Array Obj} {R : Value → Array Obj → Prop} (h : pt limit H R) : C limit H R := by
 refine T_en K0 15 Tryz.func127 ?_
 intro w0 Q hQ
 unfold pt at h
 refine T_su [(0, vi limit)] ?_
 refine T_sr 0 K1 K2 ?_
 refine T_ne 2 [(0, vi limit)] ?_
 refine T_s K3 K4 ?_
 refine T_sr 1 K5 K6 ?_
 refine N_cut [(0, vi limit), (9, .bool ((decide (limit < 8)) || (decide (limit > 1024))))] ?_ ?_
 ·refine S_then ?_
  by_cases c3 : ((decide (limit < 8)) || (decide (limit > 1024))) = true
  ·rw [if_pos c3] at h
   have b4 : ((decide (limit < 8)) || (decide (limit > 1024))) = true := c3
   refine T_cT 9 K7 K8 b4 ?_
   refine T_sr 2 K9 K10 ?_
   refine T_ne 2 [(2, vp none), (3, vi 1)] ?_
   exact T_ret [2, 3] [vp none, vi 1] hQ h
  rw [if_neg c3] at h
  have b4 : ((decide (limit < 8)) || (decide (limit > 1024))) = false := eq_false_of_ne_true c3
  refine T_cF 9 K7 K8 b4 ?_
  refine T_kt ?_
  refine T_sr 3 K11 K12 ?_
  refine T_n 1 [(0, vi limit), (10, vi limit)] ?_
  obtain ⟨q5, q6, q7, q8, h⟩ := h
  refine N_op (some 11) (makeSliceN 108 (vi limit) (vi limit)) (fun v Hz => v = Value.slice (some (Addr.mk H.size 0 none)) (Int.toNat limit) (Int.toNat limit) ∧ Hz = H.push (.cells (Builtin.zeroCells (List.replicate 8 (vi 0) ++ List.replicate 64 (vu 0) : List Value).toArray (Int.toNat limit)) 178)) (fun _=>by kernel_rfl) (ss_make (T := 178) (zero := .agg (List.replicate 8 (vi 0) ++ List.replicate 64 (vu 0) : List Value).toArray) Tryz.underlying108 (show Tryz.prog.info? 178 = some Tryz.t178 from by kernel_rfl) (by kernel_rfl) q5 q6 q7 q8 (by kernel_rfl) (by decide)) ?_
  rintro _ H1 ⟨rfl, e10⟩
  obtain ⟨b, e9⟩ : ∃ b, b = H.size := ⟨_, rfl⟩
  replace h := h b H1 e9 e10
  rw [← e9]
  refine ⟨[(0, vi limit), (11, vs (pa b) (Int.toNat limit) (Int.toNat limit))], pk, ?_⟩
  refine T_n 2 [(13, .agg #[vs (pa b) (Int.toNat limit) (Int.toNat limit), vi 0, vi limit])] ?_
  refine T_nw (some 14) (fun b => vp (pa b)) (.cells #[vs (pa b) (Int.toNat limit) (Int.toNat limit), vi 0, vi limit] 110) ?_
  intro a H2 e11 e12
  replace h := h a H2 e11 e12
  refine ⟨[(14, vp (pa a))], pk, ?_⟩
  refine T_ne 2 [(2, vp (pa a)), (3, vi 0)] ?_
  exact T_ret [2, 3] [vp (pa a), vi 0] hQ h
 intro hk
 refine T_n 3 [(0, vi limit), (6, .bool (decide (limit < 8)))] ?_
 by_cases c1 : limit < 8
 ·have b2 : (decide (limit < 8)) = true := decide_eq_true c1
  refine N_env [(0, vi limit), (6, .bool true)] (by rw [b2]) ?_
  refine T_n 3 [(0, vi limit), (9, .bool true)] ?_
  refine N_end (by kernel_rfl) ?_
  refine S_env [(0, vi limit), (9, .bool ((decide (limit < 8)) || (decide (limit > 1024))))] (by simp only [b2, BL]) ?_
  exact hk
 have b2 : (decide (limit < 8)) = false := decide_eq_false c1
 refine N_env [(0, vi limit), (6, .bool false)] (by rw [b2]) ?_
 refine T_n 3 [(0, vi limit), (9, .bool (decide (limit > 1024)))] ?_
 refine N_end (by kernel_rfl) ?_
 refine S_env [(0, vi limit), (9, .bool ((decide (limit < 8)) || (decide (limit > 1024))))] (by simp only [b2, BL]) ?_
 exact hk
end seg_New

/-! (*moraine/seg.Mem).Write -/
namespace seg_Mem_Write
def K0 := Func.code Tryz.f141
def K1 := ca K0
def K2 := cb K0
def K3 := ca K2
def K4 := cb K2
def K5 := ca K4
def K6 := cb K4
def K7 := ca K5
def K8 := cb K5
def K9 := ca K8
def K10 := cb K8
def K11 := ca K9
def K12 := cb K9
def K13 := ca K6
def K14 := cb K6
def K15 := ca K14
def K16 := cb K14
end seg_Mem_Write
def seg_Mem_Write.pt (m : Option Addr) (addr : Int) (wv : Int) (H : Array Obj) (R : Value → Array Obj → Prop) : Prop :=
 seg_Mem_word.C m addr H (fun v H1 => ∃ x : Option Addr, v = .pointer x ∧ 
 onPtr x (
 R (.int .i64 18) H1) (fun xA =>
 (CanPuts H1 xA 0 1) ∧ ∀ H2 : Array Obj, H2 = hputs H1 xA [.int .u64 wv] 0 →
 R (.int .i64 0) H2))
namespace seg_Mem_Write
set_option maxRecDepth 100000 in
theorem link {m : Option Addr} {addr : Int} {wv : Int} {H : Array Obj} {R : Value → Array Obj → Prop} (h : pt m addr wv H R) : C m addr wv H R := by
 refine T_en K0 16 Tryz.func141 ?_
 intro w0 Q hQ
 unfold pt at h
 refine T_su [(0, vp m), (1, vi addr), (2, vu wv)] ?_
 refine T_sr 0 K1 K2 ?_
 refine T_ne 1 [(0, vp m), (1, vi addr), (2, vu wv)] ?_
 refine T_sr 1 K3 K4 ?_
 refine T_n 2 [(2, vu wv), (8, vp m), (9, vi addr)] ?_
 refine T_c (some 10) h ?_; clear h
 rintro v H1 ⟨x, rfl, h⟩
 refine ⟨[(2, vu wv), (10, vp x)], pk, ?_⟩
 refine T_ne 1 [(2, vu wv), (7, vp x)] ?_
 refine T_s K5 K6 ?_
 refine T_sr 2 K7 K8 ?_
 refine T_n 1 [(2, vu wv), (7, vp x), (11, vp x)] ?_
 rcases x with _ | xA
 ·rw [onPtr_none] at h
  refine T_ne 1 [(2, vu wv), (7, vp none), (12, .bool true)] ?_
  refine T_t 12 K9 K10 ?_
  refine T_sr 3 K11 K12 ?_
  refine T_ne 1 [(6, vi 18)] ?_
  exact T_ret [6] [vi 18] hQ h
 rw [onPtr_some] at h
 refine T_ne 1 [(2, vu wv), (7, vp (some xA)), (12, .bool false)] ?_
 refine T_f 12 K9 K10 ?_
 refine T_kt ?_
 refine T_sr 4 K13 K14 ?_
 refine T_n 3 [(14, vu wv), (15, vp (some xA))] ?_
 obtain ⟨q2, h⟩ := h
 refine N_skipop none (storeN 35 (vp (some xA)) (vu wv)) (fun Hz => Hz = hputs H1 xA [vu wv] 0) (fun _=>by kernel_rfl) (ss_store [vu wv] 1 (by kernel_rfl) (by kernel_rfl) (fun _=>by kernel_rfl) (by kernel_rfl) q2) ?_
 intro H2 e1
 replace h := h H2 e1
 refine ⟨[], pk, ?_⟩
 refine T_e ?_
 refine T_sr 5 K15 K16 ?_
 refine T_ne 1 [(6, vi 0)] ?_
 exact T_ret [6] [vi 0] hQ h
end seg_Mem_Write

/-! (*moraine/seg.Mem).Mark -/
namespace seg_Mem_word
def K0 := Func.code Tryz.f150
def K1 := ca K0
def K2 := cb K0
def K3 := ca K2
def K4 := cb K2
def K5 := ca K3
def K6 := cb K3
def K7 := ca K6
def K8 := cb K6
def K9 := ca K7
def K10 := cb K7
def K11 := ca K4
def K12 := cb K4
def K13 := ca K12
def K14 := cb K12
def K15 := ca K13
def K16 := cb K13
def K17 := ca K16
def K18 := cb K16
def K19 := ca K17
def K20 := cb K17
def K21 := ca K14
def K22 := cb K14
end seg_Mem_word
def seg_Mem_word.pt (m : Option Addr) (addr : Int) (H : Array Obj) (R : Value → Array Obj → Prop) : Prop :=
 if addr < 0 then (
 R (.pointer none) H)
 else
 seg_Mem_at.C m (IntKind.wrap .i64 (Int.tdiv addr 64)) H (fun v H1 => ∃ x : Option Addr, v = .pointer x ∧ 
 onPtr x (
 R (.pointer none) H1) (fun xA =>
 ∃ b : Int, hat H1 (xA.add 2) = some (.int .i64 b) ∧
 if (Int.tmod addr 64) ≥ b then (
 R (.pointer none) H1)
 else
 ((0 : Int) ≤ (Int.tmod addr 64) ∧ (Int.tmod addr 64) < (64 : Int)) ∧
 R (.pointer (some ((xA.add 8).add (Int.toNat (Int.tmod addr 64) * 1)))) H1))
namespace seg_Mem_word
set_option maxRecDepth 100000 in
theorem link {m : Option Addr} {addr : Int} {H : Array Obj} {R : Value → Array Obj → Prop} (h : pt m addr H R) : C m addr H R := by
 refine T_en K0 30 Tryz.func150 ?_
 intro w0 Q hQ
 unfold pt at h
 refine T_su [(0, vp m), (1, vi addr)] ?_
 refine T_sr 0 K1 K2 ?_
 refine T_ne 1 [(0, vp m), (1, vi addr)] ?_
 refine T_s K3 K4 ?_
 refine T_sr 1 K5 K6 ?_
 refine T_ne 2 [(0, vp m), (1, vi addr), (7, .bool (decide (addr < 0)))] ?_
 by_cases c1 : addr < 0
 ·rw [if_pos c1] at h
  have b2 : (decide (addr < 0)) = true := decide_eq_true c1
  refine T_cT 7 K7 K8 b2 ?_
  refine T_sr 2 K9 K10 ?_
  refine T_ne 1 [(4, vp none)] ?_
  exact T_ret [4] [vp none] hQ h
 rw [if_neg c1] at h
 have b2 : (decide (addr < 0)) = false := decide_eq_false c1
 refine T_cF 7 K7 K8 b2 ?_
 refine T_kt ?_
 refine T_sr 3 K11 K12 ?_
 refine T_n 3 [(1, vi addr), (8, vp m), (10, vi (IntKind.wrap .i64 (Int.tdiv addr 64)))] ?_
 refine T_c (some 11) h ?_; clear h
 rintro v H1 ⟨x, rfl, h⟩
 refine ⟨[(1, vi addr), (11, vp x)], pk, ?_⟩
 refine T_ne 1 [(1, vi addr), (5, vp x)] ?_
 refine T_s K13 K14 ?_
 refine T_sr 4 K15 K16 ?_
 refine T_n 1 [(1, vi addr), (5, vp x), (12, vp x)] ?_
 rcases x with _ | xA
 ·rw [onPtr_none] at h
  refine T_ne 11 [(1, vi addr), (5, vp none), (23, .bool true)] ?_
  refine T_t 23 K17 K18 ?_
  refine T_sr 5 K19 K20 ?_
  refine T_ne 1 [(4, vp none)] ?_
  exact T_ret [4] [vp none] hQ h
 rw [onPtr_some] at h
 refine T_n 8 [(1, vi addr), (5, vp (some xA)), (14, .bool false), (16, vi (Int.tmod addr 64)), (20, vp (some (xA.add 2)))] ?_
 obtain ⟨b, q3, h⟩ := h
 refine T_l (some 21) 3 q3 [(1, vi addr), (5, vp (some xA)), (14, .bool false), (16, vi (Int.tmod addr 64)), (21, vi b)] ?_
 refine T_ne 2 [(1, vi addr), (5, vp (some xA)), (23, .bool (decide ((Int.tmod addr 64) ≥ b)))] ?_
 by_cases c4 : (Int.tmod addr 64) ≥ b
 ·rw [if_pos c4] at h
  have b5 : (decide ((Int.tmod addr 64) ≥ b)) = true := decide_eq_true c4
  refine T_cT 23 K17 K18 b5 ?_
  refine T_sr 5 K19 K20 ?_
  refine T_ne 1 [(4, vp none)] ?_
  exact T_ret [4] [vp none] hQ h
 rw [if_neg c4] at h
 have b5 : (decide ((Int.tmod addr 64) ≥ b)) = false := decide_eq_false c4
 refine T_cF 23 K17 K18 b5 ?_
 refine T_kt ?_
 refine T_sr 6 K21 K22 ?_
 refine T_n 5 [(26, vi (Int.tmod addr 64)), (28, vp (some (xA.add 8)))] ?_
 obtain ⟨q6, h⟩ := h
 refine T_v (some 29) (indexAtN 176 (vp (some (xA.add 8))) (vi (Int.tmod addr 64))) (vp (some ((xA.add 8).add (Int.toNat (Int.tmod addr 64) * 1)))) (fun w _ => indexArr_run (P := Tryz.prog) (t := 176) (elem := 35) (sz := 1) (n := 64) (a := (xA.add 8)) (k := .i64) (i := (Int.tmod addr 64)) Tryz.underlying176 (fun _=>by kernel_rfl) q6.1 q6.2 w) [(29, vp (some ((xA.add 8).add (Int.toNat (Int.tmod addr 64) * 1))))] ?_
 refine T_ne 1 [(4, vp (some ((xA.add 8).add (Int.toNat (Int.tmod addr 64) * 1))))] ?_
 exact T_ret [4] [vp (some ((xA.add 8).add (Int.toNat (Int.tmod addr 64) * 1)))] hQ h
end seg_Mem_word

/-! (*moraine/seg.Mem).Bump -/
namespace seg_Mem_Bump
def K0 := Func.code Tryz.f174
def K1 := ca K0
def K2 := cb K0
def K3 := ca K2
def K4 := cb K2
def K5 := ca K4
def K6 := cb K4
def K7 := ca K5
def K8 := ca K7
def K9 := cb K7
def K10 := ca K9
def K11 := cb K9
def K12 := ca K10
def K13 := cb K10
def K14 := ca K11
def K15 := cb K11
def K16 := ca K15
def K17 := cb K15
def K18 := ca K16
def K19 := cb K16
def K20 := ca K17
def K21 := cb K17
def K22 := ca K21
def K23 := cb K21
def K24 := ca K22
def K25 := cb K22
def K26 := ca K6
def K27 := cb K6
def K28 := ca K27
def K29 := cb K27
end seg_Mem_Bump
def seg_Mem_Bump.pt (m : Option Addr) (seg : Int) (nv : Int) (H : Array Obj) (R : Value → Array Obj → Prop) : Prop :=
 seg_Mem_at.C m seg H (fun v H1 => ∃ x : Option Addr, v = .pointer x ∧ 
 onPtr x (
 R (.tuple #[.int .i64 0, .int .i64 19]) H1) (fun xA =>
 if nv < 1 then (
 R (.tuple #[.int .i64 0, .int .i64 1]) H1)
 else
 ∃ a : Int, hat H1 (xA.add 2) = some (.int .i64 a) ∧
 if nv > (IntKind.wrap .i64 (64 - a)) then (
 R (.tuple #[.int .i64 0, .int .i64 2]) H1)
 else
 ∃ b : Int, hat H1 (xA.add 2) = some (.int .i64 b) ∧
 (CanPuts H1 (xA.add 2) 0 1) ∧ ∀ H2 : Array Obj, H2 = hputs H1 (xA.add 2) [.int .i64 (IntKind.wrap .i64 (b + nv))] 0 →
 ∃ d : Int, hat H2 (xA.add 2) = some (.int .i64 d) ∧
 R (.tuple #[.int .i64 (IntKind.wrap .i64 ((IntKind.wrap .i64 ((IntKind.wrap .i64 (seg * 64)) + d)) - nv)), .int .i64 0]) H2))
namespace seg_Mem_Bump
set_option maxRecDepth 100000 in
theorem link {m : Option Addr} {seg : Int} {nv : Int} {H : Array Obj} {R : Value → Array Obj → Prop} (h : pt m seg nv H R) : C m seg nv H R := by
 refine T_en K0 47 Tryz.func174 ?_
 intro w0 Q hQ
 unfold pt at h
 refine T_su [(0, vp m), (1, vi seg), (2, vi nv)] ?_
 refine T_sr 0 K1 K2 ?_
 refine T_ne 2 [(0, vp m), (1, vi seg), (2, vi nv)] ?_
 refine T_sr 1 K3 K4 ?_
 refine T_n 2 [(1, vi seg), (2, vi nv), (9, vp m), (10, vi seg)] ?_
 refine T_c (some 11) h ?_; clear h
 rintro v H1 ⟨x, rfl, h⟩
 refine ⟨[(1, vi seg), (2, vi nv), (11, vp x)], pk, ?_⟩
 refine T_ne 1 [(1, vi seg), (2, vi nv), (8, vp x)] ?_
 refine T_s K5 K6 ?_
 refine T_b 0 K7 ?_
 refine T_sr 2 K8 K9 ?_
 refine T_n 1 [(1, vi seg), (2, vi nv), (8, vp x), (13, vp x)] ?_
 rcases x with _ | xA
 ·rw [onPtr_none] at h
  refine T_ne 2 [(1, vi seg), (2, vi nv), (8, vp none), (12, .bool true)] ?_
  refine T_t 12 K10 K11 ?_
  refine T_sr 3 K12 K13 ?_
  refine T_ne 2 [(6, vi 0), (7, vi 19)] ?_
  exact T_ret [6, 7] [vi 0, vi 19] hQ h
 rw [onPtr_some] at h
 refine T_ne 2 [(1, vi seg), (2, vi nv), (8, vp (some xA)), (12, .bool false)] ?_
 refine T_f 12 K10 K11 ?_
 refine T_sr 4 K14 K15 ?_
 refine T_ne 3 [(1, vi seg), (2, vi nv), (8, vp (some xA)), (15, .bool (decide (nv < 1)))] ?_
 by_cases c1 : nv < 1
 ·rw [if_pos c1] at h
  have b2 : (decide (nv < 1)) = true := decide_eq_true c1
  refine T_cT 15 K16 K17 b2 ?_
  refine T_sr 5 K18 K19 ?_
  refine T_ne 2 [(6, vi 0), (7, vi 1)] ?_
  exact T_ret [6, 7] [vi 0, vi 1] hQ h
 rw [if_neg c1] at h
 have b2 : (decide (nv < 1)) = false := decide_eq_false c1
 refine T_cF 15 K16 K17 b2 ?_
 refine T_sr 6 K20 K21 ?_
 refine T_n 5 [(1, vi seg), (2, vi nv), (8, vp (some xA)), (19, vi nv), (23, vp (some (xA.add 2)))] ?_
 obtain ⟨a, q3, h⟩ := h
 refine T_l (some 24) 3 q3 [(1, vi seg), (2, vi nv), (8, vp (some xA)), (19, vi nv), (24, vi a)] ?_
 refine T_ne 3 [(1, vi seg), (2, vi nv), (8, vp (some xA)), (18, .bool (decide (nv > (IntKind.wrap .i64 (64 - a)))))] ?_
 by_cases c4 : nv > (IntKind.wrap .i64 (64 - a))
 ·rw [if_pos c4] at h
  have b5 : (decide (nv > (IntKind.wrap .i64 (64 - a)))) = true := decide_eq_true c4
  refine T_cT 18 K22 K23 b5 ?_
  refine T_sr 7 K24 K25 ?_
  refine T_ne 2 [(6, vi 0), (7, vi 2)] ?_
  exact T_ret [6, 7] [vi 0, vi 2] hQ h
 rw [if_neg c4] at h
 have b5 : (decide (nv > (IntKind.wrap .i64 (64 - a)))) = false := decide_eq_false c4
 refine T_cF 18 K22 K23 b5 ?_
 refine T_k ?_
 refine S_blockEnd ?_
 refine S_then ?_
 refine T_sr 8 K26 K27 ?_
 refine T_n 4 [(1, vi seg), (2, vi nv), (8, vp (some xA)), (27, vp (some xA)), (30, vp (some (xA.add 2)))] ?_
 obtain ⟨b, q6, h⟩ := h
 refine T_l (some 31) 3 q6 [(1, vi seg), (2, vi nv), (8, vp (some xA)), (27, vp (some xA)), (31, vi b)] ?_
 refine T_n 5 [(1, vi seg), (2, vi nv), (8, vp (some xA)), (33, vi (IntKind.wrap .i64 (b + nv))), (36, vp (some (xA.add 2)))] ?_
 obtain ⟨q8, h⟩ := h
 refine N_skipop none (storeN 3 (vp (some (xA.add 2))) (vi (IntKind.wrap .i64 (b + nv)))) (fun Hz => Hz = hputs H1 (xA.add 2) [vi (IntKind.wrap .i64 (b + nv))] 0) (fun _=>by kernel_rfl) (ss_store [vi (IntKind.wrap .i64 (b + nv))] 1 (by kernel_rfl) (by kernel_rfl) (fun _=>by kernel_rfl) (by kernel_rfl) q8) ?_
 intro H2 e7
 replace h := h H2 e7
 refine ⟨[(1, vi seg), (2, vi nv), (8, vp (some xA))], pk, ?_⟩
 refine T_e ?_
 refine T_sr 9 K28 K29 ?_
 refine T_n 6 [(2, vi nv), (38, vi (IntKind.wrap .i64 (seg * 64))), (42, vp (some (xA.add 2)))] ?_
 obtain ⟨d, q9, h⟩ := h
 refine T_l (some 43) 3 q9 [(2, vi nv), (38, vi (IntKind.wrap .i64 (seg * 64))), (43, vi d)] ?_
 refine T_ne 5 [(6, vi (IntKind.wrap .i64 ((IntKind.wrap .i64 ((IntKind.wrap .i64 (seg * 64)) + d)) - nv))), (7, vi 0)] ?_
 exact T_ret [6, 7] [vi (IntKind.wrap .i64 ((IntKind.wrap .i64 ((IntKind.wrap .i64 (seg * 64)) + d)) - nv)), vi 0] hQ h
end seg_Mem_Bump

/-! (*moraine/seg.Mem).Take -/
namespace seg_Mem_Take
def K0 := Func.code Tryz.f175
def K1 := ca K0
def K2 := cb K0
def K3 := ca K2
def K4 := cb K2
def K5 := ca K3
def K6 := ca K5
def K7 := cb K5
def K8 := ca K7
def K9 := cb K7
def K10 := ca K8
def K11 := cb K8
def K12 := ca K9
def K13 := cb K9
def K14 := ca K13
def K15 := cb K13
def K16 := ca K14
def K17 := cb K14
def K18 := ca K4
def K19 := cb K4
def K20 := ca K19
def K21 := cb K19
def K22 := ca K20
def K23 := ca K22
def K24 := ca K23
def K25 := cb K23
def K26 := ca K24
def K27 := cb K24
def K28 := ca K27
def K29 := cb K27
def K30 := ca K25
def K31 := ca K21
def K32 := cb K21
def K33 := ca K32
def K34 := cb K32
def K35 := ca K34
def K36 := cb K34
def K37 := ca K36
def K38 := cb K36
end seg_Mem_Take
def seg_Mem_Take.pt (m : Option Addr) (gen : Int) (kind : Int) (H : Array Obj) (R : Value → Array Obj → Prop) : Prop :=
 onPtr m (
 R (.tuple #[.int .i64 0, .int .i64 1]) H) (fun mA =>
 if gen < 0 then (
 R (.tuple #[.int .i64 0, .int .i64 1]) H)
 else
 if gen > 4 then (
 R (.tuple #[.int .i64 0, .int .i64 1]) H)
 else
 if kind < 0 then (
 R (.tuple #[.int .i64 0, .int .i64 1]) H)
 else
 if kind > 3 then (
 R (.tuple #[.int .i64 0, .int .i64 1]) H)
 else
 ∃ xB : Option Addr, ∃ xN : Nat, ∃ xC : Nat, hat H mA = some (.slice xB xN xC) ∧
 if (xN : Int) = 0 then (
 R (.tuple #[.int .i64 0, .int .i64 1]) H)
 else
 ∃ x : Int, hat H (mA.add 2) = some (.int .i64 x) ∧
 if x = 0 then (
 R (.tuple #[.int .i64 0, .int .i64 2]) H)
 else
 ∃ (r : Int → Array Obj → Prop) (m24 : Int → Array Obj → Nat), r 0 H ∧ ∀ (k : Int) (H1 : Array Obj), r k H1 →
 ∃ q : Option Addr, ∃ j : Nat, ∃ l : Nat, hat H1 mA = some (.slice q j l) ∧
 ∃ g : Addr, q = some g ∧
 ((0 : Int) ≤ k ∧ k < (j : Int)) ∧
 ∃ n : Int, hat H1 ((g.add (Int.toNat k * 72)).add 7) = some (.int .i64 n) ∧
 if n > 0 then (
 (r (IntKind.wrap .i64 (k + 1)) H1 ∧ m24 (IntKind.wrap .i64 (k + 1)) H1 < m24 k H1))
 else
 ∃ o : Int, hat H1 (mA.add 1) = some (.int .i64 o) ∧
 (CanPuts H1 (mA.add 1) 0 1) ∧ ∀ H2 : Array Obj, H2 = hputs H1 (mA.add 1) [.int .i64 (IntKind.wrap .i64 (o + 1))] 0 →
 ∃ p : Int, hat H2 (mA.add 2) = some (.int .i64 p) ∧
 (CanPuts H2 (mA.add 2) 0 1) ∧ ∀ H3 : Array Obj, H3 = hputs H2 (mA.add 2) [.int .i64 (IntKind.wrap .i64 (p - 1))] 0 →
 ∃ s : Option Addr, ∃ d : Nat, ∃ e : Nat, hat H3 mA = some (.slice s d e) ∧
 ∃ f : Int, hat H3 (mA.add 1) = some (.int .i64 f) ∧
 ∃ b : Addr, s = some b ∧
 ((0 : Int) ≤ k ∧ k < (d : Int)) ∧
 (CanPuts H3 (b.add (Int.toNat k * 72)) 0 72) ∧ ∀ H4 : Array Obj, H4 = hputs H3 (b.add (Int.toNat k * 72)) ([.int .i64 gen, .int .i64 kind, .int .i64 0, .int .i64 5, .int .i64 5, .int .i64 5, .int .i64 5, .int .i64 f] ++ List.replicate 64 (.int .u64 0) : List Value) 0 → 
 R (.tuple #[.int .i64 k, .int .i64 0]) H4)
namespace seg_Mem_Take
set_option maxRecDepth 100000 in
theorem link {m : Option Addr} {gen : Int} {kind : Int} {H : Array Obj} {R : Value → Array Obj → Prop} (h : pt m gen kind H R) : C m gen kind H R := by
 refine T_en K0 83 Tryz.func175 ?_
 intro w0 Q hQ
 unfold pt at h
 refine T_su [(0, vp m), (1, vi gen), (2, vi kind)] ?_
 refine T_sr 0 K1 K2 ?_
 refine T_ne 2 [(0, vp m), (1, vi gen), (2, vi kind)] ?_
 refine T_s K3 K4 ?_
 refine T_b 0 K5 ?_
 refine T_sr 1 K6 K7 ?_
 refine T_n 1 [(0, vp m), (1, vi gen), (2, vi kind), (10, vp m)] ?_
 rcases m with _ | mA
 ·rw [onPtr_none] at h
  refine T_ne 26 [(0, vp none), (1, vi gen), (2, vi kind), (9, .bool true)] ?_
  refine T_t 9 K8 K9 ?_
  refine T_sr 2 K10 K11 ?_
  refine T_ne 2 [(6, vi 0), (7, vi 1)] ?_
  exact T_ret [6, 7] [vi 0, vi 1] hQ h
 rw [onPtr_some] at h
 refine T_n 6 [(0, vp (some mA)), (1, vi gen), (2, vi kind), (16, .bool (decide (gen < 0)))] ?_
 by_cases c1 : gen < 0
 ·rw [if_pos c1] at h
  have b2 : (decide (gen < 0)) = true := decide_eq_true c1
  refine N_env [(0, vp (some mA)), (1, vi gen), (2, vi kind), (16, .bool true)] (by rw [b2]) ?_
  clear b2
  refine T_ne 20 [(0, vp (some mA)), (1, vi gen), (2, vi kind), (9, .bool true)] ?_
  refine T_t 9 K8 K9 ?_
  refine T_sr 2 K10 K11 ?_
  refine T_ne 2 [(6, vi 0), (7, vi 1)] ?_
  exact T_ret [6, 7] [vi 0, vi 1] hQ h
 rw [if_neg c1] at h
 have b2 : (decide (gen < 0)) = false := decide_eq_false c1
 refine N_env [(0, vp (some mA)), (1, vi gen), (2, vi kind), (16, .bool false)] (by rw [b2]) ?_
 clear b2
 refine T_n 4 [(0, vp (some mA)), (1, vi gen), (2, vi kind), (20, .bool (decide (gen > 4)))] ?_
 by_cases c3 : gen > 4
 ·rw [if_pos c3] at h
  have b4 : (decide (gen > 4)) = true := decide_eq_true c3
  refine N_env [(0, vp (some mA)), (1, vi gen), (2, vi kind), (20, .bool true)] (by rw [b4]) ?_
  clear b4
  refine T_ne 16 [(0, vp (some mA)), (1, vi gen), (2, vi kind), (9, .bool true)] ?_
  refine T_t 9 K8 K9 ?_
  refine T_sr 2 K10 K11 ?_
  refine T_ne 2 [(6, vi 0), (7, vi 1)] ?_
  exact T_ret [6, 7] [vi 0, vi 1] hQ h
 rw [if_neg c3] at h
 have b4 : (decide (gen > 4)) = false := decide_eq_false c3
 refine N_env [(0, vp (some mA)), (1, vi gen), (2, vi kind), (20, .bool false)] (by rw [b4]) ?_
 clear b4
 refine T_n 4 [(0, vp (some mA)), (1, vi gen), (2, vi kind), (24, .bool (decide (kind < 0)))] ?_
 by_cases c5 : kind < 0
 ·rw [if_pos c5] at h
  have b6 : (decide (kind < 0)) = true := decide_eq_true c5
  refine N_env [(0, vp (some mA)), (1, vi gen), (2, vi kind), (24, .bool true)] (by rw [b6]) ?_
  clear b6
  refine T_ne 12 [(0, vp (some mA)), (1, vi gen), (2, vi kind), (9, .bool true)] ?_
  refine T_t 9 K8 K9 ?_
  refine T_sr 2 K10 K11 ?_
  refine T_ne 2 [(6, vi 0), (7, vi 1)] ?_
  exact T_ret [6, 7] [vi 0, vi 1] hQ h
 rw [if_neg c5] at h
 have b6 : (decide (kind < 0)) = false := decide_eq_false c5
 refine N_env [(0, vp (some mA)), (1, vi gen), (2, vi kind), (24, .bool false)] (by rw [b6]) ?_
 clear b6
 refine T_n 4 [(0, vp (some mA)), (1, vi gen), (2, vi kind), (28, .bool (decide (kind > 3)))] ?_
 by_cases c7 : kind > 3
 ·rw [if_pos c7] at h
  have b8 : (decide (kind > 3)) = true := decide_eq_true c7
  refine N_env [(0, vp (some mA)), (1, vi gen), (2, vi kind), (28, .bool true)] (by rw [b8]) ?_
  clear b8
  refine T_ne 8 [(0, vp (some mA)), (1, vi gen), (2, vi kind), (9, .bool true)] ?_
  refine T_t 9 K8 K9 ?_
  refine T_sr 2 K10 K11 ?_
  refine T_ne 2 [(6, vi 0), (7, vi 1)] ?_
  exact T_ret [6, 7] [vi 0, vi 1] hQ h
 rw [if_neg c7] at h
 have b8 : (decide (kind > 3)) = false := decide_eq_false c7
 refine N_env [(0, vp (some mA)), (1, vi gen), (2, vi kind), (28, .bool false)] (by rw [b8]) ?_
 clear b8
 refine T_n 3 [(0, vp (some mA)), (1, vi gen), (2, vi kind), (28, .bool false), (31, vp (some mA))] ?_
 obtain ⟨xB, xN, xC, q9, h⟩ := h
 refine T_l (some 32) 108 q9 [(0, vp (some mA)), (1, vi gen), (2, vi kind), (28, .bool false), (32, vs xB xN xC)] ?_
 refine T_ne 4 [(0, vp (some mA)), (1, vi gen), (2, vi kind), (9, .bool ((xN : Int) == 0))] ?_
 by_cases c10 : (xN : Int) = 0
 ·rw [if_pos c10] at h
  have b11 : ((xN : Int) == 0) = true := beq_iff_eq.mpr c10
  refine T_cT 9 K8 K9 b11 ?_
  refine T_sr 2 K10 K11 ?_
  refine T_ne 2 [(6, vi 0), (7, vi 1)] ?_
  exact T_ret [6, 7] [vi 0, vi 1] hQ h
 rw [if_neg c10] at h
 have b11 : ((xN : Int) == 0) = false := beq_eq_false_iff_ne.mpr c10
 refine T_cF 9 K8 K9 b11 ?_
 refine T_sr 3 K12 K13 ?_
 refine T_n 3 [(0, vp (some mA)), (1, vi gen), (2, vi kind), (39, vp (some (mA.add 2)))] ?_
 obtain ⟨x, q12, h⟩ := h
 refine T_l (some 40) 3 q12 [(0, vp (some mA)), (1, vi gen), (2, vi kind), (40, vi x)] ?_
 refine T_ne 2 [(0, vp (some mA)), (1, vi gen), (2, vi kind), (36, .bool (x == 0))] ?_
 by_cases c13 : x = 0
 ·rw [if_pos c13] at h
  have b14 : (x == 0) = true := beq_iff_eq.mpr c13
  refine T_cT 36 K14 K15 b14 ?_
  refine T_sr 4 K16 K17 ?_
  refine T_ne 2 [(6, vi 0), (7, vi 2)] ?_
  exact T_ret [6, 7] [vi 0, vi 2] hQ h
 rw [if_neg c13] at h
 have b14 : (x == 0) = false := beq_eq_false_iff_ne.mpr c13
 refine T_cF 36 K14 K15 b14 ?_
 refine T_k ?_
 refine S_blockEnd ?_
 refine S_then ?_
 refine T_sr 5 K18 K19 ?_
 refine T_ne 1 [(0, vp (some mA)), (1, vi gen), (2, vi kind), (8, vi 0)] ?_
 refine T_s K20 K21 ?_
 refine T_b 1 K22 ?_
 obtain ⟨r, m24, i15, i16⟩ := h
 refine S_loop (x := K23) (σ := Int) (fun s_ => [(0, vp (some mA)), (1, vi gen), (2, vi kind), (8, vi s_)]) (fun s_ H => r s_ H) (fun s_ H => m24 s_ H) (0 : Int) (by kernel_rfl) i15 sk ?_
 rintro k H1 i17
 have h := i16 k H1 i17
 refine T_su [(0, vp (some mA)), (1, vi gen), (2, vi kind), (8, vi k)] ?_
 refine T_s K24 K25 ?_
 refine T_sr 6 K26 K27 ?_
 refine T_n 3 [(0, vp (some mA)), (1, vi gen), (2, vi kind), (8, vi k), (44, vp (some mA))] ?_
 obtain ⟨q, j, l, q18, h⟩ := h
 refine T_l (some 45) 108 q18 [(0, vp (some mA)), (1, vi gen), (2, vi kind), (8, vi k), (45, vs q j l)] ?_
 refine T_n 1 [(0, vp (some mA)), (1, vi gen), (2, vi kind), (8, vi k), (45, vs q j l), (46, vi k)] ?_
 obtain ⟨g, rfl, h⟩ := h
 obtain ⟨q19, h⟩ := h
 refine T_ix (some 47) 108 178 72 g j l .i64 k Tryz.underlying108 q19.1 q19.2 [(0, vp (some mA)), (1, vi gen), (2, vi kind), (8, vi k), (47, vp (some (g.add (Int.toNat k * 72))))] ?_
 refine T_n 1 [(0, vp (some mA)), (1, vi gen), (2, vi kind), (8, vi k), (48, vp (some ((g.add (Int.toNat k * 72)).add 7)))] ?_
 obtain ⟨n, q20, h⟩ := h
 refine T_l (some 49) 3 q20 [(0, vp (some mA)), (1, vi gen), (2, vi kind), (8, vi k), (49, vi n)] ?_
 refine T_ne 1 [(0, vp (some mA)), (1, vi gen), (2, vi kind), (8, vi k), (50, .bool (decide (n > 0)))] ?_
 by_cases c21 : n > 0
 ·rw [if_pos c21] at h
  have b22 : (decide (n > 0)) = true := decide_eq_true c21
  refine T_cT 50 K28 K29 b22 ?_
  refine T_kt ?_
  refine T_b 2 K30 ?_
  refine T_r 7 K30 ?_
  refine T_n 3 [(0, vp (some mA)), (1, vi gen), (2, vi kind), (8, vi (IntKind.wrap .i64 (k + 1)))] ?_
  refine N_end (by kernel_rfl) ?_
  refine S_blockEnd ?_
  refine S_then ?_
  exact S_round ((IntKind.wrap .i64 (k + 1)) : Int) sk h
 rw [if_neg c21] at h
 have b22 : (decide (n > 0)) = false := decide_eq_false c21
 refine T_cF 50 K28 K29 b22 ?_
 refine S_exit 1 (by kernel_rfl) ?_
 refine S_exitThen ?_
 refine S_exitThen ?_
 refine S_exitHere ?_
 refine S_then ?_
 refine T_sr 8 K31 K32 ?_
 refine T_n 3 [(0, vp (some mA)), (1, vi gen), (2, vi kind), (8, vi k), (53, vp (some mA)), (55, vp (some (mA.add 1)))] ?_
 obtain ⟨o, q23, h⟩ := h
 refine T_l (some 56) 3 q23 [(0, vp (some mA)), (1, vi gen), (2, vi kind), (8, vi k), (53, vp (some mA)), (56, vi o)] ?_
 refine T_n 3 [(0, vp (some mA)), (1, vi gen), (2, vi kind), (8, vi k), (57, vi (IntKind.wrap .i64 (o + 1))), (59, vp (some (mA.add 1)))] ?_
 obtain ⟨q25, h⟩ := h
 refine N_skipop none (storeN 3 (vp (some (mA.add 1))) (vi (IntKind.wrap .i64 (o + 1)))) (fun Hz => Hz = hputs H1 (mA.add 1) [vi (IntKind.wrap .i64 (o + 1))] 0) (fun _=>by kernel_rfl) (ss_store [vi (IntKind.wrap .i64 (o + 1))] 1 (by kernel_rfl) (by kernel_rfl) (fun _=>by kernel_rfl) (by kernel_rfl) q25) ?_
 intro H2 e24
 replace h := h H2 e24
 refine ⟨[(0, vp (some mA)), (1, vi gen), (2, vi kind), (8, vi k)], pk, ?_⟩
 refine T_e ?_
 refine T_sr 9 K33 K34 ?_
 refine T_n 3 [(0, vp (some mA)), (1, vi gen), (2, vi kind), (8, vi k), (60, vp (some mA)), (62, vp (some (mA.add 2)))] ?_
 obtain ⟨p, q26, h⟩ := h
 refine T_l (some 63) 3 q26 [(0, vp (some mA)), (1, vi gen), (2, vi kind), (8, vi k), (60, vp (some mA)), (63, vi p)] ?_
 refine T_n 3 [(0, vp (some mA)), (1, vi gen), (2, vi kind), (8, vi k), (64, vi (IntKind.wrap .i64 (p - 1))), (66, vp (some (mA.add 2)))] ?_
 obtain ⟨q28, h⟩ := h
 refine N_skipop none (storeN 3 (vp (some (mA.add 2))) (vi (IntKind.wrap .i64 (p - 1)))) (fun Hz => Hz = hputs H2 (mA.add 2) [vi (IntKind.wrap .i64 (p - 1))] 0) (fun _=>by kernel_rfl) (ss_store [vi (IntKind.wrap .i64 (p - 1))] 1 (by kernel_rfl) (by kernel_rfl) (fun _=>by kernel_rfl) (by kernel_rfl) q28) ?_
 intro H3 e27
 replace h := h H3 e27
 refine ⟨[(0, vp (some mA)), (1, vi gen), (2, vi kind), (8, vi k)], pk, ?_⟩
 refine T_e ?_
 refine T_s K35 K36 ?_
 obtain ⟨s, d, e, q29, h⟩ := h
 obtain ⟨f, q30, h⟩ := h
 obtain ⟨b, rfl, h⟩ := h
 obtain ⟨q31, h⟩ := h
 refine S_regionG 10 (Code.ops K35) [(15, mA, [vs (some b) d e]), (15, (mA.add 1), [vi f])] 16 (bv 16 0) (by kernel_rfl) (by kernel_rfl) (by kernel_rfl) (by kernel_rfl) (by kernel_rfl) (show FactsAt _ _ _ from ⟨⟨q29, trivial⟩, ⟨q30, trivial⟩, trivial⟩) ?_
 refine T_gp 0 (some 67) (vp (some mA)) (bv 16 1) [(0, vp (some mA)), (1, vi gen), (2, vi kind), (8, vi k), (67, vp (some mA))] ?_
 refine T_gp 1 (some 68) (vp (some mA)) (bv 16 3) [(0, vp (some mA)), (1, vi gen), (2, vi kind), (8, vi k), (68, vp (some mA))] ?_
 refine T_gp 2 (some 69) (vp (some mA)) (bv 16 7) [(0, vp (some mA)), (1, vi gen), (2, vi kind), (8, vi k), (69, vp (some mA))] ?_
 refine T_g 3 (some 70) (vs (some b) d e) (bv 16 15) [(0, vp (some mA)), (1, vi gen), (2, vi kind), (8, vi k), (70, vs (some b) d e)] (loadN 108 (vp (some mA))) (held_one 15 (fun _=>by kernel_rfl) (List.Mem.head _) (.inl (by kernel_rfl))) ?_
 refine T_gp 4 (some 71) (vi k) (bv 16 31) [(0, vp (some mA)), (1, vi gen), (2, vi kind), (8, vi k), (70, vs (some b) d e), (71, vi k)] ?_
 refine T_gp 5 (some 72) (vi gen) (bv 16 63) [(0, vp (some mA)), (2, vi kind), (8, vi k), (70, vs (some b) d e), (71, vi k), (72, vi gen)] ?_
 refine T_gp 6 (some 73) (vi kind) (bv 16 127) [(0, vp (some mA)), (8, vi k), (70, vs (some b) d e), (71, vi k), (72, vi gen), (73, vi kind)] ?_
 refine T_gp 7 (some 74) (.agg #[vi 5, vi 5, vi 5, vi 5]) (bv 16 255) [(0, vp (some mA)), (8, vi k), (70, vs (some b) d e), (71, vi k), (72, vi gen), (73, vi kind), (74, .agg #[vi 5, vi 5, vi 5, vi 5])] ?_
 refine T_gp 8 (some 75) (.agg #[vi gen, vi kind, vi 0, vi 5, vi 5, vi 5, vi 5]) (bv 16 511) [(0, vp (some mA)), (8, vi k), (70, vs (some b) d e), (71, vi k), (75, .agg #[vi gen, vi kind, vi 0, vi 5, vi 5, vi 5, vi 5])] ?_
 refine T_gp 9 (some 76) (vp (some mA)) (bv 16 1023) [(8, vi k), (70, vs (some b) d e), (71, vi k), (75, .agg #[vi gen, vi kind, vi 0, vi 5, vi 5, vi 5, vi 5]), (76, vp (some mA))] ?_
 refine T_gp 10 (some 77) (vp (some mA)) (bv 16 2047) [(8, vi k), (70, vs (some b) d e), (71, vi k), (75, .agg #[vi gen, vi kind, vi 0, vi 5, vi 5, vi 5, vi 5]), (77, vp (some mA))] ?_
 refine T_gp 11 (some 78) (vp (some (mA.add 1))) (bv 16 4095) [(8, vi k), (70, vs (some b) d e), (71, vi k), (75, .agg #[vi gen, vi kind, vi 0, vi 5, vi 5, vi 5, vi 5]), (78, vp (some (mA.add 1)))] ?_
 refine T_g 12 (some 79) (vi f) (bv 16 8191) [(8, vi k), (70, vs (some b) d e), (71, vi k), (75, .agg #[vi gen, vi kind, vi 0, vi 5, vi 5, vi 5, vi 5]), (79, vi f)] (loadN 3 (vp (some (mA.add 1)))) (held_one 15 (fun _=>by kernel_rfl) (List.Mem.tail _ (List.Mem.head _)) (.inl (by kernel_rfl))) ?_
 refine T_gp 13 (some 80) (.agg ([vi gen, vi kind, vi 0, vi 5, vi 5, vi 5, vi 5, vi f] ++ List.replicate 64 (vu 0) : List Value).toArray) (bv 16 16383) [(8, vi k), (70, vs (some b) d e), (71, vi k), (80, .agg ([vi gen, vi kind, vi 0, vi 5, vi 5, vi 5, vi 5, vi f] ++ List.replicate 64 (vu 0) : List Value).toArray)] ?_
 refine T_g 14 (some 81) (vp (some (b.add (Int.toNat k * 72)))) (bv 16 32767) [(8, vi k), (80, .agg ([vi gen, vi kind, vi 0, vi 5, vi 5, vi 5, vi 5, vi f] ++ List.replicate 64 (vu 0) : List Value).toArray), (81, vp (some (b.add (Int.toNat k * 72))))] (indexAtN 108 (vs (some b) d e) (vi k)) (fun _ w _ _ _ => indexAt_run (P := Tryz.prog) (t := 108) (elem := 178) (sz := 72) (a := b) (len := d) (cap := e) (k := .i64) (i := k) Tryz.underlying108 (fun _=>by kernel_rfl) q31.1 q31.2 w) ?_
 obtain ⟨q33, h⟩ := h
 refine G_onlyskip 15 none (bv 16 65535) (storeN 178 (vp (some (b.add (Int.toNat k * 72)))) (.agg ([vi gen, vi kind, vi 0, vi 5, vi 5, vi 5, vi 5, vi f] ++ List.replicate 64 (vu 0) : List Value).toArray)) (fun Hz => Hz = hputs H3 (b.add (Int.toNat k * 72)) ([vi gen, vi kind, vi 0, vi 5, vi 5, vi 5, vi 5, vi f] ++ List.replicate 64 (vu 0) : List Value) 0) (by kernel_rfl) (fun _=>by kernel_rfl) (by intro w hw; obtain ⟨w1, g1, g2, g3⟩ := ss_store (P := Tryz.prog) (H := H3) (t := 178) (a := (b.add (Int.toNat k * 72))) (v := (.agg ([vi gen, vi kind, vi 0, vi 5, vi 5, vi 5, vi 5, vi f] ++ List.replicate 64 (vu 0) : List Value).toArray)) ([vi gen, vi kind, vi 0, vi 5, vi 5, vi 5, vi 5, vi f] ++ List.replicate 64 (vu 0) : List Value) 72 (by kernel_rfl) (by kernel_rfl) (fun _=>by kernel_rfl) (by kernel_rfl) q33 w hw; exact ⟨w1, g1, g2, g3⟩) (by kernel_rfl) ?_
 intro H4 e32
 replace h := h H4 e32
 refine ⟨[(8, vi k)], pk, (show FactsAt _ _ _ from ⟨trivial, trivial, trivial⟩), ?_⟩
 refine G_sub [(8, vi k)] sk ?_
 refine G_end (by kernel_rfl) ?_
 refine S_then ?_
 refine T_sr 11 K37 K38 ?_
 refine T_ne 3 [(6, vi k), (7, vi 0)] ?_
 exact T_ret [6, 7] [vi k, vi 0] hQ h
end seg_Mem_Take

end Go.Proofs.YthlohokmnajpoaaGreatDoor
