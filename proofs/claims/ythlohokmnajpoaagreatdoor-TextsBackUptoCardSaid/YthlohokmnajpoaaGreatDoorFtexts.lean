/- Printed: what each function asks, and that it is sound. -/
import Derived.Test.YthlohokmnajpoaaGreatDoorFnsC
set_option linter.unusedSimpArgs false
set_option linter.unusedVariables false
set_option maxHeartbeats 1000000
noncomputable section
namespace Go.Proofs.YthlohokmnajpoaaGreatDoor
open Go
/-! moraine/texts.Apply -/
namespace texts_Apply
def K0 := Func.code Tryz.f28
def K1 := ca K0
def K2 := cb K0
def K3 := ca K2
def K4 := cb K2
def K5 := ca K3
def K6 := cb K3
def K7 := ca K6
def K8 := cb K6
def K9 := ca K7
def K10 := cb K7
def K11 := ca K4
def K12 := cb K4
def K13 := ca K12
def K14 := cb K12
def K15 := ca K13
def K16 := cb K13
def K17 := ca K16
def K18 := cb K16
def K19 := ca K17
def K20 := cb K17
def K21 := ca K14
def K22 := cb K14
def K23 := ca K21
def K24 := cb K21
def K25 := ca K24
def K26 := ca K25
def K27 := ca K26
def K28 := cb K26
def K29 := ca K28
def K30 := cb K28
def K31 := ca K29
def K32 := cb K29
def K33 := ca K30
def K34 := cb K30
def K35 := ca K33
def K36 := ca K35
def K37 := cb K35
def K38 := ca K37
def K39 := cb K37
def K40 := ca K39
def K41 := cb K39
def K42 := ca K40
def K43 := cb K40
def K44 := ca K22
def K45 := cb K22
def K46 := ca K44
def K47 := ca K46
def K48 := cb K46
def K49 := ca K48
def K50 := cb K48
def K51 := ca K49
def K52 := cb K49
def K53 := ca K50
def K54 := cb K50
def K55 := ca K54
def K56 := cb K54
def K57 := ca K55
def K58 := cb K55
def K59 := ca K58
def K60 := cb K58
def K61 := ca K56
def K62 := cb K56
def K63 := ca K62
def K64 := cb K62
def K65 := ca K63
def K66 := cb K63
def K67 := ca K64
def K68 := cb K64
def K69 := ca K68
def K70 := cb K68
def K71 := ca K69
def K72 := cb K69
def K73 := ca K72
def K74 := cb K72
def K75 := ca K73
def K76 := cb K73
def K77 := ca K76
def K78 := ca K77
def K79 := ca K78
def K80 := cb K78
def K81 := ca K80
def K82 := cb K80
def K83 := ca K81
def K84 := cb K81
def K85 := ca K82
def K86 := cb K82
def K87 := ca K85
def K88 := ca K87
def K89 := cb K87
def K90 := ca K74
def K91 := cb K74
def K92 := ca K70
def K93 := cb K70
def K94 := ca K93
def K95 := cb K93
def K96 := ca K94
def K97 := cb K94
def K98 := ca K95
def K99 := cb K95
def K100 := ca K99
def K101 := cb K99
def K102 := ca K100
def K103 := cb K100
def K104 := ca K101
def K105 := cb K101
def K106 := ca K105
def K107 := cb K105
def K108 := ca K106
def K109 := cb K106
def K110 := ca K109
def K111 := cb K109
def K112 := ca K107
def K113 := cb K107
def K114 := ca K113
def K115 := cb K113
def K116 := ca K114
def K117 := cb K114
def K118 := ca K117
def K119 := cb K117
def K120 := ca K115
def K121 := cb K115
def K122 := ca K121
def K123 := cb K121
def K124 := ca K122
def K125 := cb K122
def K126 := ca K45
def K127 := cb K45
end texts_Apply
set_option maxRecDepth 100000 in def texts_Apply.pt (hv : Option Addr) (nv : Int) (argsB : Option Addr) (argsN : Nat) (argsC : Nat) (H : Array Obj) (R : Value → Array Obj → Prop) : Prop :=
 onPtr hv (
 R (.tuple #[.int .u64 0, .int .i64 1]) H) (fun d =>
 ∃ x : Option Addr, hat H d = some (.pointer x) ∧
 onPtr x (
 R (.tuple #[.int .u64 0, .int .i64 1]) H) (fun xA =>
 if ((decide (nv < 0)) || (decide (nv ≥ 32))) = true then (
 R (.tuple #[.int .u64 0, .int .i64 1]) H)
 else
 texts_table.C  H (fun v H1 => ∃ bf : List Value, v = .agg (bf).toArray ∧ bf.length = 128 ∧ 
 ∃ o : ByteArray, ∃ j : Int, ∃ m : Int, ∃ ac : Option Addr, ∃ ad : Nat, ∃ ab : Nat, ((0 ≤ nv ∧ nv < (32 : Int)) ∧ (((bf : List Value).toArray.toList).drop (Int.toNat nv * 4)).take 4 = [.string o, .int .i64 j, .int .i64 m, .slice ac ad ab]) ∧
 ∀ (b : Nat) (H2 : Array Obj), b = H1.size → H2 = H1.push (.cells #[.string (ByteArray.mk #[]), .int .i64 0, .int .i64 0, .slice none 0 0] 125) →
 (CanPuts H2 (Addr.mk b 0 none) 0 4) ∧ ∀ H3 : Array Obj, H3 = hputs H2 (Addr.mk b 0 none) [.string o, .int .i64 j, .int .i64 m, .slice ac ad ab] 0 →
 ∃ J : Bool → Array Obj → Prop, (
 ∃ ah : Int, hat H3 ((Addr.mk b 0 none).add 1) = some (.int .i64 ah) ∧
 if (argsN : Int) < ah then (
 J true H3)
 else
 ∃ ai : Int, hat H3 ((Addr.mk b 0 none).add 2) = some (.int .i64 ai) ∧
 if ai ≥ 0 then (
 ∃ av : Int, hat H3 ((Addr.mk b 0 none).add 2) = some (.int .i64 av) ∧
 J (decide ((argsN : Int) > av)) H3)
 else
 J false H3) ∧ ∀ (bd : Bool) (H4 : Array Obj), J bd H4 →
 if bd = true then (
 R (.tuple #[.int .u64 0, .int .i64 5]) H4)
 else
 ∃ (b8 : Int → Array Obj → Prop) (m27 : Int → Array Obj → Nat), b8 0 H4 ∧ ∀ (f : Int) (H5 : Array Obj), b8 f H5 →
 if f < (argsN : Int) then (
 ∃ e : Addr, argsB = some e ∧
 ((0 : Int) ≤ f ∧ f < (argsN : Int)) ∧
 ∃ ag : Int, hat H5 (e.add (Int.toNat f * 1)) = some (.int .u64 ag) ∧
 ∃ xB : Option Addr, ∃ xN : Nat, ∃ xC : Nat, hat H5 ((Addr.mk b 0 none).add 3) = some (.slice xB xN xC) ∧
 ∃ b7 : Option Addr, ∃ l : Nat, ∃ b6 : Nat, hat H5 ((Addr.mk b 0 none).add 3) = some (.slice b7 l b6) ∧
 ∃ be : Addr, xB = some be ∧
 ((0 : Int) ≤ (if (IntKind.wrap .i64 ((l : Int) - 1)) < f then (IntKind.wrap .i64 ((l : Int) - 1)) else f) ∧ (if (IntKind.wrap .i64 ((l : Int) - 1)) < f then (IntKind.wrap .i64 ((l : Int) - 1)) else f) < (xN : Int)) ∧
 ∃ bs : Int, hat H5 (be.add (Int.toNat (if (IntKind.wrap .i64 ((l : Int) - 1)) < f then (IntKind.wrap .i64 ((l : Int) - 1)) else f) * 1)) = some (.int .i64 bs) ∧
 texts_is.C (some d) ag bs H5 (fun c6 H6 => ∃ au : Bool, c6 = .bool au ∧ 
 if au = true then (
 (b8 (IntKind.wrap .i64 (f + 1)) H6 ∧ m27 (IntKind.wrap .i64 (f + 1)) H6 < m27 f H5))
 else
 R (.tuple #[.int .u64 0, .int .i64 3]) H6))
 else
 if nv ≤ 2 then (
 ∃ z : Addr, argsB = some z ∧
 ((0 : Int) ≤ 0 ∧ 0 < (argsN : Int)) ∧
 ∃ b0 : Int, hat H5 (z.add (Int.toNat 0 * 1)) = some (.int .u64 b0) ∧
 texts_asks.C (some d) nv b0 H5 (fun c9 H7 => ∃ ra : Int, ∃ rb : Int, c9 = .tuple #[.int .u64 ra, .int .i64 rb] ∧ 
 R (.tuple #[.int .u64 ra, .int .i64 rb]) H7))
 else
 if nv = 4 then (
 ∃ s : Addr, argsB = some s ∧
 ((0 : Int) ≤ 0 ∧ 0 < (argsN : Int)) ∧
 ∃ b1 : Int, hat H5 (s.add (Int.toNat 0 * 1)) = some (.int .u64 b1) ∧
 word_Int.C b1 H5 (fun dd H8 => ∃ ae : Int, ∃ cc : Bool, dd = .tuple #[.int .i64 ae, .bool cc] ∧ 
 word_Char.C (IntKind.wrap .i32 (if (-1) < (if 1073741824 < ae then 1073741824 else ae) then (if 1073741824 < ae then 1073741824 else ae) else (-1))) H8 (fun de H9 => ∃ a8 : Int, ∃ bc : Int, de = .tuple #[.int .u64 a8, .int .i64 bc] ∧ 
 R (.tuple #[.int .u64 a8, .int .i64 bc]) H9)))
 else
 if nv ≤ 9 then (
 ∃ y : Addr, argsB = some y ∧
 ((0 : Int) ≤ 0 ∧ 0 < (argsN : Int)) ∧
 ∃ bx : Int, hat H5 (y.add (Int.toNat 0 * 1)) = some (.int .u64 bx) ∧
 ∀ (bu : Nat) (H10 : Array Obj), bu = H5.size → H10 = H5.push (.cells #[.int .u64 bx] 35) →
 texts_letters.C (some (Addr.mk bu 0 none)) 1 1 H10 (fun cr ch => ∃ b2 : Option Addr, ∃ bb : Nat, ∃ bp : Nat, cr = .slice b2 bb bp ∧ 
 ∃ ak : Addr, b2 = some ak ∧
 ((0 : Int) ≤ 0 ∧ 0 < (bb : Int)) ∧
 ∃ bz : Int, hat ch (ak.add (Int.toNat 0 * 1)) = some (.int .i32 bz) ∧
 texts_ofChar.C nv bz ch (fun ct c8 => ∃ ba : Int, ∃ a7 : Int, ct = .tuple #[.int .u64 ba, .int .i64 a7] ∧ 
 R (.tuple #[.int .u64 ba, .int .i64 a7]) c8)))
 else
 if nv ≤ 14 then (
 texts_letters.C argsB argsN argsC H5 (fun cv cy => ∃ af : Option Addr, ∃ g : Nat, ∃ p : Nat, cv = .slice af g p ∧ 
 ∃ (b9 : (Option Addr) → Nat → Nat → Int → Array Obj → Prop) (m79 : (Option Addr) → Nat → Nat → Int → Array Obj → Nat), b9 none 0 0 0 cy ∧ ∀ (lB : Option Addr) (lN : Nat) (lC : Nat) (s130 : Int) (H14 : Array Obj), b9 lB lN lC s130 H14 →
 if s130 < (g : Int) then (
 ∃ aa : Addr, af = some aa ∧
 ((0 : Int) ≤ s130 ∧ s130 < (g : Int)) ∧
 ∃ aj : Int, hat H14 (aa.add (Int.toNat s130 * 1)) = some (.int .i32 aj) ∧
 ∀ (bt : Nat) (H15 : Array Obj), bt = H14.size → H15 = H14.push (.cells #[.int .i32 aj] 21) →
 ∀ (bw : Nat) (H16 : Array Obj), bw = H15.size → H16 = H15.push (.cells #[.slice (some (Addr.mk bt 0 none)) 1 1] 65) →
 appendK 1 65 24 [.slice none 0 0] lB lN lC (some (Addr.mk bw 0 none)) 1 H16 (fun ap bk ci =>
 (b9 ap (lN + 1) bk (IntKind.wrap .i64 (s130 + 1)) ci ∧ m79 ap (lN + 1) bk (IntKind.wrap .i64 (s130 + 1)) ci < m79 lB lN lC s130 H14)))
 else
 texts_rises.C nv lB lN lC H14 (fun c3 db => ∃ bq : Bool, c3 = .bool bq ∧ 
 texts_truth.C bq db (fun cm cx => ∃ a1 : Int, ∃ a3 : Int, cm = .tuple #[.int .u64 a1, .int .i64 a3] ∧ 
 R (.tuple #[.int .u64 a1, .int .i64 a3]) cx))))
 else
 if nv = 15 then (
 texts_makes.C (some d) argsB argsN argsC H5 (fun cn c5 => ∃ ay : Int, ∃ a6 : Int, cn = .tuple #[.int .u64 ay, .int .i64 a6] ∧ 
 R (.tuple #[.int .u64 ay, .int .i64 a6]) c5))
 else
 if nv = 16 then (
 texts_letters.C argsB argsN argsC H5 (fun co cs => ∃ bi : Option Addr, ∃ bg : Nat, ∃ bl : Nat, co = .slice bi bg bl ∧ 
 texts_made.C (some d) bi bg bl cs (fun cp da => ∃ a5 : Int, ∃ a4 : Int, cp = .tuple #[.int .u64 a5, .int .i64 a4] ∧ 
 R (.tuple #[.int .u64 a5, .int .i64 a4]) da)))
 else
 if nv = 29 then (
 ∃ q : Addr, argsB = some q ∧
 ((0 : Int) ≤ 0 ∧ 0 < (argsN : Int)) ∧
 ∃ ax : Int, hat H5 (q.add (Int.toNat 0 * 1)) = some (.int .u64 ax) ∧
 syms_Name.C (some d) ax H5 (fun ce c7 => ∃ aw : ByteArray, ∃ cd : Int, ce = .tuple #[.string aw, .int .i64 cd] ∧ 
 obj_Heap_String.C (some d) aw c7 (fun cf cz => ∃ az : Int, ∃ a2 : Int, cf = .tuple #[.int .u64 az, .int .i64 a2] ∧ 
 R (.tuple #[.int .u64 az, .int .i64 a2]) cz)))
 else
 if ((nv == 27) || (nv == 31)) = true then (
 ∃ r : Addr, argsB = some r ∧
 ((0 : Int) ≤ 0 ∧ 0 < (argsN : Int)) ∧
 ∃ a0 : Int, hat H5 (r.add (Int.toNat 0 * 1)) = some (.int .u64 a0) ∧
 lists_List.C (some d) a0 H5 (fun cl c0 => ∃ bj : Option Addr, ∃ bm : Nat, ∃ bn : Nat, ∃ b4 : Bool, cl = .tuple #[.slice bj bm bn, .bool b4] ∧ 
 texts_ofList.C (some d) nv bj bm bn c0 (fun cj c1 => ∃ am : Int, ∃ aq : Int, cj = .tuple #[.int .u64 am, .int .i64 aq] ∧ 
 R (.tuple #[.int .u64 am, .int .i64 aq]) c1)))
 else
 if nv = 30 then (
 ∃ u : Addr, argsB = some u ∧
 ((0 : Int) ≤ 0 ∧ 0 < (argsN : Int)) ∧
 ∃ a9 : Int, hat H5 (u.add (Int.toNat 0 * 1)) = some (.int .u64 a9) ∧
 texts_words.C (some d) a9 H5 (fun ck cu => ∃ bo : Option Addr, ∃ bh : Nat, ∃ br : Nat, ck = .slice bo bh br ∧ 
 texts_row.C (some d) bo bh br cu (fun cg cw => ∃ an : Int, ∃ ar : Int, cg = .tuple #[.int .u64 an, .int .i64 ar] ∧ 
 R (.tuple #[.int .u64 an, .int .i64 ar]) cw)))
 else
 texts_ofText.C (some d) nv argsB argsN argsC H5 (fun cq dc => ∃ ao : Int, ∃ al : Int, cq = .tuple #[.int .u64 ao, .int .i64 al] ∧ 
 R (.tuple #[.int .u64 ao, .int .i64 al]) dc))))
namespace texts_Apply
set_option maxRecDepth 100000 in
theorem link {hv : Option Addr} {nv : Int} {argsB : Option Addr} {argsN : Nat} {argsC : Nat} {H : Array Obj} {R : Value → Array Obj → Prop} (h : pt hv nv argsB argsN argsC H R) : C hv nv argsB argsN argsC H R := by
 refine T_en K0 218 Tryz.func28 ?_
 intro w0 Q hQ
 unfold pt at h
 refine T_su [(0, vp hv), (1, vi nv), (2, vs argsB argsN argsC)] ?_
 refine T_sr 0 K1 K2 ?_
 refine T_ne 2 [(0, vp hv), (1, vi nv), (2, vs argsB argsN argsC)] ?_
 refine T_s K3 K4 ?_
 refine T_sr 1 K5 K6 ?_
 refine T_n 1 [(0, vp hv), (1, vi nv), (2, vs argsB argsN argsC), (20, vp hv)] ?_
 rcases hv with _ | d
 ·rw [onPtr_none] at h
  refine T_ne 16 [(0, vp none), (1, vi nv), (2, vs argsB argsN argsC), (36, .bool true)] ?_
  refine T_t 36 K7 K8 ?_
  refine T_sr 2 K9 K10 ?_
  refine T_ne 2 [(6, vu 0), (7, vi 1)] ?_
  exact T_ret [6, 7] [vu 0, vi 1] hQ h
 rw [onPtr_some] at h
 refine T_n 5 [(0, vp (some d)), (1, vi nv), (2, vs argsB argsN argsC), (22, .bool false), (25, vp (some d))] ?_
 obtain ⟨x, q1, h⟩ := h
 refine T_l (some 26) 48 q1 [(0, vp (some d)), (1, vi nv), (2, vs argsB argsN argsC), (22, .bool false), (26, vp x)] ?_
 rcases x with _ | xA
 ·rw [onPtr_none] at h
  refine T_ne 10 [(0, vp (some d)), (1, vi nv), (2, vs argsB argsN argsC), (36, .bool true)] ?_
  refine T_t 36 K7 K8 ?_
  refine T_sr 2 K9 K10 ?_
  refine T_ne 2 [(6, vu 0), (7, vi 1)] ?_
  exact T_ret [6, 7] [vu 0, vi 1] hQ h
 rw [onPtr_some] at h
 refine T_n 7 [(0, vp (some d)), (1, vi nv), (2, vs argsB argsN argsC), (33, .bool (decide (nv < 0)))] ?_
 refine N_cut [(0, vp (some d)), (1, vi nv), (2, vs argsB argsN argsC), (36, .bool ((decide (nv < 0)) || (decide (nv ≥ 32))))] ?_ ?_
 ·refine S_then ?_
  by_cases c4 : ((decide (nv < 0)) || (decide (nv ≥ 32))) = true
  ·rw [if_pos c4] at h
   have b5 : ((decide (nv < 0)) || (decide (nv ≥ 32))) = true := c4
   refine T_cT 36 K7 K8 b5 ?_
   refine T_sr 2 K9 K10 ?_
   refine T_ne 2 [(6, vu 0), (7, vi 1)] ?_
   exact T_ret [6, 7] [vu 0, vi 1] hQ h
  rw [if_neg c4] at h
  have b5 : ((decide (nv < 0)) || (decide (nv ≥ 32))) = false := eq_false_of_ne_true c4
  refine T_cF 36 K7 K8 b5 ?_
  refine T_kt ?_
  refine T_sr 3 K11 K12 ?_
  refine T_nu [(0, vp (some d)), (1, vi nv), (2, vs argsB argsN argsC)] ?_
  refine T_c (some 37) h ?_; clear h
  rintro v H1 ⟨bf, rfl, hl, h⟩
  refine ⟨[(0, vp (some d)), (1, vi nv), (2, vs argsB argsN argsC), (37, .agg (bf).toArray)], pk, ?_⟩
  refine T_n 1 [(0, vp (some d)), (1, vi nv), (2, vs argsB argsN argsC), (37, .agg (bf).toArray), (38, vi nv)] ?_
  obtain ⟨o, j, m, ac, ad, ab, q6, h⟩ := h
  refine T_v (some 39) (indexN 126 (.agg (bf).toArray) (vi nv)) (.agg #[.string o, vi j, vi m, vs ac ad ab]) (fun w _ => indexAggs_run (P := Tryz.prog) (t := 126) (elem := 125) (n := 32) (sz := 4) Tryz.underlying126 (fun _=>by kernel_rfl) (fun _=>by kernel_rfl) q6.1.1 q6.1.2 q6.2 w) [(0, vp (some d)), (1, vi nv), (2, vs argsB argsN argsC), (39, .agg #[.string o, vi j, vi m, vs ac ad ab])] ?_
  refine T_nw (some 8) (fun b => vp (pa b)) (.cells #[.string (ByteArray.mk #[]), vi 0, vi 0, vs none 0 0] 125) ?_
  intro b H2 e7 e8
  replace h := h b H2 e7 e8
  refine ⟨[(0, vp (some d)), (1, vi nv), (2, vs argsB argsN argsC), (8, vp (pa b)), (39, .agg #[.string o, vi j, vi m, vs ac ad ab])], pk, ?_⟩
  obtain ⟨q10, h⟩ := h
  refine N_skipop none (storeN 125 (vp (pa b)) (.agg #[.string o, vi j, vi m, vs ac ad ab])) (fun Hz => Hz = hputs H2 (Addr.mk b 0 none) [.string o, vi j, vi m, vs ac ad ab] 0) (fun _=>by kernel_rfl) (ss_store [.string o, vi j, vi m, vs ac ad ab] 4 (by kernel_rfl) (by kernel_rfl) (fun _=>by kernel_rfl) (by kernel_rfl) q10) ?_
  intro H3 e9
  replace h := h H3 e9
  refine ⟨[(0, vp (some d)), (1, vi nv), (2, vs argsB argsN argsC), (8, vp (pa b))], pk, ?_⟩
  refine T_e ?_
  refine T_s K13 K14 ?_
  refine T_s K15 K16 ?_
  obtain ⟨J, h, j12⟩ := h
  refine S_join (σ := Bool) (fun s_ => [(0, vp (some d)), (1, vi nv), (2, vs argsB argsN argsC), (8, vp (pa b)), (59, .bool s_)]) (fun s_ H => J s_ H) ?_ ?_
  ·rintro bd H4 j13
   replace h := j12 bd H4 j13
   refine T_su [(0, vp (some d)), (1, vi nv), (2, vs argsB argsN argsC), (8, vp (pa b)), (59, .bool bd)] ?_
   refine S_then ?_
   by_cases c14 : bd = true
   ·rw [if_pos c14] at h
    have b15 : bd = true := c14
    refine S_env [(0, vp (some d)), (1, vi nv), (2, vs argsB argsN argsC), (8, vp (pa b)), (59, .bool true)] (by rw [b15]) ?_
    clear b15
    refine T_t 59 K17 K18 ?_
    refine T_sr 5 K19 K20 ?_
    refine T_ne 2 [(6, vu 0), (7, vi 5)] ?_
    exact T_ret [6, 7] [vu 0, vi 5] hQ h
   rw [if_neg c14] at h
   have b15 : bd = false := eq_false_of_ne_true c14
   refine S_env [(0, vp (some d)), (1, vi nv), (2, vs argsB argsN argsC), (8, vp (pa b)), (59, .bool false)] (by rw [b15]) ?_
   clear b15
   refine T_f 59 K17 K18 ?_
   refine T_kt ?_
   refine T_s K21 K22 ?_
   refine T_sr 6 K23 K24 ?_
   refine T_ne 3 [(0, vp (some d)), (1, vi nv), (2, vs argsB argsN argsC), (8, vp (pa b)), (60, vs argsB argsN argsC), (61, vi argsN), (62, vi 0)] ?_
   refine T_b 0 K25 ?_
   obtain ⟨b8, m27, i16, i17⟩ := h
   refine S_loop (x := K26) (σ := Int) (fun s_ => [(0, vp (some d)), (1, vi nv), (2, vs argsB argsN argsC), (8, vp (pa b)), (60, vs argsB argsN argsC), (61, vi argsN), (62, vi s_)]) (fun s_ H => b8 s_ H) (fun s_ H => m27 s_ H) (0 : Int) (by kernel_rfl) i16 sk ?_
   rintro f H5 i18
   have h := i17 f H5 i18
   refine T_su [(0, vp (some d)), (1, vi nv), (2, vs argsB argsN argsC), (8, vp (pa b)), (60, vs argsB argsN argsC), (61, vi argsN), (62, vi f)] ?_
   refine T_sr 7 K27 K28 ?_
   refine T_ne 1 [(0, vp (some d)), (1, vi nv), (2, vs argsB argsN argsC), (8, vp (pa b)), (60, vs argsB argsN argsC), (61, vi argsN), (62, vi f), (63, .bool (decide (f < (argsN : Int))))] ?_
   refine T_s K29 K30 ?_
   by_cases c19 : f < (argsN : Int)
   ·rw [if_pos c19] at h
    have b20 : (decide (f < (argsN : Int))) = true := decide_eq_true c19
    refine T_cT 63 K31 K32 b20 ?_
    refine T_kt ?_
    refine T_s K33 K34 ?_
    refine T_b 1 K35 ?_
    refine T_sr 8 K36 K37 ?_
    refine T_n 1 [(0, vp (some d)), (1, vi nv), (2, vs argsB argsN argsC), (8, vp (pa b)), (60, vs argsB argsN argsC), (61, vi argsN), (62, vi f), (64, vi f)] ?_
    obtain ⟨e, rfl, h⟩ := h
    obtain ⟨q21, h⟩ := h
    refine T_ix (some 65) 43 35 1 e argsN argsC .i64 f Tryz.underlying43 q21.1 q21.2 [(0, vp (some d)), (1, vi nv), (2, vs (some e) argsN argsC), (8, vp (pa b)), (60, vs (some e) argsN argsC), (61, vi argsN), (62, vi f), (64, vi f), (65, vp (some (e.add (Int.toNat f * 1))))] ?_
    obtain ⟨ag, q22, h⟩ := h
    refine T_l (some 66) 35 q22 [(0, vp (some d)), (1, vi nv), (2, vs (some e) argsN argsC), (8, vp (pa b)), (60, vs (some e) argsN argsC), (61, vi argsN), (62, vi f), (64, vi f), (66, vu ag)] ?_
    refine T_ne 2 [(0, vp (some d)), (1, vi nv), (2, vs (some e) argsN argsC), (8, vp (pa b)), (9, vi f), (10, vu ag), (60, vs (some e) argsN argsC), (61, vi argsN), (62, vi f)] ?_
    refine T_sr 9 K38 K39 ?_
    refine T_n 3 [(0, vp (some d)), (1, vi nv), (2, vs (some e) argsN argsC), (8, vp (pa b)), (9, vi f), (60, vs (some e) argsN argsC), (61, vi argsN), (62, vi f), (67, vp (some d)), (68, vu ag), (69, vp (some ((Addr.mk b 0 none).add 3)))] ?_
    obtain ⟨xB, xN, xC, q23, h⟩ := h
    refine T_l (some 70) 101 q23 [(0, vp (some d)), (1, vi nv), (2, vs (some e) argsN argsC), (8, vp (pa b)), (9, vi f), (60, vs (some e) argsN argsC), (61, vi argsN), (62, vi f), (67, vp (some d)), (68, vu ag), (70, vs xB xN xC)] ?_
    refine T_n 2 [(0, vp (some d)), (1, vi nv), (2, vs (some e) argsN argsC), (8, vp (pa b)), (60, vs (some e) argsN argsC), (61, vi argsN), (62, vi f), (67, vp (some d)), (68, vu ag), (70, vs xB xN xC), (71, vi f), (72, vp (some ((Addr.mk b 0 none).add 3)))] ?_
    obtain ⟨b7, l, b6, q24, h⟩ := h
    refine T_l (some 73) 101 q24 [(0, vp (some d)), (1, vi nv), (2, vs (some e) argsN argsC), (8, vp (pa b)), (60, vs (some e) argsN argsC), (61, vi argsN), (62, vi f), (67, vp (some d)), (68, vu ag), (70, vs xB xN xC), (71, vi f), (73, vs b7 l b6)] ?_
    refine T_n 3 [(0, vp (some d)), (1, vi nv), (2, vs (some e) argsN argsC), (8, vp (pa b)), (60, vs (some e) argsN argsC), (61, vi argsN), (62, vi f), (67, vp (some d)), (68, vu ag), (70, vs xB xN xC), (76, vi (if (IntKind.wrap .i64 ((l : Int) - 1)) < f then (IntKind.wrap .i64 ((l : Int) - 1)) else f))] ?_
    obtain ⟨be, rfl, h⟩ := h
    obtain ⟨q25, h⟩ := h
    refine T_ix (some 77) 101 3 1 be xN xC .i64 (if (IntKind.wrap .i64 ((l : Int) - 1)) < f then (IntKind.wrap .i64 ((l : Int) - 1)) else f) Tryz.underlying101 q25.1 q25.2 [(0, vp (some d)), (1, vi nv), (2, vs (some e) argsN argsC), (8, vp (pa b)), (60, vs (some e) argsN argsC), (61, vi argsN), (62, vi f), (67, vp (some d)), (68, vu ag), (77, vp (some (be.add (Int.toNat (if (IntKind.wrap .i64 ((l : Int) - 1)) < f then (IntKind.wrap .i64 ((l : Int) - 1)) else f) * 1))))] ?_
    obtain ⟨bs, q26, h⟩ := h
    refine T_l (some 78) 3 q26 [(0, vp (some d)), (1, vi nv), (2, vs (some e) argsN argsC), (8, vp (pa b)), (60, vs (some e) argsN argsC), (61, vi argsN), (62, vi f), (67, vp (some d)), (68, vu ag), (78, vi bs)] ?_
    refine T_c (some 79) h ?_; clear h
    rintro c6 H6 ⟨au, rfl, h⟩
    refine ⟨[(0, vp (some d)), (1, vi nv), (2, vs (some e) argsN argsC), (8, vp (pa b)), (60, vs (some e) argsN argsC), (61, vi argsN), (62, vi f), (79, .bool au)], pk, ?_⟩
    refine T_ne 1 [(0, vp (some d)), (1, vi nv), (2, vs (some e) argsN argsC), (8, vp (pa b)), (60, vs (some e) argsN argsC), (61, vi argsN), (62, vi f), (80, .bool (!au))] ?_
    by_cases c27 : au = true
    ·rw [if_pos c27] at h
     have b28 : (!au) = false := congrArg Bool.not (c27)
     refine T_cF 80 K40 K41 b28 ?_
     refine T_k ?_
     refine S_blockEnd ?_
     refine S_then ?_
     refine T_r 11 K34 ?_
     refine T_ne 2 [(0, vp (some d)), (1, vi nv), (2, vs (some e) argsN argsC), (8, vp (pa b)), (60, vs (some e) argsN argsC), (61, vi argsN), (62, vi (IntKind.wrap .i64 (f + 1)))] ?_
     exact S_round ((IntKind.wrap .i64 (f + 1)) : Int) sk h
    rw [if_neg c27] at h
    have b28 : (!au) = true := congrArg Bool.not (eq_false_of_ne_true c27)
    refine T_cT 80 K40 K41 b28 ?_
    refine T_sr 10 K42 K43 ?_
    refine T_ne 2 [(6, vu 0), (7, vi 3)] ?_
    exact T_ret [6, 7] [vu 0, vi 3] hQ h
   rw [if_neg c19] at h
   have b20 : (decide (f < (argsN : Int))) = false := decide_eq_false c19
   refine T_cF 63 K31 K32 b20 ?_
   refine S_exit 0 (by kernel_rfl) ?_
   refine S_exitThen ?_
   refine S_exitThen ?_
   refine S_exitHere ?_
   refine S_then ?_
   refine T_s K44 K45 ?_
   refine T_b 2 K46 ?_
   refine T_sr 12 K47 K48 ?_
   refine T_ne 3 [(0, vp (some d)), (1, vi nv), (2, vs argsB argsN argsC), (82, .bool (decide (nv ≤ 2)))] ?_
   by_cases c29 : nv ≤ 2
   ·rw [if_pos c29] at h
    have b30 : (decide (nv ≤ 2)) = true := decide_eq_true c29
    refine T_cT 82 K49 K50 b30 ?_
    refine T_sr 13 K51 K52 ?_
    refine T_n 3 [(85, vp (some d)), (86, vi nv), (87, vs argsB argsN argsC)] ?_
    obtain ⟨z, rfl, h⟩ := h
    obtain ⟨q31, h⟩ := h
    refine T_ix (some 88) 43 35 1 z argsN argsC .i64 0 Tryz.underlying43 q31.1 q31.2 [(85, vp (some d)), (86, vi nv), (88, vp (some (z.add (Int.toNat 0 * 1))))] ?_
    obtain ⟨b0, q32, h⟩ := h
    refine T_l (some 89) 35 q32 [(85, vp (some d)), (86, vi nv), (89, vu b0)] ?_
    refine T_c (some 90) h ?_; clear h
    rintro c9 H7 ⟨ra, rb, rfl, h⟩
    refine ⟨[(90, .tuple #[vu ra, vi rb])], pk, ?_⟩
    refine T_ne 4 [(6, vu ra), (7, vi rb)] ?_
    exact T_ret [6, 7] [vu ra, vi rb] hQ h
   rw [if_neg c29] at h
   have b30 : (decide (nv ≤ 2)) = false := decide_eq_false c29
   refine T_cF 82 K49 K50 b30 ?_
   refine T_sr 14 K53 K54 ?_
   refine T_ne 3 [(0, vp (some d)), (1, vi nv), (2, vs argsB argsN argsC), (93, .bool (nv == 4))] ?_
   by_cases c33 : nv = 4
   ·rw [if_pos c33] at h
    have b34 : (nv == 4) = true := beq_iff_eq.mpr c33
    refine T_cT 93 K55 K56 b34 ?_
    refine T_sr 15 K57 K58 ?_
    refine T_n 1 [(97, vs argsB argsN argsC)] ?_
    obtain ⟨s, rfl, h⟩ := h
    obtain ⟨q35, h⟩ := h
    refine T_ix (some 98) 43 35 1 s argsN argsC .i64 0 Tryz.underlying43 q35.1 q35.2 [(98, vp (some (s.add (Int.toNat 0 * 1))))] ?_
    obtain ⟨b1, q36, h⟩ := h
    refine T_l (some 99) 35 q36 [(99, vu b1)] ?_
    refine T_c (some 100) h ?_; clear h
    rintro dd H8 ⟨ae, cc, rfl, h⟩
    refine ⟨[(100, .tuple #[vi ae, .bool cc])], pk, ?_⟩
    refine T_ne 5 [(11, vi ae)] ?_
    refine T_sr 16 K59 K60 ?_
    refine T_n 4 [(106, .int .i32 (IntKind.wrap .i32 (if (-1) < (if 1073741824 < ae then 1073741824 else ae) then (if 1073741824 < ae then 1073741824 else ae) else (-1))))] ?_
    refine T_c (some 107) h ?_; clear h
    rintro de H9 ⟨a8, bc, rfl, h⟩
    refine ⟨[(107, .tuple #[vu a8, vi bc])], pk, ?_⟩
    refine T_ne 4 [(6, vu a8), (7, vi bc)] ?_
    exact T_ret [6, 7] [vu a8, vi bc] hQ h
   rw [if_neg c33] at h
   have b34 : (nv == 4) = false := beq_eq_false_iff_ne.mpr c33
   refine T_cF 93 K55 K56 b34 ?_
   refine T_sr 17 K61 K62 ?_
   refine T_ne 3 [(0, vp (some d)), (1, vi nv), (2, vs argsB argsN argsC), (110, .bool (decide (nv ≤ 9)))] ?_
   by_cases c37 : nv ≤ 9
   ·rw [if_pos c37] at h
    have b38 : (decide (nv ≤ 9)) = true := decide_eq_true c37
    refine T_cT 110 K63 K64 b38 ?_
    refine T_sr 18 K65 K66 ?_
    refine T_n 2 [(113, vi nv), (114, vs argsB argsN argsC)] ?_
    obtain ⟨y, rfl, h⟩ := h
    obtain ⟨q39, h⟩ := h
    refine T_ix (some 115) 43 35 1 y argsN argsC .i64 0 Tryz.underlying43 q39.1 q39.2 [(113, vi nv), (115, vp (some (y.add (Int.toNat 0 * 1))))] ?_
    obtain ⟨bx, q40, h⟩ := h
    refine T_l (some 116) 35 q40 [(113, vi nv), (116, vu bx)] ?_
    refine T_nw (some 117) (fun b => vs (pa b) 1 1) (.cells #[vu bx] 35) ?_
    intro bu H10 e41 e42
    replace h := h bu H10 e41 e42
    refine ⟨[(113, vi nv), (117, vs (pa bu) 1 1)], pk, ?_⟩
    refine T_c (some 118) h ?_; clear h
    rintro cr ch ⟨b2, bb, bp, rfl, h⟩
    refine ⟨[(113, vi nv), (118, vs b2 bb bp)], pk, ?_⟩
    obtain ⟨ak, rfl, h⟩ := h
    obtain ⟨q43, h⟩ := h
    refine T_ix (some 119) 65 21 1 ak bb bp .i64 0 Tryz.underlying65 q43.1 q43.2 [(113, vi nv), (119, vp (some (ak.add (Int.toNat 0 * 1))))] ?_
    obtain ⟨bz, q44, h⟩ := h
    refine T_l (some 120) 21 q44 [(113, vi nv), (120, .int .i32 bz)] ?_
    refine T_c (some 121) h ?_; clear h
    rintro ct c8 ⟨ba, a7, rfl, h⟩
    refine ⟨[(121, .tuple #[vu ba, vi a7])], pk, ?_⟩
    refine T_ne 4 [(6, vu ba), (7, vi a7)] ?_
    exact T_ret [6, 7] [vu ba, vi a7] hQ h
   rw [if_neg c37] at h
   have b38 : (decide (nv ≤ 9)) = false := decide_eq_false c37
   refine T_cF 110 K63 K64 b38 ?_
   refine T_sr 19 K67 K68 ?_
   refine T_ne 3 [(0, vp (some d)), (1, vi nv), (2, vs argsB argsN argsC), (124, .bool (decide (nv ≤ 14)))] ?_
   by_cases c45 : nv ≤ 14
   ·rw [if_pos c45] at h
    have b46 : (decide (nv ≤ 14)) = true := decide_eq_true c45
    refine T_cT 124 K69 K70 b46 ?_
    refine T_sr 20 K71 K72 ?_
    refine T_ne 1 [(1, vi nv), (2, vs argsB argsN argsC), (13, vs none 0 0)] ?_
    refine T_s K73 K74 ?_
    refine T_sr 21 K75 K76 ?_
    refine T_n 1 [(1, vi nv), (13, vs none 0 0), (127, vs argsB argsN argsC)] ?_
    refine T_c (some 128) h ?_; clear h
    rintro cv cy ⟨af, g, p, rfl, h⟩
    refine ⟨[(1, vi nv), (13, vs none 0 0), (128, vs af g p)], pk, ?_⟩
    refine T_ne 2 [(1, vi nv), (13, vs none 0 0), (128, vs af g p), (129, vi g), (130, vi 0)] ?_
    refine T_b 3 K77 ?_
    obtain ⟨b9, m79, i47, i48⟩ := h
    refine S_loop (x := K78) (σ := (Option Addr) × Nat × Nat × Int) (fun s_ => [(1, vi nv), (13, vs s_.1 s_.2.1 s_.2.2.1), (128, vs af g p), (129, vi g), (130, vi s_.2.2.2)]) (fun s_ H => b9 s_.1 s_.2.1 s_.2.2.1 s_.2.2.2 H) (fun s_ H => m79 s_.1 s_.2.1 s_.2.2.1 s_.2.2.2 H) ((none, 0, 0, 0) : (Option Addr) × Nat × Nat × Int) (by kernel_rfl) i47 sk ?_
    rintro ⟨lB, lN, lC, s130⟩ H14 i49
    have h := i48 lB lN lC s130 H14 i49
    refine T_su [(1, vi nv), (13, vs lB lN lC), (128, vs af g p), (129, vi g), (130, vi s130)] ?_
    refine T_sr 22 K79 K80 ?_
    refine T_ne 1 [(1, vi nv), (13, vs lB lN lC), (128, vs af g p), (129, vi g), (130, vi s130), (131, .bool (decide (s130 < (g : Int))))] ?_
    refine T_s K81 K82 ?_
    by_cases c50 : s130 < (g : Int)
    ·rw [if_pos c50] at h
     have b51 : (decide (s130 < (g : Int))) = true := decide_eq_true c50
     refine T_cT 131 K83 K84 b51 ?_
     refine T_kt ?_
     refine T_s K85 K86 ?_
     refine T_b 4 K87 ?_
     refine T_sr 23 K88 K89 ?_
     refine T_nu [(1, vi nv), (13, vs lB lN lC), (128, vs af g p), (129, vi g), (130, vi s130)] ?_
     obtain ⟨aa, rfl, h⟩ := h
     obtain ⟨q52, h⟩ := h
     refine T_ix (some 132) 65 21 1 aa g p .i64 s130 Tryz.underlying65 q52.1 q52.2 [(1, vi nv), (13, vs lB lN lC), (128, vs (some aa) g p), (129, vi g), (130, vi s130), (132, vp (some (aa.add (Int.toNat s130 * 1))))] ?_
     obtain ⟨aj, q53, h⟩ := h
     refine T_l (some 133) 21 q53 [(1, vi nv), (13, vs lB lN lC), (128, vs (some aa) g p), (129, vi g), (130, vi s130), (133, .int .i32 aj)] ?_
     refine T_ne 1 [(1, vi nv), (13, vs lB lN lC), (15, .int .i32 aj), (128, vs (some aa) g p), (129, vi g), (130, vi s130)] ?_
     refine T_r 24 K89 ?_
     refine T_n 2 [(1, vi nv), (128, vs (some aa) g p), (129, vi g), (130, vi s130), (134, vs lB lN lC), (135, .int .i32 aj)] ?_
     refine T_nw (some 136) (fun b => vs (pa b) 1 1) (.cells #[.int .i32 aj] 21) ?_
     intro bt H15 e54 e55
     replace h := h bt H15 e54 e55
     refine ⟨[(1, vi nv), (128, vs (some aa) g p), (129, vi g), (130, vi s130), (134, vs lB lN lC), (136, vs (pa bt) 1 1)], pk, ?_⟩
     refine T_nw (some 137) (fun b => vs (pa b) 1 1) (.cells #[vs (pa bt) 1 1] 65) ?_
     intro bw H16 e56 e57
     replace h := h bw H16 e56 e57
     refine ⟨[(1, vi nv), (128, vs (some aa) g p), (129, vi g), (130, vi s130), (134, vs lB lN lC), (137, vs (pa bw) 1 1)], pk, ?_⟩
     refine N_op (some 138) (appendN #[134, 134] 134 #[vs lB lN lC, vs (pa bw) 1 1]) _ (fun _=>by kernel_rfl) (ss_append (T := 65) (sz := 1) (bytes := 24) (zero := (vs none 0 0 : Value)) Tryz.underlying134 Tryz.underlying134 rfl (show Tryz.prog.info? 65 = some Tryz.t65 from by kernel_rfl) (by kernel_rfl) (by kernel_rfl) (by decide) (by kernel_rfl) (by first | exact h | (simpa only [Value.cells, List.toList_toArray] using h))) ?_; clear h
     rintro _ ci ⟨ap, bk, rfl, h⟩
     refine ⟨[(1, vi nv), (128, vs (some aa) g p), (129, vi g), (130, vi s130), (138, vs ap (lN + 1) bk)], pk, ?_⟩
     refine T_n 1 [(1, vi nv), (13, vs ap (lN + 1) bk), (128, vs (some aa) g p), (129, vi g), (130, vi s130)] ?_
     refine N_end (by kernel_rfl) ?_
     refine S_blockEnd ?_
     refine S_then ?_
     refine T_r 25 K86 ?_
     refine T_ne 2 [(1, vi nv), (13, vs ap (lN + 1) bk), (128, vs (some aa) g p), (129, vi g), (130, vi (IntKind.wrap .i64 (s130 + 1)))] ?_
     exact S_round ((ap, (lN + 1), bk, (IntKind.wrap .i64 (s130 + 1))) : (Option Addr) × Nat × Nat × Int) sk h
    rw [if_neg c50] at h
    have b51 : (decide (s130 < (g : Int))) = false := decide_eq_false c50
    refine T_cF 131 K83 K84 b51 ?_
    refine S_exit 3 (by kernel_rfl) ?_
    refine S_exitThen ?_
    refine S_exitThen ?_
    refine S_exitHere ?_
    refine S_then ?_
    refine T_sr 26 K90 K91 ?_
    refine T_n 2 [(140, vi nv), (141, vs lB lN lC)] ?_
    refine T_c (some 142) h ?_; clear h
    rintro c3 db ⟨bq, rfl, h⟩
    refine ⟨[(142, .bool bq)], pk, ?_⟩
    refine T_c (some 143) h ?_; clear h
    rintro cm cx ⟨a1, a3, rfl, h⟩
    refine ⟨[(143, .tuple #[vu a1, vi a3])], pk, ?_⟩
    refine T_ne 4 [(6, vu a1), (7, vi a3)] ?_
    exact T_ret [6, 7] [vu a1, vi a3] hQ h
   rw [if_neg c45] at h
   have b46 : (decide (nv ≤ 14)) = false := decide_eq_false c45
   refine T_cF 124 K69 K70 b46 ?_
   refine T_sr 27 K92 K93 ?_
   refine T_ne 3 [(0, vp (some d)), (1, vi nv), (2, vs argsB argsN argsC), (146, .bool (nv == 15))] ?_
   by_cases c58 : nv = 15
   ·rw [if_pos c58] at h
    have b59 : (nv == 15) = true := beq_iff_eq.mpr c58
    refine T_cT 146 K94 K95 b59 ?_
    refine T_sr 28 K96 K97 ?_
    refine T_n 2 [(149, vp (some d)), (150, vs argsB argsN argsC)] ?_
    refine T_c (some 151) h ?_; clear h
    rintro cn c5 ⟨ay, a6, rfl, h⟩
    refine ⟨[(151, .tuple #[vu ay, vi a6])], pk, ?_⟩
    refine T_ne 4 [(6, vu ay), (7, vi a6)] ?_
    exact T_ret [6, 7] [vu ay, vi a6] hQ h
   rw [if_neg c58] at h
   have b59 : (nv == 15) = false := beq_eq_false_iff_ne.mpr c58
   refine T_cF 146 K94 K95 b59 ?_
   refine T_sr 29 K98 K99 ?_
   refine T_ne 3 [(0, vp (some d)), (1, vi nv), (2, vs argsB argsN argsC), (154, .bool (nv == 16))] ?_
   by_cases c60 : nv = 16
   ·rw [if_pos c60] at h
    have b61 : (nv == 16) = true := beq_iff_eq.mpr c60
    refine T_cT 154 K100 K101 b61 ?_
    refine T_sr 30 K102 K103 ?_
    refine T_n 2 [(157, vp (some d)), (158, vs argsB argsN argsC)] ?_
    refine T_c (some 159) h ?_; clear h
    rintro co cs ⟨bi, bg, bl, rfl, h⟩
    refine ⟨[(157, vp (some d)), (159, vs bi bg bl)], pk, ?_⟩
    refine T_c (some 160) h ?_; clear h
    rintro cp da ⟨a5, a4, rfl, h⟩
    refine ⟨[(160, .tuple #[vu a5, vi a4])], pk, ?_⟩
    refine T_ne 4 [(6, vu a5), (7, vi a4)] ?_
    exact T_ret [6, 7] [vu a5, vi a4] hQ h
   rw [if_neg c60] at h
   have b61 : (nv == 16) = false := beq_eq_false_iff_ne.mpr c60
   refine T_cF 154 K100 K101 b61 ?_
   refine T_sr 31 K104 K105 ?_
   refine T_ne 3 [(0, vp (some d)), (1, vi nv), (2, vs argsB argsN argsC), (163, .bool (nv == 29))] ?_
   by_cases c62 : nv = 29
   ·rw [if_pos c62] at h
    have b63 : (nv == 29) = true := beq_iff_eq.mpr c62
    refine T_cT 163 K106 K107 b63 ?_
    refine T_sr 32 K108 K109 ?_
    refine T_n 2 [(0, vp (some d)), (167, vp (some d)), (168, vs argsB argsN argsC)] ?_
    obtain ⟨q, rfl, h⟩ := h
    obtain ⟨q64, h⟩ := h
    refine T_ix (some 169) 43 35 1 q argsN argsC .i64 0 Tryz.underlying43 q64.1 q64.2 [(0, vp (some d)), (167, vp (some d)), (169, vp (some (q.add (Int.toNat 0 * 1))))] ?_
    obtain ⟨ax, q65, h⟩ := h
    refine T_l (some 170) 35 q65 [(0, vp (some d)), (167, vp (some d)), (170, vu ax)] ?_
    refine T_c (some 171) h ?_; clear h
    rintro ce c7 ⟨aw, cd, rfl, h⟩
    refine ⟨[(0, vp (some d)), (171, .tuple #[.string aw, vi cd])], pk, ?_⟩
    refine T_ne 5 [(0, vp (some d)), (16, .string aw)] ?_
    refine T_sr 33 K110 K111 ?_
    refine T_n 2 [(174, vp (some d)), (175, .string aw)] ?_
    refine T_c (some 176) h ?_; clear h
    rintro cf cz ⟨az, a2, rfl, h⟩
    refine ⟨[(176, .tuple #[vu az, vi a2])], pk, ?_⟩
    refine T_ne 4 [(6, vu az), (7, vi a2)] ?_
    exact T_ret [6, 7] [vu az, vi a2] hQ h
   rw [if_neg c62] at h
   have b63 : (nv == 29) = false := beq_eq_false_iff_ne.mpr c62
   refine T_cF 163 K106 K107 b63 ?_
   refine T_sr 34 K112 K113 ?_
   refine N_cut [(0, vp (some d)), (1, vi nv), (2, vs argsB argsN argsC), (179, .bool ((nv == 27) || (nv == 31)))] ?_ ?_
   ·refine S_then ?_
    by_cases c68 : ((nv == 27) || (nv == 31)) = true
    ·rw [if_pos c68] at h
     have b69 : ((nv == 27) || (nv == 31)) = true := c68
     refine T_cT 179 K114 K115 b69 ?_
     refine T_sr 35 K116 K117 ?_
     refine T_n 2 [(0, vp (some d)), (1, vi nv), (187, vp (some d)), (188, vs argsB argsN argsC)] ?_
     obtain ⟨r, rfl, h⟩ := h
     obtain ⟨q70, h⟩ := h
     refine T_ix (some 189) 43 35 1 r argsN argsC .i64 0 Tryz.underlying43 q70.1 q70.2 [(0, vp (some d)), (1, vi nv), (187, vp (some d)), (189, vp (some (r.add (Int.toNat 0 * 1))))] ?_
     obtain ⟨a0, q71, h⟩ := h
     refine T_l (some 190) 35 q71 [(0, vp (some d)), (1, vi nv), (187, vp (some d)), (190, vu a0)] ?_
     refine T_c (some 191) h ?_; clear h
     rintro cl c0 ⟨bj, bm, bn, b4, rfl, h⟩
     refine ⟨[(0, vp (some d)), (1, vi nv), (191, .tuple #[vs bj bm bn, .bool b4])], pk, ?_⟩
     refine T_ne 5 [(0, vp (some d)), (1, vi nv), (18, vs bj bm bn)] ?_
     refine T_sr 36 K118 K119 ?_
     refine T_n 3 [(194, vp (some d)), (195, vi nv), (196, vs bj bm bn)] ?_
     refine T_c (some 197) h ?_; clear h
     rintro cj c1 ⟨am, aq, rfl, h⟩
     refine ⟨[(197, .tuple #[vu am, vi aq])], pk, ?_⟩
     refine T_ne 4 [(6, vu am), (7, vi aq)] ?_
     exact T_ret [6, 7] [vu am, vi aq] hQ h
    rw [if_neg c68] at h
    have b69 : ((nv == 27) || (nv == 31)) = false := eq_false_of_ne_true c68
    refine T_cF 179 K114 K115 b69 ?_
    refine T_sr 37 K120 K121 ?_
    refine T_ne 3 [(0, vp (some d)), (1, vi nv), (2, vs argsB argsN argsC), (200, .bool (nv == 30))] ?_
    by_cases c72 : nv = 30
    ·rw [if_pos c72] at h
     have b73 : (nv == 30) = true := beq_iff_eq.mpr c72
     refine T_cT 200 K122 K123 b73 ?_
     refine T_sr 38 K124 K125 ?_
     refine T_n 3 [(203, vp (some d)), (204, vp (some d)), (205, vs argsB argsN argsC)] ?_
     obtain ⟨u, rfl, h⟩ := h
     obtain ⟨q74, h⟩ := h
     refine T_ix (some 206) 43 35 1 u argsN argsC .i64 0 Tryz.underlying43 q74.1 q74.2 [(203, vp (some d)), (204, vp (some d)), (206, vp (some (u.add (Int.toNat 0 * 1))))] ?_
     obtain ⟨a9, q75, h⟩ := h
     refine T_l (some 207) 35 q75 [(203, vp (some d)), (204, vp (some d)), (207, vu a9)] ?_
     refine T_c (some 208) h ?_; clear h
     rintro ck cu ⟨bo, bh, br, rfl, h⟩
     refine ⟨[(203, vp (some d)), (208, vs bo bh br)], pk, ?_⟩
     refine T_c (some 209) h ?_; clear h
     rintro cg cw ⟨an, ar, rfl, h⟩
     refine ⟨[(209, .tuple #[vu an, vi ar])], pk, ?_⟩
     refine T_ne 4 [(6, vu an), (7, vi ar)] ?_
     exact T_ret [6, 7] [vu an, vi ar] hQ h
    rw [if_neg c72] at h
    have b73 : (nv == 30) = false := beq_eq_false_iff_ne.mpr c72
    refine T_cF 200 K122 K123 b73 ?_
    refine T_k ?_
    refine S_blockEnd ?_
    refine S_then ?_
    refine T_sr 39 K126 K127 ?_
    refine T_n 3 [(212, vp (some d)), (213, vi nv), (214, vs argsB argsN argsC)] ?_
    refine T_c (some 215) h ?_; clear h
    rintro cq dc ⟨ao, al, rfl, h⟩
    refine ⟨[(215, .tuple #[vu ao, vi al])], pk, ?_⟩
    refine T_ne 4 [(6, vu ao), (7, vi al)] ?_
    exact T_ret [6, 7] [vu ao, vi al] hQ h
   intro hk
   refine T_n 3 [(0, vp (some d)), (1, vi nv), (2, vs argsB argsN argsC), (182, .bool (nv == 27))] ?_
   by_cases c66 : nv = 27
   ·have b67 : (nv == 27) = true := beq_iff_eq.mpr c66
    refine N_env [(0, vp (some d)), (1, vi nv), (2, vs argsB argsN argsC), (182, .bool true)] (by rw [b67]) ?_
    refine T_n 4 [(0, vp (some d)), (1, vi nv), (2, vs argsB argsN argsC), (179, .bool true)] ?_
    refine N_end (by kernel_rfl) ?_
    refine S_env [(0, vp (some d)), (1, vi nv), (2, vs argsB argsN argsC), (179, .bool ((nv == 27) || (nv == 31)))] (by simp only [b67, BL]) ?_
    exact hk
   have b67 : (nv == 27) = false := beq_eq_false_iff_ne.mpr c66
   refine N_env [(0, vp (some d)), (1, vi nv), (2, vs argsB argsN argsC), (182, .bool false)] (by rw [b67]) ?_
   refine T_n 4 [(0, vp (some d)), (1, vi nv), (2, vs argsB argsN argsC), (179, .bool (nv == 31))] ?_
   refine N_end (by kernel_rfl) ?_
   refine S_env [(0, vp (some d)), (1, vi nv), (2, vs argsB argsN argsC), (179, .bool ((nv == 27) || (nv == 31)))] (by simp only [b67, BL]) ?_
   exact hk
  refine T_r 4 K15 ?_
  refine T_n 4 [(0, vp (some d)), (1, vi nv), (2, vs argsB argsN argsC), (8, vp (pa b)), (41, vi argsN), (43, vp (some ((Addr.mk b 0 none).add 1)))] ?_
  obtain ⟨ah, q76, h⟩ := h
  refine T_l (some 44) 3 q76 [(0, vp (some d)), (1, vi nv), (2, vs argsB argsN argsC), (8, vp (pa b)), (41, vi argsN), (44, vi ah)] ?_
  refine T_n 2 [(0, vp (some d)), (1, vi nv), (2, vs argsB argsN argsC), (8, vp (pa b)), (46, .bool (decide ((argsN : Int) < ah)))] ?_
  by_cases c77 : (argsN : Int) < ah
  ·rw [if_pos c77] at h
   have b78 : (decide ((argsN : Int) < ah)) = true := decide_eq_true c77
   refine N_env [(0, vp (some d)), (1, vi nv), (2, vs argsB argsN argsC), (8, vp (pa b)), (46, .bool true)] (by rw [b78]) ?_
   clear b78
   refine T_ne 13 [(0, vp (some d)), (1, vi nv), (2, vs argsB argsN argsC), (8, vp (pa b)), (59, .bool true)] ?_
   exact S_meet (true : Bool) sk h
  rw [if_neg c77] at h
  have b78 : (decide ((argsN : Int) < ah)) = false := decide_eq_false c77
  refine N_env [(0, vp (some d)), (1, vi nv), (2, vs argsB argsN argsC), (8, vp (pa b)), (46, .bool false)] (by rw [b78]) ?_
  clear b78
  refine T_n 2 [(0, vp (some d)), (1, vi nv), (2, vs argsB argsN argsC), (8, vp (pa b)), (46, .bool false), (48, vp (some ((Addr.mk b 0 none).add 2)))] ?_
  obtain ⟨ai, q79, h⟩ := h
  refine T_l (some 49) 3 q79 [(0, vp (some d)), (1, vi nv), (2, vs argsB argsN argsC), (8, vp (pa b)), (46, .bool false), (49, vi ai)] ?_
  refine T_n 2 [(0, vp (some d)), (1, vi nv), (2, vs argsB argsN argsC), (8, vp (pa b)), (46, .bool false), (51, .bool (decide (ai ≥ 0)))] ?_
  by_cases c80 : ai ≥ 0
  ·rw [if_pos c80] at h
   have b81 : (decide (ai ≥ 0)) = true := decide_eq_true c80
   refine N_env [(0, vp (some d)), (1, vi nv), (2, vs argsB argsN argsC), (8, vp (pa b)), (46, .bool false), (51, .bool true)] (by rw [b81]) ?_
   clear b81
   refine T_n 4 [(0, vp (some d)), (1, vi nv), (2, vs argsB argsN argsC), (8, vp (pa b)), (46, .bool false), (51, .bool true), (53, vi argsN), (55, vp (some ((Addr.mk b 0 none).add 2)))] ?_
   obtain ⟨av, q82, h⟩ := h
   refine T_l (some 56) 3 q82 [(0, vp (some d)), (1, vi nv), (2, vs argsB argsN argsC), (8, vp (pa b)), (46, .bool false), (51, .bool true), (53, vi argsN), (56, vi av)] ?_
   refine T_ne 3 [(0, vp (some d)), (1, vi nv), (2, vs argsB argsN argsC), (8, vp (pa b)), (59, .bool (decide ((argsN : Int) > av)))] ?_
   exact S_meet ((decide ((argsN : Int) > av)) : Bool) sk h
  rw [if_neg c80] at h
  have b81 : (decide (ai ≥ 0)) = false := decide_eq_false c80
  refine N_env [(0, vp (some d)), (1, vi nv), (2, vs argsB argsN argsC), (8, vp (pa b)), (46, .bool false), (51, .bool false)] (by rw [b81]) ?_
  clear b81
  refine T_ne 8 [(0, vp (some d)), (1, vi nv), (2, vs argsB argsN argsC), (8, vp (pa b)), (59, .bool false)] ?_
  exact S_meet (false : Bool) sk h
 intro hk
 refine T_nu [(0, vp (some d)), (1, vi nv), (2, vs argsB argsN argsC), (33, .bool (decide (nv < 0)))] ?_
 by_cases c2 : nv < 0
 ·have b3 : (decide (nv < 0)) = true := decide_eq_true c2
  refine N_env [(0, vp (some d)), (1, vi nv), (2, vs argsB argsN argsC), (33, .bool true)] (by rw [b3]) ?_
  refine T_n 3 [(0, vp (some d)), (1, vi nv), (2, vs argsB argsN argsC), (36, .bool true)] ?_
  refine N_end (by kernel_rfl) ?_
  refine S_env [(0, vp (some d)), (1, vi nv), (2, vs argsB argsN argsC), (36, .bool ((decide (nv < 0)) || (decide (nv ≥ 32))))] (by simp only [b3, BL]) ?_
  exact hk
 have b3 : (decide (nv < 0)) = false := decide_eq_false c2
 refine N_env [(0, vp (some d)), (1, vi nv), (2, vs argsB argsN argsC), (33, .bool false)] (by rw [b3]) ?_
 refine T_n 3 [(0, vp (some d)), (1, vi nv), (2, vs argsB argsN argsC), (36, .bool (decide (nv ≥ 32)))] ?_
 refine N_end (by kernel_rfl) ?_
 refine S_env [(0, vp (some d)), (1, vi nv), (2, vs argsB argsN argsC), (36, .bool ((decide (nv < 0)) || (decide (nv ≥ 32))))] (by simp only [b3, BL]) ?_
 exact hk
end texts_Apply

/-! moraine/texts.Prims -/
end Go.Proofs.YthlohokmnajpoaaGreatDoor
