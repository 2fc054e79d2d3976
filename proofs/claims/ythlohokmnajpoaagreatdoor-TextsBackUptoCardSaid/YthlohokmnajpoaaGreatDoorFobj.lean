/- Printed: what each function asks, and that it is sound. -/
import Derived.Test.YthlohokmnajpoaaGreatDoorFnsC
set_option linter.unusedSimpArgs false
set_option linter.unusedVariables false
set_option maxHeartbeats 1000000
noncomputable section
namespace Go.Proofs.YthlohokmnajpoaaGreatDoor
open Go
/-! moraine/obj.New -/
namespace obj_New
def K0 := Func.code Tryz.f13
def K1 := ca K0
def K2 := cb K0
def K3 := ca K2
def K4 := cb K2
def K5 := ca K4
def K6 := cb K4
def K7 := ca K5
def K8 := cb K5
def K9 := ca K8
def K10 := cb K8
def K11 := ca K6
def K12 := cb K6
def K13 := ca K9
def K14 := cb K9
end obj_New
def obj_New.pt (limit : Int) (H : Array Obj) (R : Value → Array Obj → Prop) : Prop :=
 card_New.C limit H (fun v H1 => ∃ ra : Option Addr, ∃ rb : Int, v = .tuple #[.pointer ra, .int .i64 rb] ∧ 
 if rb = 0 then (
 ∀ (b : Nat) (H2 : Array Obj), b = H1.size → H2 = H1.push (.cells #[.pointer ra, .slice none 0 0, .slice none 0 0, .int .u64 0] 51) →
 R (.tuple #[.pointer (some (Addr.mk b 0 none)), .int .i64 0]) H2)
 else
 R (.tuple #[.pointer none, .int .i64 rb]) H1)
namespace obj_New
set_option maxRecDepth 100000 in
theorem link {limit : Int} {H : Array Obj} {R : Value → Array Obj → Prop} (h : pt limit H R) : C limit H R := by
 refine T_en K0 17 Tryz.func13 ?_
 intro w0 Q hQ
 unfold pt at h
 refine T_su [(0, vi limit)] ?_
 refine T_sr 0 K1 K2 ?_
 refine T_ne 2 [(0, vi limit)] ?_
 refine T_sr 1 K3 K4 ?_
 refine T_n 1 [(7, vi limit)] ?_
 refine T_c (some 8) h ?_; clear h
 rintro v H1 ⟨ra, rb, rfl, h⟩
 refine ⟨[(8, .tuple #[vp ra, vi rb])], pk, ?_⟩
 refine T_ne 5 [(4, vp ra), (5, vi rb)] ?_
 refine T_s K5 K6 ?_
 refine T_sr 2 K7 K8 ?_
 refine T_ne 2 [(4, vp ra), (5, vi rb), (12, .bool (rb != 0))] ?_
 by_cases c1 : rb = 0
 ·rw [if_pos c1] at h
  have b2 : (rb != 0) = false := bne_eq_false_iff_eq.mpr c1
  refine T_cF 12 K9 K10 b2 ?_
  refine T_kt ?_
  refine T_sr 4 K11 K12 ?_
  refine T_n 2 [(15, .agg #[vp ra, vs none 0 0, vs none 0 0, vu 0])] ?_
  refine T_nw (some 16) (fun b => vp (pa b)) (.cells #[vp ra, vs none 0 0, vs none 0 0, vu 0] 51) ?_
  intro b H2 e3 e4
  replace h := h b H2 e3 e4
  refine ⟨[(16, vp (pa b))], pk, ?_⟩
  refine T_ne 2 [(2, vp (pa b)), (3, vi 0)] ?_
  exact T_ret [2, 3] [vp (pa b), vi 0] hQ h
 rw [if_neg c1] at h
 have b2 : (rb != 0) = true := bne_iff_ne.mpr c1
 refine T_cT 12 K9 K10 b2 ?_
 refine T_sr 3 K13 K14 ?_
 refine T_ne 3 [(2, vp none), (3, vi rb)] ?_
 exact T_ret [2, 3] [vp none, vi rb] hQ h
end obj_New

/-! (*moraine/obj.Heap).Len -/
namespace obj_Heap_Len
def K0 := Func.code Tryz.f25
def K1 := ca K0
def K2 := cb K0
def K3 := ca K2
def K4 := cb K2
def K5 := ca K4
def K6 := cb K4
end obj_Heap_Len
def obj_Heap_Len.pt (hv : Option Addr) (wv : Int) (H : Array Obj) (R : Value → Array Obj → Prop) : Prop :=
 obj_Heap_object.C hv wv H (fun v H1 => ∃ ra : Int, ∃ rb : Int, ∃ rc : Int, ∃ rd : Int, ∃ re : Bool, v = .tuple #[.int .i64 ra, .int .i64 rb, .int .i64 rc, .int .u64 rd, .bool re] ∧ 
 R (.int .i64 rc) H1)
namespace obj_Heap_Len
set_option maxRecDepth 100000 in
theorem link {hv : Option Addr} {wv : Int} {H : Array Obj} {R : Value → Array Obj → Prop} (h : pt hv wv H R) : C hv wv H R := by
 refine T_en K0 20 Tryz.func25 ?_
 intro w0 Q hQ
 unfold pt at h
 refine T_su [(0, vp hv), (1, vu wv)] ?_
 refine T_sr 0 K1 K2 ?_
 refine T_ne 1 [(0, vp hv), (1, vu wv)] ?_
 refine T_sr 1 K3 K4 ?_
 refine T_n 2 [(11, vp hv), (12, vu wv)] ?_
 refine T_c (some 13) h ?_; clear h
 rintro v H1 ⟨ra, rb, rc, rd, re, rfl, h⟩
 refine ⟨[(13, .tuple #[vi ra, vi rb, vi rc, vu rd, .bool re])], pk, ?_⟩
 refine T_ne 11 [(7, vi rc)] ?_
 refine T_sr 2 K5 K6 ?_
 refine T_ne 2 [(4, vi rc)] ?_
 exact T_ret [4] [vi rc] hQ h
end obj_Heap_Len

/-! (*moraine/obj.Heap).Make -/
namespace obj_Heap_Make
def K0 := Func.code Tryz.f41
def K1 := ca K0
def K2 := cb K0
def K3 := ca K2
def K4 := cb K2
def K5 := ca K3
def K6 := cb K3
def K7 := ca K6
def K8 := cb K6
def K9 := ca K8
def K10 := cb K8
def K11 := ca K4
def K12 := cb K4
def K13 := ca K11
def K14 := cb K11
def K15 := ca K14
def K16 := cb K14
def K17 := ca K15
def K18 := cb K15
def K19 := ca K12
def K20 := cb K12
def K21 := ca K20
def K22 := cb K20
def K23 := ca K9
def K24 := cb K9
end obj_Heap_Make
def obj_Heap_Make.pt (hv : Option Addr) (kind : Int) (more : Int) (lB : Option Addr) (lN : Nat) (lC : Nat) (H : Array Obj) (R : Value → Array Obj → Prop) : Prop :=
 word_Header.C kind 0 more H (fun v H1 => ∃ ra : Int, ∃ rb : Int, v = .tuple #[.int .u64 ra, .int .i64 rb] ∧ 
 if rb = 0 then (
 if (lN : Int) > 62 then (
 R (.tuple #[.int .u64 0, .int .i64 6]) H1)
 else
 word_Header.C kind (lN : Int) more H1 (fun j H2 => ∃ a : Int, ∃ f : Int, j = .tuple #[.int .u64 a, .int .i64 f] ∧ 
 obj_raw.C kind H2 (fun k H3 => ∃ x : Int, k = .int .i64 x ∧ 
 ∀ (b : Nat) (H4 : Array Obj), b = H3.size → H4 = H3.push (.cells #[.int .u64 a] 35) →
 appendK 1 35 8 [.int .u64 0] (some (Addr.mk b 0 none)) 1 1 lB lN H4 (fun ap g H5 =>
 obj_Heap_put.C hv x 3 ap (1 + lN) g H5 (fun i H6 => ∃ d : Int, ∃ e : Int, i = .tuple #[.int .u64 d, .int .i64 e] ∧ 
 R (.tuple #[.int .u64 d, .int .i64 e]) H6)))))
 else
 R (.tuple #[.int .u64 0, .int .i64 rb]) H1)
namespace obj_Heap_Make
set_option maxRecDepth 100000 in
theorem link {hv : Option Addr} {kind : Int} {more : Int} {lB : Option Addr} {lN : Nat} {lC : Nat} {H : Array Obj} {R : Value → Array Obj → Prop} (h : pt hv kind more lB lN lC H R) : C hv kind more lB lN lC H R := by
 refine T_en K0 44 Tryz.func41 ?_
 intro w0 Q hQ
 unfold pt at h
 refine T_su [(0, vp hv), (1, vi kind), (2, vu more), (3, vs lB lN lC)] ?_
 refine T_sr 0 K1 K2 ?_
 refine T_ne 2 [(0, vp hv), (1, vi kind), (2, vu more), (3, vs lB lN lC)] ?_
 refine T_s K3 K4 ?_
 refine T_sr 1 K5 K6 ?_
 refine T_n 2 [(0, vp hv), (1, vi kind), (2, vu more), (3, vs lB lN lC), (15, vi kind), (16, vu more)] ?_
 refine T_c (some 17) h ?_; clear h
 rintro v H1 ⟨ra, rb, rfl, h⟩
 refine ⟨[(0, vp hv), (1, vi kind), (2, vu more), (3, vs lB lN lC), (17, .tuple #[vu ra, vi rb])], pk, ?_⟩
 refine T_ne 5 [(0, vp hv), (1, vi kind), (2, vu more), (3, vs lB lN lC), (11, vi rb)] ?_
 refine T_sr 2 K7 K8 ?_
 refine T_ne 2 [(0, vp hv), (1, vi kind), (2, vu more), (3, vs lB lN lC), (11, vi rb), (21, .bool (rb != 0))] ?_
 by_cases c1 : rb = 0
 ·rw [if_pos c1] at h
  have b2 : (rb != 0) = false := bne_eq_false_iff_eq.mpr c1
  refine T_cF 21 K9 K10 b2 ?_
  refine T_kt ?_
  refine T_s K11 K12 ?_
  refine T_sr 4 K13 K14 ?_
  refine T_ne 3 [(0, vp hv), (1, vi kind), (2, vu more), (3, vs lB lN lC), (25, .bool (decide ((lN : Int) > 62)))] ?_
  by_cases c3 : (lN : Int) > 62
  ·rw [if_pos c3] at h
   have b4 : (decide ((lN : Int) > 62)) = true := decide_eq_true c3
   refine T_cT 25 K15 K16 b4 ?_
   refine T_sr 5 K17 K18 ?_
   refine T_ne 2 [(8, vu 0), (9, vi 6)] ?_
   exact T_ret [8, 9] [vu 0, vi 6] hQ h
  rw [if_neg c3] at h
  have b4 : (decide ((lN : Int) > 62)) = false := decide_eq_false c3
  refine T_cF 25 K15 K16 b4 ?_
  refine T_kt ?_
  refine T_sr 6 K19 K20 ?_
  refine T_n 4 [(0, vp hv), (1, vi kind), (3, vs lB lN lC), (27, vi kind), (29, vi lN), (30, vu more)] ?_
  refine T_c (some 31) h ?_; clear h
  rintro j H2 ⟨a, f, rfl, h⟩
  refine ⟨[(0, vp hv), (1, vi kind), (3, vs lB lN lC), (31, .tuple #[vu a, vi f])], pk, ?_⟩
  refine T_ne 5 [(0, vp hv), (1, vi kind), (3, vs lB lN lC), (12, vu a)] ?_
  refine T_sr 7 K21 K22 ?_
  refine T_n 2 [(3, vs lB lN lC), (12, vu a), (34, vp hv), (35, vi kind)] ?_
  refine T_c (some 36) h ?_; clear h
  rintro k H3 ⟨x, rfl, h⟩
  refine ⟨[(3, vs lB lN lC), (12, vu a), (34, vp hv), (36, vi x)], pk, ?_⟩
  refine T_n 1 [(3, vs lB lN lC), (34, vp hv), (36, vi x), (37, vu a)] ?_
  refine T_nw (some 38) (fun b => vs (pa b) 1 1) (.cells #[vu a] 35) ?_
  intro b H4 e5 e6
  replace h := h b H4 e5 e6
  refine ⟨[(3, vs lB lN lC), (34, vp hv), (36, vi x), (38, vs (pa b) 1 1)], pk, ?_⟩
  refine T_n 1 [(34, vp hv), (36, vi x), (38, vs (pa b) 1 1), (39, vs lB lN lC)] ?_
  refine N_op (some 40) (appendN #[43, 43] 43 #[vs (pa b) 1 1, vs lB lN lC]) _ (fun _=>by kernel_rfl) (ss_append (T := 35) (sz := 1) (bytes := 8) (zero := (vu 0 : Value)) Tryz.underlying43 Tryz.underlying43 rfl (show Tryz.prog.info? 35 = some Tryz.t35 from by kernel_rfl) (by kernel_rfl) (by kernel_rfl) (by decide) (by kernel_rfl) (by first | exact h | (simpa only [Value.cells, List.toList_toArray] using h))) ?_; clear h
  rintro _ H5 ⟨ap, g, rfl, h⟩
  refine ⟨[(34, vp hv), (36, vi x), (40, vs ap (1 + lN) g)], pk, ?_⟩
  refine T_c (some 41) h ?_; clear h
  rintro i H6 ⟨d, e, rfl, h⟩
  refine ⟨[(41, .tuple #[vu d, vi e])], pk, ?_⟩
  refine T_ne 4 [(8, vu d), (9, vi e)] ?_
  exact T_ret [8, 9] [vu d, vi e] hQ h
 rw [if_neg c1] at h
 have b2 : (rb != 0) = true := bne_iff_ne.mpr c1
 refine T_cT 21 K9 K10 b2 ?_
 refine T_sr 3 K23 K24 ?_
 refine T_ne 3 [(8, vu 0), (9, vi rb)] ?_
 exact T_ret [8, 9] [vu 0, vi rb] hQ h
end obj_Heap_Make

/-! (*moraine/obj.Heap).object -/
namespace obj_Heap_object
def K0 := Func.code Tryz.f51
def K1 := ca K0
def K2 := cb K0
def K3 := ca K2
def K4 := cb K2
def K5 := ca K3
def K6 := cb K3
def K7 := ca K6
def K8 := ca K7
def K9 := ca K8
def K10 := cb K8
def K11 := ca K10
def K12 := cb K10
def K13 := ca K11
def K14 := cb K11
def K15 := ca K12
def K16 := cb K12
def K17 := ca K15
def K18 := ca K17
def K19 := cb K17
def K20 := ca K19
def K21 := cb K19
def K22 := ca K20
def K23 := cb K20
def K24 := ca K23
def K25 := cb K23
def K26 := ca K25
def K27 := cb K25
def K28 := ca K21
def K29 := cb K21
def K30 := ca K29
def K31 := cb K29
def K32 := ca K31
def K33 := cb K31
def K34 := ca K33
def K35 := cb K33
def K36 := ca K35
def K37 := cb K35
def K38 := ca K36
def K39 := cb K36
def K40 := ca K4
def K41 := cb K4
end obj_Heap_object
def obj_Heap_object.pt (hv : Option Addr) (wv : Int) (H : Array Obj) (R : Value → Array Obj → Prop) : Prop :=
 ∃ (I9 : Int → Array Obj → Prop) (m9 : Int → Array Obj → Nat), I9 0 H ∧ ∀ (a : Int) (H1 : Array Obj), I9 a H1 →
 if a < 2 then (
 ∃ x : Int, ((0 ≤ a ∧ a < (2 : Int)) ∧ (#[.int .i64 2, .int .i64 3] : Array Value)[Int.toNat a]? = some (.int .i64 x)) ∧
 obj_Heap_at.C hv wv 3 x H1 (fun v H2 => ∃ ra : Int, ∃ rb : Bool, v = .tuple #[.int .i64 ra, .bool rb] ∧ 
 if rb = true then (
 ∃ e : Addr, hv = some e ∧
 ∃ z : Option Addr, hat H2 e = some (.pointer z) ∧
 ∃ ag : Addr, z = some ag ∧
 ∃ aa : Option Addr, hat H2 ag = some (.pointer aa) ∧
 ∃ ad : Addr, aa = some ad ∧
 ∃ u : Option Addr, hat H2 ad = some (.pointer u) ∧
 seg_Mem_Read.C u ra H2 (fun aj H3 => ∃ o : Int, ∃ ah : Int, aj = .tuple #[.int .u64 o, .int .i64 ah] ∧ 
 word_Head.C o H3 (fun ak H4 => ∃ f : Int, ∃ d : Int, ∃ rc : Int, ∃ rd : Bool, ak = .tuple #[.int .i64 f, .int .i64 d, .int .u64 rc, .bool rd] ∧ 
 ∃ af : Option Addr, hat H4 e = some (.pointer af) ∧
 ∃ ae : Addr, af = some ae ∧
 ∃ ac : Option Addr, hat H4 ae = some (.pointer ac) ∧
 ∃ ab : Addr, ac = some ab ∧
 ∃ y : Option Addr, hat H4 ab = some (.pointer y) ∧
 seg_Mem_Seg.C y (IntKind.wrap .i64 (Int.tdiv ra 64)) H4 (fun ai H5 => ∃ m : Int, ∃ l : Int, ∃ q : Int, ∃ k : Int, ∃ i : Int, ∃ g : Int, ∃ j : Int, ∃ r : Bool, ai = .tuple #[.agg #[.int .i64 m, .int .i64 l, .int .i64 q, .int .i64 k, .int .i64 i, .int .i64 g, .int .i64 j], .bool r] ∧ 
 ∀ (b : Nat) (H6 : Array Obj), b = H5.size → H6 = H5.push (.cells #[.int .i64 0, .int .i64 0, .int .i64 0, .int .i64 0, .int .i64 0, .int .i64 0, .int .i64 0] 119) →
 (CanPuts H6 (Addr.mk b 0 none) 0 7) ∧ ∀ H7 : Array Obj, H7 = hputs H6 (Addr.mk b 0 none) [.int .i64 m, .int .i64 l, .int .i64 q, .int .i64 k, .int .i64 i, .int .i64 g, .int .i64 j] 0 →
 if rd = true then (
 obj_raw.C f H7 (fun al H8 => ∃ s : Int, al = .int .i64 s ∧ 
 if s = x then (
 ∃ p : Int, hat H8 ((Addr.mk b 0 none).add 2) = some (.int .i64 p) ∧
 if (IntKind.wrap .i64 ((Int.tmod ra 64) + d)) < p then (
 R (.tuple #[.int .i64 ra, .int .i64 f, .int .i64 d, .int .u64 rc, .bool true]) H8)
 else
 (I9 (IntKind.wrap .i64 (a + 1)) H8 ∧ m9 (IntKind.wrap .i64 (a + 1)) H8 < m9 a H1))
 else
 (I9 (IntKind.wrap .i64 (a + 1)) H8 ∧ m9 (IntKind.wrap .i64 (a + 1)) H8 < m9 a H1)))
 else
 (I9 (IntKind.wrap .i64 (a + 1)) H7 ∧ m9 (IntKind.wrap .i64 (a + 1)) H7 < m9 a H1)))))
 else
 (I9 (IntKind.wrap .i64 (a + 1)) H2 ∧ m9 (IntKind.wrap .i64 (a + 1)) H2 < m9 a H1)))
 else
 R (.tuple #[.int .i64 0, .int .i64 0, .int .i64 0, .int .u64 0, .bool false]) H1
namespace obj_Heap_object
set_option maxRecDepth 100000 in
theorem link {hv : Option Addr} {wv : Int} {H : Array Obj} {R : Value → Array Obj → Prop} (h : pt hv wv H R) : C hv wv H R := by
 refine T_en K0 87 Tryz.func51 ?_
 intro w0 Q hQ
 unfold pt at h
 refine T_su [(0, vp hv), (1, vu wv)] ?_
 refine T_sr 0 K1 K2 ?_
 refine T_ne 5 [(0, vp hv), (1, vu wv)] ?_
 refine T_s K3 K4 ?_
 refine T_sr 1 K5 K6 ?_
 refine T_ne 2 [(0, vp hv), (1, vu wv), (15, .agg #[vi 2, vi 3]), (16, vi 0)] ?_
 refine T_b 0 K7 ?_
 obtain ⟨I9, m9, i1, i2⟩ := h
 refine S_loop (x := K8) (σ := Int) (fun s_ => [(0, vp hv), (1, vu wv), (15, .agg #[vi 2, vi 3]), (16, vi s_)]) (fun s_ H => I9 s_ H) (fun s_ H => m9 s_ H) (0 : Int) (by kernel_rfl) i1 sk ?_
 rintro a H1 i3
 have h := i2 a H1 i3
 refine T_su [(0, vp hv), (1, vu wv), (15, .agg #[vi 2, vi 3]), (16, vi a)] ?_
 refine T_sr 2 K9 K10 ?_
 refine T_ne 1 [(0, vp hv), (1, vu wv), (15, .agg #[vi 2, vi 3]), (16, vi a), (17, .bool (decide (a < 2)))] ?_
 refine T_s K11 K12 ?_
 by_cases c4 : a < 2
 ·rw [if_pos c4] at h
  have b5 : (decide (a < 2)) = true := decide_eq_true c4
  refine T_cT 17 K13 K14 b5 ?_
  refine T_kt ?_
  refine T_s K15 K16 ?_
  refine T_b 1 K17 ?_
  refine T_sr 3 K18 K19 ?_
  refine T_nu [(0, vp hv), (1, vu wv), (15, .agg #[vi 2, vi 3]), (16, vi a)] ?_
  obtain ⟨x, q6, h⟩ := h
  refine T_v (some 18) (indexN 170 (.agg #[vi 2, vi 3]) (vi a)) (vi x) (fun w _ => indexAgg_run (P := Tryz.prog) (t := 170) (elem := 3) (n := 2) Tryz.underlying170 (fun _=>by kernel_rfl) (fun _=>by kernel_rfl) q6.1.1 q6.1.2 q6.2 w) [(0, vp hv), (1, vu wv), (15, .agg #[vi 2, vi 3]), (16, vi a), (18, vi x)] ?_
  refine T_ne 1 [(0, vp hv), (1, vu wv), (10, vi x), (15, .agg #[vi 2, vi 3]), (16, vi a)] ?_
  refine T_s K20 K21 ?_
  refine T_sr 4 K22 K23 ?_
  refine T_n 3 [(0, vp hv), (1, vu wv), (10, vi x), (15, .agg #[vi 2, vi 3]), (16, vi a), (20, vp hv), (21, vu wv), (22, vi x)] ?_
  refine T_c (some 23) h ?_; clear h
  rintro v H2 ⟨ra, rb, rfl, h⟩
  refine ⟨[(0, vp hv), (1, vu wv), (10, vi x), (15, .agg #[vi 2, vi 3]), (16, vi a), (23, .tuple #[vi ra, .bool rb])], pk, ?_⟩
  refine T_ne 5 [(0, vp hv), (1, vu wv), (4, vi ra), (8, .bool rb), (10, vi x), (15, .agg #[vi 2, vi 3]), (16, vi a)] ?_
  refine T_sr 5 K24 K25 ?_
  refine T_ne 2 [(0, vp hv), (1, vu wv), (4, vi ra), (10, vi x), (15, .agg #[vi 2, vi 3]), (16, vi a), (27, .bool (!rb))] ?_
  by_cases c7 : rb = true
  ·rw [if_pos c7] at h
   have b8 : (!rb) = false := congrArg Bool.not (c7)
   refine T_cF 27 K26 K27 b8 ?_
   refine T_kt ?_
   refine T_sr 6 K28 K29 ?_
   refine T_n 1 [(0, vp hv), (1, vu wv), (4, vi ra), (10, vi x), (15, .agg #[vi 2, vi 3]), (16, vi a), (29, vp hv)] ?_
   obtain ⟨e, rfl, h⟩ := h
   refine T_n 2 [(0, vp (some e)), (1, vu wv), (4, vi ra), (10, vi x), (15, .agg #[vi 2, vi 3]), (16, vi a), (31, vp (some e))] ?_
   obtain ⟨z, q9, h⟩ := h
   refine T_l (some 32) 48 q9 [(0, vp (some e)), (1, vu wv), (4, vi ra), (10, vi x), (15, .agg #[vi 2, vi 3]), (16, vi a), (32, vp z)] ?_
   obtain ⟨ag, rfl, h⟩ := h
   refine T_n 2 [(0, vp (some e)), (1, vu wv), (4, vi ra), (10, vi x), (15, .agg #[vi 2, vi 3]), (16, vi a), (34, vp (some ag))] ?_
   obtain ⟨aa, q10, h⟩ := h
   refine T_l (some 35) 52 q10 [(0, vp (some e)), (1, vu wv), (4, vi ra), (10, vi x), (15, .agg #[vi 2, vi 3]), (16, vi a), (35, vp aa)] ?_
   obtain ⟨ad, rfl, h⟩ := h
   refine T_n 2 [(0, vp (some e)), (1, vu wv), (4, vi ra), (10, vi x), (15, .agg #[vi 2, vi 3]), (16, vi a), (37, vp (some ad))] ?_
   obtain ⟨u, q11, h⟩ := h
   refine T_l (some 38) 55 q11 [(0, vp (some e)), (1, vu wv), (4, vi ra), (10, vi x), (15, .agg #[vi 2, vi 3]), (16, vi a), (38, vp u)] ?_
   refine T_n 1 [(0, vp (some e)), (1, vu wv), (4, vi ra), (10, vi x), (15, .agg #[vi 2, vi 3]), (16, vi a), (38, vp u), (39, vi ra)] ?_
   refine T_c (some 40) h ?_; clear h
   rintro aj H3 ⟨o, ah, rfl, h⟩
   refine ⟨[(0, vp (some e)), (1, vu wv), (4, vi ra), (10, vi x), (15, .agg #[vi 2, vi 3]), (16, vi a), (40, .tuple #[vu o, vi ah])], pk, ?_⟩
   refine T_ne 5 [(0, vp (some e)), (1, vu wv), (4, vi ra), (10, vi x), (11, vu o), (15, .agg #[vi 2, vi 3]), (16, vi a)] ?_
   refine T_sr 7 K30 K31 ?_
   refine T_n 1 [(0, vp (some e)), (1, vu wv), (4, vi ra), (10, vi x), (15, .agg #[vi 2, vi 3]), (16, vi a), (44, vu o)] ?_
   refine T_c (some 45) h ?_; clear h
   rintro ak H4 ⟨f, d, rc, rd, rfl, h⟩
   refine ⟨[(0, vp (some e)), (1, vu wv), (4, vi ra), (10, vi x), (15, .agg #[vi 2, vi 3]), (16, vi a), (45, .tuple #[vi f, vi d, vu rc, .bool rd])], pk, ?_⟩
   refine T_ne 9 [(0, vp (some e)), (1, vu wv), (4, vi ra), (5, vi f), (6, vi d), (7, vu rc), (8, .bool rd), (10, vi x), (15, .agg #[vi 2, vi 3]), (16, vi a)] ?_
   refine T_sr 8 K32 K33 ?_
   refine T_n 3 [(0, vp (some e)), (1, vu wv), (4, vi ra), (5, vi f), (6, vi d), (7, vu rc), (8, .bool rd), (10, vi x), (15, .agg #[vi 2, vi 3]), (16, vi a), (53, vp (some e))] ?_
   obtain ⟨af, q12, h⟩ := h
   refine T_l (some 54) 48 q12 [(0, vp (some e)), (1, vu wv), (4, vi ra), (5, vi f), (6, vi d), (7, vu rc), (8, .bool rd), (10, vi x), (15, .agg #[vi 2, vi 3]), (16, vi a), (54, vp af)] ?_
   obtain ⟨ae, rfl, h⟩ := h
   refine T_n 2 [(0, vp (some e)), (1, vu wv), (4, vi ra), (5, vi f), (6, vi d), (7, vu rc), (8, .bool rd), (10, vi x), (15, .agg #[vi 2, vi 3]), (16, vi a), (56, vp (some ae))] ?_
   obtain ⟨ac, q13, h⟩ := h
   refine T_l (some 57) 52 q13 [(0, vp (some e)), (1, vu wv), (4, vi ra), (5, vi f), (6, vi d), (7, vu rc), (8, .bool rd), (10, vi x), (15, .agg #[vi 2, vi 3]), (16, vi a), (57, vp ac)] ?_
   obtain ⟨ab, rfl, h⟩ := h
   refine T_n 2 [(0, vp (some e)), (1, vu wv), (4, vi ra), (5, vi f), (6, vi d), (7, vu rc), (8, .bool rd), (10, vi x), (15, .agg #[vi 2, vi 3]), (16, vi a), (59, vp (some ab))] ?_
   obtain ⟨y, q14, h⟩ := h
   refine T_l (some 60) 55 q14 [(0, vp (some e)), (1, vu wv), (4, vi ra), (5, vi f), (6, vi d), (7, vu rc), (8, .bool rd), (10, vi x), (15, .agg #[vi 2, vi 3]), (16, vi a), (60, vp y)] ?_
   refine T_n 2 [(0, vp (some e)), (1, vu wv), (4, vi ra), (5, vi f), (6, vi d), (7, vu rc), (8, .bool rd), (10, vi x), (15, .agg #[vi 2, vi 3]), (16, vi a), (60, vp y), (62, vi (IntKind.wrap .i64 (Int.tdiv ra 64)))] ?_
   refine T_c (some 63) h ?_; clear h
   rintro ai H5 ⟨m, l, q, k, i, g, j, r, rfl, h⟩
   refine ⟨[(0, vp (some e)), (1, vu wv), (4, vi ra), (5, vi f), (6, vi d), (7, vu rc), (8, .bool rd), (10, vi x), (15, .agg #[vi 2, vi 3]), (16, vi a), (63, .tuple #[.agg #[vi m, vi l, vi q, vi k, vi i, vi g, vi j], .bool r])], pk, ?_⟩
   refine T_n 3 [(0, vp (some e)), (1, vu wv), (4, vi ra), (5, vi f), (6, vi d), (7, vu rc), (8, .bool rd), (10, vi x), (15, .agg #[vi 2, vi 3]), (16, vi a), (64, .agg #[vi m, vi l, vi q, vi k, vi i, vi g, vi j]), (65, .bool r)] ?_
   refine T_nw (some 13) (fun b => vp (pa b)) (.cells #[vi 0, vi 0, vi 0, vi 0, vi 0, vi 0, vi 0] 119) ?_
   intro b H6 e15 e16
   replace h := h b H6 e15 e16
   refine ⟨[(0, vp (some e)), (1, vu wv), (4, vi ra), (5, vi f), (6, vi d), (7, vu rc), (8, .bool rd), (10, vi x), (13, vp (pa b)), (15, .agg #[vi 2, vi 3]), (16, vi a), (64, .agg #[vi m, vi l, vi q, vi k, vi i, vi g, vi j]), (65, .bool r)], pk, ?_⟩
   obtain ⟨q18, h⟩ := h
   refine N_skipop none (storeN 119 (vp (pa b)) (.agg #[vi m, vi l, vi q, vi k, vi i, vi g, vi j])) (fun Hz => Hz = hputs H6 (Addr.mk b 0 none) [vi m, vi l, vi q, vi k, vi i, vi g, vi j] 0) (fun _=>by kernel_rfl) (ss_store [vi m, vi l, vi q, vi k, vi i, vi g, vi j] 7 (by kernel_rfl) (by kernel_rfl) (fun _=>by kernel_rfl) (by kernel_rfl) q18) ?_
   intro H7 e17
   replace h := h H7 e17
   refine ⟨[(0, vp (some e)), (1, vu wv), (4, vi ra), (5, vi f), (6, vi d), (7, vu rc), (8, .bool rd), (10, vi x), (13, vp (pa b)), (15, .agg #[vi 2, vi 3]), (16, vi a), (65, .bool r)], pk, ?_⟩
   refine T_ne 1 [(0, vp (some e)), (1, vu wv), (4, vi ra), (5, vi f), (6, vi d), (7, vu rc), (8, .bool rd), (10, vi x), (13, vp (pa b)), (15, .agg #[vi 2, vi 3]), (16, vi a)] ?_
   refine T_sr 9 K34 K35 ?_
   refine T_n 2 [(0, vp (some e)), (1, vu wv), (4, vi ra), (5, vi f), (6, vi d), (7, vu rc), (10, vi x), (13, vp (pa b)), (15, .agg #[vi 2, vi 3]), (16, vi a), (67, .bool rd)] ?_
   by_cases c19 : rd = true
   ·rw [if_pos c19] at h
    have b20 : rd = true := c19
    refine N_env [(0, vp (some e)), (1, vu wv), (4, vi ra), (5, vi f), (6, vi d), (7, vu rc), (10, vi x), (13, vp (pa b)), (15, .agg #[vi 2, vi 3]), (16, vi a), (67, .bool true)] (by rw [b20]) ?_
    clear b20
    refine T_n 1 [(0, vp (some e)), (1, vu wv), (4, vi ra), (5, vi f), (6, vi d), (7, vu rc), (10, vi x), (13, vp (pa b)), (15, .agg #[vi 2, vi 3]), (16, vi a), (67, .bool true), (68, vi f)] ?_
    refine T_c (some 69) h ?_; clear h
    rintro al H8 ⟨s, rfl, h⟩
    refine ⟨[(0, vp (some e)), (1, vu wv), (4, vi ra), (5, vi f), (6, vi d), (7, vu rc), (10, vi x), (13, vp (pa b)), (15, .agg #[vi 2, vi 3]), (16, vi a), (67, .bool true), (69, vi s)], pk, ?_⟩
    refine T_n 4 [(0, vp (some e)), (1, vu wv), (4, vi ra), (5, vi f), (6, vi d), (7, vu rc), (13, vp (pa b)), (15, .agg #[vi 2, vi 3]), (16, vi a), (73, .bool (s == x))] ?_
    by_cases c21 : s = x
    ·rw [if_pos c21] at h
     have b22 : (s == x) = true := beq_iff_eq.mpr c21
     refine N_env [(0, vp (some e)), (1, vu wv), (4, vi ra), (5, vi f), (6, vi d), (7, vu rc), (13, vp (pa b)), (15, .agg #[vi 2, vi 3]), (16, vi a), (73, .bool true)] (by rw [b22]) ?_
     clear b22
     refine T_n 5 [(0, vp (some e)), (1, vu wv), (4, vi ra), (5, vi f), (6, vi d), (7, vu rc), (15, .agg #[vi 2, vi 3]), (16, vi a), (73, .bool true), (77, vi (IntKind.wrap .i64 ((Int.tmod ra 64) + d))), (78, vp (some ((Addr.mk b 0 none).add 2)))] ?_
     obtain ⟨p, q23, h⟩ := h
     refine T_l (some 79) 3 q23 [(0, vp (some e)), (1, vu wv), (4, vi ra), (5, vi f), (6, vi d), (7, vu rc), (15, .agg #[vi 2, vi 3]), (16, vi a), (73, .bool true), (77, vi (IntKind.wrap .i64 ((Int.tmod ra 64) + d))), (79, vi p)] ?_
     refine T_ne 2 [(0, vp (some e)), (1, vu wv), (4, vi ra), (5, vi f), (6, vi d), (7, vu rc), (15, .agg #[vi 2, vi 3]), (16, vi a), (81, .bool (decide ((IntKind.wrap .i64 ((Int.tmod ra 64) + d)) < p)))] ?_
     by_cases c24 : (IntKind.wrap .i64 ((Int.tmod ra 64) + d)) < p
     ·rw [if_pos c24] at h
      have b25 : (decide ((IntKind.wrap .i64 ((Int.tmod ra 64) + d)) < p)) = true := decide_eq_true c24
      refine T_cT 81 K36 K37 b25 ?_
      refine T_sr 10 K38 K39 ?_
      refine T_ne 9 [(4, vi ra), (5, vi f), (6, vi d), (7, vu rc), (8, .bool true)] ?_
      exact T_ret [4, 5, 6, 7, 8] [vi ra, vi f, vi d, vu rc, .bool true] hQ h
     rw [if_neg c24] at h
     have b25 : (decide ((IntKind.wrap .i64 ((Int.tmod ra 64) + d)) < p)) = false := decide_eq_false c24
     refine T_cF 81 K36 K37 b25 ?_
     refine T_k ?_
     refine S_blockEnd ?_
     refine S_then ?_
     refine T_r 11 K16 ?_
     refine T_ne 2 [(0, vp (some e)), (1, vu wv), (15, .agg #[vi 2, vi 3]), (16, vi (IntKind.wrap .i64 (a + 1)))] ?_
     exact S_round ((IntKind.wrap .i64 (a + 1)) : Int) sk h
    rw [if_neg c21] at h
    have b22 : (s == x) = false := beq_eq_false_iff_ne.mpr c21
    refine N_env [(0, vp (some e)), (1, vu wv), (4, vi ra), (5, vi f), (6, vi d), (7, vu rc), (13, vp (pa b)), (15, .agg #[vi 2, vi 3]), (16, vi a), (73, .bool false)] (by rw [b22]) ?_
    clear b22
    refine T_ne 8 [(0, vp (some e)), (1, vu wv), (4, vi ra), (5, vi f), (6, vi d), (7, vu rc), (15, .agg #[vi 2, vi 3]), (16, vi a), (81, .bool false)] ?_
    refine T_f 81 K36 K37 ?_
    refine T_k ?_
    refine S_blockEnd ?_
    refine S_then ?_
    refine T_r 11 K16 ?_
    refine T_ne 2 [(0, vp (some e)), (1, vu wv), (15, .agg #[vi 2, vi 3]), (16, vi (IntKind.wrap .i64 (a + 1)))] ?_
    exact S_round ((IntKind.wrap .i64 (a + 1)) : Int) sk h
   rw [if_neg c19] at h
   have b20 : rd = false := eq_false_of_ne_true c19
   refine N_env [(0, vp (some e)), (1, vu wv), (4, vi ra), (5, vi f), (6, vi d), (7, vu rc), (10, vi x), (13, vp (pa b)), (15, .agg #[vi 2, vi 3]), (16, vi a), (67, .bool false)] (by rw [b20]) ?_
   clear b20
   refine T_ne 14 [(0, vp (some e)), (1, vu wv), (4, vi ra), (5, vi f), (6, vi d), (7, vu rc), (15, .agg #[vi 2, vi 3]), (16, vi a), (81, .bool false)] ?_
   refine T_f 81 K36 K37 ?_
   refine T_k ?_
   refine S_blockEnd ?_
   refine S_then ?_
   refine T_r 11 K16 ?_
   refine T_ne 2 [(0, vp (some e)), (1, vu wv), (15, .agg #[vi 2, vi 3]), (16, vi (IntKind.wrap .i64 (a + 1)))] ?_
   exact S_round ((IntKind.wrap .i64 (a + 1)) : Int) sk h
  rw [if_neg c7] at h
  have b8 : (!rb) = true := congrArg Bool.not (eq_false_of_ne_true c7)
  refine T_cT 27 K26 K27 b8 ?_
  refine S_exit 1 (by kernel_rfl) ?_
  refine S_exitThen ?_
  refine S_exitHere ?_
  refine S_then ?_
  refine T_r 11 K16 ?_
  refine T_ne 2 [(0, vp hv), (1, vu wv), (15, .agg #[vi 2, vi 3]), (16, vi (IntKind.wrap .i64 (a + 1)))] ?_
  exact S_round ((IntKind.wrap .i64 (a + 1)) : Int) sk h
 rw [if_neg c4] at h
 have b5 : (decide (a < 2)) = false := decide_eq_false c4
 refine T_cF 17 K13 K14 b5 ?_
 refine S_exit 0 (by kernel_rfl) ?_
 refine S_exitThen ?_
 refine S_exitThen ?_
 refine S_exitHere ?_
 refine S_then ?_
 refine T_sr 12 K40 K41 ?_
 refine T_ne 5 [(4, vi 0), (5, vi 0), (6, vi 0), (7, vu 0), (8, .bool false)] ?_
 exact T_ret [4, 5, 6, 7, 8] [vi 0, vi 0, vi 0, vu 0, .bool false] hQ h
end obj_Heap_object

/-! (*moraine/obj.Heap).put -/
namespace obj_Heap_put
def K0 := Func.code Tryz.f87
def K1 := ca K0
def K2 := cb K0
def K3 := ca K2
def K4 := cb K2
def K5 := ca K3
def K6 := cb K3
def K7 := ca K6
def K8 := cb K6
def K9 := ca K7
def K10 := cb K7
def K11 := ca K4
def K12 := cb K4
def K13 := ca K12
def K14 := cb K12
def K15 := ca K13
def K16 := cb K13
def K17 := ca K16
def K18 := cb K16
def K19 := ca K14
def K20 := cb K14
def K21 := ca K19
def K22 := cb K19
def K23 := ca K22
def K24 := ca K23
def K25 := ca K24
def K26 := cb K24
def K27 := ca K26
def K28 := cb K26
def K29 := ca K27
def K30 := cb K27
def K31 := ca K28
def K32 := cb K28
def K33 := ca K31
def K34 := ca K33
def K35 := cb K33
def K36 := ca K20
def K37 := cb K20
def K38 := ca K17
def K39 := cb K17
end obj_Heap_put
def obj_Heap_put.pt (hv : Option Addr) (kind : Int) (tag : Int) (lB : Option Addr) (lN : Nat) (lC : Nat) (H : Array Obj) (R : Value → Array Obj → Prop) : Prop :=
 obj_Heap_none.C hv H (fun v H1 => ∃ x : Bool, v = .bool x ∧ 
 if x = true then (
 R (.tuple #[.int .u64 0, .int .i64 2]) H1)
 else
 ∃ d : Addr, hv = some d ∧
 ∃ n : Option Addr, hat H1 d = some (.pointer n) ∧
 ∃ s : Addr, n = some s ∧
 ∃ l : Option Addr, hat H1 s = some (.pointer l) ∧
 space_Space_Alloc.C l 0 kind (lN : Int) H1 (fun z H2 => ∃ ra : Int, ∃ rb : Int, z = .tuple #[.int .i64 ra, .int .i64 rb] ∧ 
 if rb = 0 then (
 ∃ (u : Int → Array Obj → Prop) (m25 : Int → Array Obj → Nat), u 0 H2 ∧ ∀ (b : Int) (H3 : Array Obj), u b H3 →
 if b < (lN : Int) then (
 ∃ e : Addr, lB = some e ∧
 ((0 : Int) ≤ b ∧ b < (lN : Int)) ∧
 ∃ f : Int, hat H3 (e.add (Int.toNat b * 1)) = some (.int .u64 f) ∧
 ∃ r : Option Addr, hat H3 d = some (.pointer r) ∧
 ∃ q : Addr, r = some q ∧
 ∃ p : Option Addr, hat H3 q = some (.pointer p) ∧
 ∃ o : Addr, p = some o ∧
 ∃ m : Option Addr, hat H3 o = some (.pointer m) ∧
 seg_Mem_Write.C m (IntKind.wrap .i64 (ra + b)) f H3 (fun aa H4 => ∃ ab : Int, aa = .int .i64 ab ∧ 
 (u (IntKind.wrap .i64 (b + 1)) H4 ∧ m25 (IntKind.wrap .i64 (b + 1)) H4 < m25 b H3)))
 else
 word_At.C tag ra H3 (fun y H5 => ∃ j : Int, ∃ g : Int, y = .tuple #[.int .u64 j, .int .i64 g] ∧ 
 R (.tuple #[.int .u64 j, .int .i64 g]) H5))
 else
 R (.tuple #[.int .u64 0, .int .i64 rb]) H2))
namespace obj_Heap_put
set_option maxRecDepth 100000 in
theorem link {hv : Option Addr} {kind : Int} {tag : Int} {lB : Option Addr} {lN : Nat} {lC : Nat} {H : Array Obj} {R : Value → Array Obj → Prop} (h : pt hv kind tag lB lN lC H R) : C hv kind tag lB lN lC H R := by
 refine T_en K0 61 Tryz.func87 ?_
 intro w0 Q hQ
 unfold pt at h
 refine T_su [(0, vp hv), (1, vi kind), (2, vi tag), (3, vs lB lN lC)] ?_
 refine T_sr 0 K1 K2 ?_
 refine T_ne 2 [(0, vp hv), (1, vi kind), (2, vi tag), (3, vs lB lN lC)] ?_
 refine T_s K3 K4 ?_
 refine T_sr 1 K5 K6 ?_
 refine T_n 1 [(0, vp hv), (1, vi kind), (2, vi tag), (3, vs lB lN lC), (14, vp hv)] ?_
 refine T_c (some 15) h ?_; clear h
 rintro v H1 ⟨x, rfl, h⟩
 refine ⟨[(0, vp hv), (1, vi kind), (2, vi tag), (3, vs lB lN lC), (15, .bool x)], pk, ?_⟩
 refine T_e ?_
 by_cases c1 : x = true
 ·rw [if_pos c1] at h
  have b2 : x = true := c1
  refine T_cT 15 K7 K8 b2 ?_
  refine T_sr 2 K9 K10 ?_
  refine T_ne 2 [(8, vu 0), (9, vi 2)] ?_
  exact T_ret [8, 9] [vu 0, vi 2] hQ h
 rw [if_neg c1] at h
 have b2 : x = false := eq_false_of_ne_true c1
 refine T_cF 15 K7 K8 b2 ?_
 refine T_kt ?_
 refine T_sr 3 K11 K12 ?_
 refine T_n 1 [(0, vp hv), (1, vi kind), (2, vi tag), (3, vs lB lN lC), (17, vp hv)] ?_
 obtain ⟨d, rfl, h⟩ := h
 refine T_n 2 [(0, vp (some d)), (1, vi kind), (2, vi tag), (3, vs lB lN lC), (19, vp (some d))] ?_
 obtain ⟨n, q3, h⟩ := h
 refine T_l (some 20) 48 q3 [(0, vp (some d)), (1, vi kind), (2, vi tag), (3, vs lB lN lC), (20, vp n)] ?_
 obtain ⟨s, rfl, h⟩ := h
 refine T_n 2 [(0, vp (some d)), (1, vi kind), (2, vi tag), (3, vs lB lN lC), (22, vp (some s))] ?_
 obtain ⟨l, q4, h⟩ := h
 refine T_l (some 23) 52 q4 [(0, vp (some d)), (1, vi kind), (2, vi tag), (3, vs lB lN lC), (23, vp l)] ?_
 refine T_n 3 [(0, vp (some d)), (2, vi tag), (3, vs lB lN lC), (23, vp l), (24, vi kind), (26, vi lN)] ?_
 refine T_c (some 27) h ?_; clear h
 rintro z H2 ⟨ra, rb, rfl, h⟩
 refine ⟨[(0, vp (some d)), (2, vi tag), (3, vs lB lN lC), (27, .tuple #[vi ra, vi rb])], pk, ?_⟩
 refine T_ne 5 [(0, vp (some d)), (2, vi tag), (3, vs lB lN lC), (10, vi ra), (11, vi rb)] ?_
 refine T_s K13 K14 ?_
 refine T_sr 4 K15 K16 ?_
 refine T_ne 2 [(0, vp (some d)), (2, vi tag), (3, vs lB lN lC), (10, vi ra), (11, vi rb), (31, .bool (rb != 0))] ?_
 by_cases c5 : rb = 0
 ·rw [if_pos c5] at h
  have b6 : (rb != 0) = false := bne_eq_false_iff_eq.mpr c5
  refine T_cF 31 K17 K18 b6 ?_
  refine T_kt ?_
  refine T_s K19 K20 ?_
  refine T_sr 6 K21 K22 ?_
  refine T_ne 3 [(0, vp (some d)), (2, vi tag), (10, vi ra), (33, vs lB lN lC), (34, vi lN), (35, vi 0)] ?_
  refine T_b 0 K23 ?_
  obtain ⟨u, m25, i7, i8⟩ := h
  refine S_loop (x := K24) (σ := Int) (fun s_ => [(0, vp (some d)), (2, vi tag), (10, vi ra), (33, vs lB lN lC), (34, vi lN), (35, vi s_)]) (fun s_ H => u s_ H) (fun s_ H => m25 s_ H) (0 : Int) (by kernel_rfl) i7 sk ?_
  rintro b H3 i9
  have h := i8 b H3 i9
  refine T_su [(0, vp (some d)), (2, vi tag), (10, vi ra), (33, vs lB lN lC), (34, vi lN), (35, vi b)] ?_
  refine T_sr 7 K25 K26 ?_
  refine T_ne 1 [(0, vp (some d)), (2, vi tag), (10, vi ra), (33, vs lB lN lC), (34, vi lN), (35, vi b), (36, .bool (decide (b < (lN : Int))))] ?_
  refine T_s K27 K28 ?_
  by_cases c10 : b < (lN : Int)
  ·rw [if_pos c10] at h
   have b11 : (decide (b < (lN : Int))) = true := decide_eq_true c10
   refine T_cT 36 K29 K30 b11 ?_
   refine T_kt ?_
   refine T_s K31 K32 ?_
   refine T_b 1 K33 ?_
   refine T_sr 8 K34 K35 ?_
   refine T_n 1 [(0, vp (some d)), (2, vi tag), (10, vi ra), (33, vs lB lN lC), (34, vi lN), (35, vi b), (37, vi b)] ?_
   obtain ⟨e, rfl, h⟩ := h
   obtain ⟨q12, h⟩ := h
   refine T_ix (some 38) 43 35 1 e lN lC .i64 b Tryz.underlying43 q12.1 q12.2 [(0, vp (some d)), (2, vi tag), (10, vi ra), (33, vs (some e) lN lC), (34, vi lN), (35, vi b), (37, vi b), (38, vp (some (e.add (Int.toNat b * 1))))] ?_
   obtain ⟨f, q13, h⟩ := h
   refine T_l (some 39) 35 q13 [(0, vp (some d)), (2, vi tag), (10, vi ra), (33, vs (some e) lN lC), (34, vi lN), (35, vi b), (37, vi b), (39, vu f)] ?_
   refine T_ne 2 [(0, vp (some d)), (2, vi tag), (10, vi ra), (12, vi b), (13, vu f), (33, vs (some e) lN lC), (34, vi lN), (35, vi b)] ?_
   refine T_r 9 K35 ?_
   refine T_n 3 [(0, vp (some d)), (2, vi tag), (10, vi ra), (12, vi b), (13, vu f), (33, vs (some e) lN lC), (34, vi lN), (35, vi b), (42, vp (some d))] ?_
   obtain ⟨r, q14, h⟩ := h
   refine T_l (some 43) 48 q14 [(0, vp (some d)), (2, vi tag), (10, vi ra), (12, vi b), (13, vu f), (33, vs (some e) lN lC), (34, vi lN), (35, vi b), (43, vp r)] ?_
   obtain ⟨q, rfl, h⟩ := h
   refine T_n 2 [(0, vp (some d)), (2, vi tag), (10, vi ra), (12, vi b), (13, vu f), (33, vs (some e) lN lC), (34, vi lN), (35, vi b), (45, vp (some q))] ?_
   obtain ⟨p, q15, h⟩ := h
   refine T_l (some 46) 52 q15 [(0, vp (some d)), (2, vi tag), (10, vi ra), (12, vi b), (13, vu f), (33, vs (some e) lN lC), (34, vi lN), (35, vi b), (46, vp p)] ?_
   obtain ⟨o, rfl, h⟩ := h
   refine T_n 2 [(0, vp (some d)), (2, vi tag), (10, vi ra), (12, vi b), (13, vu f), (33, vs (some e) lN lC), (34, vi lN), (35, vi b), (48, vp (some o))] ?_
   obtain ⟨m, q16, h⟩ := h
   refine T_l (some 49) 55 q16 [(0, vp (some d)), (2, vi tag), (10, vi ra), (12, vi b), (13, vu f), (33, vs (some e) lN lC), (34, vi lN), (35, vi b), (49, vp m)] ?_
   refine T_n 4 [(0, vp (some d)), (2, vi tag), (10, vi ra), (33, vs (some e) lN lC), (34, vi lN), (35, vi b), (49, vp m), (52, vi (IntKind.wrap .i64 (ra + b))), (53, vu f)] ?_
   refine T_c (some 54) h ?_; clear h
   rintro aa H4 ⟨ab, rfl, h⟩
   refine ⟨[(0, vp (some d)), (2, vi tag), (10, vi ra), (33, vs (some e) lN lC), (34, vi lN), (35, vi b)], pk, ?_⟩
   refine N_end (by kernel_rfl) ?_
   refine S_blockEnd ?_
   refine S_then ?_
   refine T_r 10 K32 ?_
   refine T_ne 2 [(0, vp (some d)), (2, vi tag), (10, vi ra), (33, vs (some e) lN lC), (34, vi lN), (35, vi (IntKind.wrap .i64 (b + 1)))] ?_
   exact S_round ((IntKind.wrap .i64 (b + 1)) : Int) sk h
  rw [if_neg c10] at h
  have b11 : (decide (b < (lN : Int))) = false := decide_eq_false c10
  refine T_cF 36 K29 K30 b11 ?_
  refine S_exit 0 (by kernel_rfl) ?_
  refine S_exitThen ?_
  refine S_exitThen ?_
  refine S_exitHere ?_
  refine S_then ?_
  refine T_sr 11 K36 K37 ?_
  refine T_n 2 [(56, vi tag), (57, vi ra)] ?_
  refine T_c (some 58) h ?_; clear h
  rintro y H5 ⟨j, g, rfl, h⟩
  refine ⟨[(58, .tuple #[vu j, vi g])], pk, ?_⟩
  refine T_ne 4 [(8, vu j), (9, vi g)] ?_
  exact T_ret [8, 9] [vu j, vi g] hQ h
 rw [if_neg c5] at h
 have b6 : (rb != 0) = true := bne_iff_ne.mpr c5
 refine T_cT 31 K17 K18 b6 ?_
 refine T_sr 5 K38 K39 ?_
 refine T_ne 3 [(8, vu 0), (9, vi rb)] ?_
 exact T_ret [8, 9] [vu 0, vi rb] hQ h
end obj_Heap_put

/-! moraine/obj.raw -/
namespace obj_raw
def K0 := Func.code Tryz.f88
def K1 := ca K0
def K2 := cb K0
def K3 := ca K2
def K4 := cb K2
def K5 := ca K3
def K6 := cb K3
def K7 := ca K6
def K8 := cb K6
def K9 := ca K7
def K10 := cb K7
def K11 := ca K4
def K12 := cb K4
end obj_raw
def obj_raw.pt (kind : Int) (H : Array Obj) (R : Value → Array Obj → Prop) : Prop :=
 if ((kind == 2) || (kind == 3)) = true then (
 R (.int .i64 3) H)
 else
 R (.int .i64 2) H
namespace obj_raw
set_option maxRecDepth 100000 in
theorem link {kind : Int} {H : Array Obj} {R : Value → Array Obj → Prop} (h : pt kind H R) : C kind H R := by
 refine T_en K0 9 Tryz.func88 ?_
 intro w0 Q hQ
 unfold pt at h
 refine T_su [(0, vi kind)] ?_
 refine T_sr 0 K1 K2 ?_
 refine T_ne 1 [(0, vi kind)] ?_
 refine T_s K3 K4 ?_
 refine T_sr 1 K5 K6 ?_
 refine N_cut [(8, .bool ((kind == 2) || (kind == 3)))] ?_ ?_
 ·refine S_then ?_
  by_cases c3 : ((kind == 2) || (kind == 3)) = true
  ·rw [if_pos c3] at h
   have b4 : ((kind == 2) || (kind == 3)) = true := c3
   refine T_cT 8 K7 K8 b4 ?_
   refine T_sr 2 K9 K10 ?_
   refine T_ne 1 [(2, vi 3)] ?_
   exact T_ret [2] [vi 3] hQ h
  rw [if_neg c3] at h
  have b4 : ((kind == 2) || (kind == 3)) = false := eq_false_of_ne_true c3
  refine T_cF 8 K7 K8 b4 ?_
  refine T_kt ?_
  refine T_sr 3 K11 K12 ?_
  refine T_ne 1 [(2, vi 2)] ?_
  exact T_ret [2] [vi 2] hQ h
 intro hk
 refine T_n 3 [(0, vi kind), (5, .bool (kind == 2))] ?_
 by_cases c1 : kind = 2
 ·have b2 : (kind == 2) = true := beq_iff_eq.mpr c1
  refine N_env [(0, vi kind), (5, .bool true)] (by rw [b2]) ?_
  refine T_n 3 [(8, .bool true)] ?_
  refine N_end (by kernel_rfl) ?_
  refine S_env [(8, .bool ((kind == 2) || (kind == 3)))] (by simp only [b2, BL]) ?_
  exact hk
 have b2 : (kind == 2) = false := beq_eq_false_iff_ne.mpr c1
 refine N_env [(0, vi kind), (5, .bool false)] (by rw [b2]) ?_
 refine T_n 3 [(8, .bool (kind == 3))] ?_
 refine N_end (by kernel_rfl) ?_
 refine S_env [(8, .bool ((kind == 2) || (kind == 3)))] (by simp only [b2, BL]) ?_
 exact hk
end obj_raw

/-! (*moraine/obj.Heap).Type -/
namespace obj_Heap_Type
def K0 := Func.code Tryz.f94
def K1 := ca K0
def K2 := cb K0
def K3 := ca K2
def K4 := cb K2
def K5 := ca K4
def K6 := cb K4
end obj_Heap_Type
def obj_Heap_Type.pt (hv : Option Addr) (wv : Int) (H : Array Obj) (R : Value → Array Obj → Prop) : Prop :=
 obj_Heap_object.C hv wv H (fun v H1 => ∃ ra : Int, ∃ rb : Int, ∃ rc : Int, ∃ rd : Int, ∃ re : Bool, v = .tuple #[.int .i64 ra, .int .i64 rb, .int .i64 rc, .int .u64 rd, .bool re] ∧ 
 R (.int .i64 rb) H1)
namespace obj_Heap_Type
set_option maxRecDepth 100000 in
theorem link {hv : Option Addr} {wv : Int} {H : Array Obj} {R : Value → Array Obj → Prop} (h : pt hv wv H R) : C hv wv H R := by
 refine T_en K0 20 Tryz.func94 ?_
 intro w0 Q hQ
 unfold pt at h
 refine T_su [(0, vp hv), (1, vu wv)] ?_
 refine T_sr 0 K1 K2 ?_
 refine T_ne 1 [(0, vp hv), (1, vu wv)] ?_
 refine T_sr 1 K3 K4 ?_
 refine T_n 2 [(11, vp hv), (12, vu wv)] ?_
 refine T_c (some 13) h ?_; clear h
 rintro v H1 ⟨ra, rb, rc, rd, re, rfl, h⟩
 refine ⟨[(13, .tuple #[vi ra, vi rb, vi rc, vu rd, .bool re])], pk, ?_⟩
 refine T_ne 11 [(6, vi rb)] ?_
 refine T_sr 2 K5 K6 ?_
 refine T_ne 2 [(4, vi rb)] ?_
 exact T_ret [4] [vi rb] hQ h
end obj_Heap_Type

/-! (*moraine/obj.Heap).at -/
namespace obj_Heap_at
def K0 := Func.code Tryz.f100
def K1 := ca K0
def K2 := cb K0
def K3 := ca K2
def K4 := cb K2
def K5 := ca K4
def K6 := cb K4
def K7 := ca K5
def K8 := cb K5
def K9 := ca K8
def K10 := cb K8
def K11 := ca K9
def K12 := cb K9
def K13 := ca K6
def K14 := cb K6
def K15 := ca K14
def K16 := cb K14
end obj_Heap_at
def obj_Heap_at.pt (hv : Option Addr) (wv : Int) (tag : Int) (kind : Int) (H : Array Obj) (R : Value → Array Obj → Prop) : Prop :=
 word_Addr.C wv H (fun v H1 => ∃ ra : Int, ∃ rb : Bool, v = .tuple #[.int .i64 ra, .bool rb] ∧ 
 obj_Heap_none.C hv H1 (fun y H2 => ∃ x : Bool, y = .bool x ∧ 
 if x = true then (
 R (.tuple #[.int .i64 0, .bool false]) H2)
 else
 if rb = true then (
 word_Tag.C wv H2 (fun z H3 => ∃ n : Int, z = .int .i64 n ∧ 
 if n = tag then (
 ∃ p : Addr, hv = some p ∧
 ∃ q : Option Addr, hat H3 p = some (.pointer q) ∧
 ∃ r : Addr, q = some r ∧
 ∃ s : Option Addr, hat H3 r = some (.pointer s) ∧
 ∃ t : Addr, s = some t ∧
 ∃ o : Option Addr, hat H3 t = some (.pointer o) ∧
 seg_Mem_Seg.C o (IntKind.wrap .i64 (Int.tdiv ra 64)) H3 (fun u H4 => ∃ j : Int, ∃ i : Int, ∃ m : Int, ∃ f : Int, ∃ d : Int, ∃ e : Int, ∃ a : Int, ∃ g : Bool, u = .tuple #[.agg #[.int .i64 j, .int .i64 i, .int .i64 m, .int .i64 f, .int .i64 d, .int .i64 e, .int .i64 a], .bool g] ∧ 
 ∀ (b : Nat) (H5 : Array Obj), b = H4.size → H5 = H4.push (.cells #[.int .i64 0, .int .i64 0, .int .i64 0, .int .i64 0, .int .i64 0, .int .i64 0, .int .i64 0] 119) →
 (CanPuts H5 (Addr.mk b 0 none) 0 7) ∧ ∀ H6 : Array Obj, H6 = hputs H5 (Addr.mk b 0 none) [.int .i64 j, .int .i64 i, .int .i64 m, .int .i64 f, .int .i64 d, .int .i64 e, .int .i64 a] 0 →
 if g = true then (
 ∃ k : Int, hat H6 ((Addr.mk b 0 none).add 1) = some (.int .i64 k) ∧
 if k = kind then (
 ∃ l : Int, hat H6 ((Addr.mk b 0 none).add 2) = some (.int .i64 l) ∧
 R (.tuple #[.int .i64 ra, .bool (decide ((Int.tmod ra 64) < l))]) H6)
 else
 R (.tuple #[.int .i64 ra, .bool false]) H6)
 else
 R (.tuple #[.int .i64 ra, .bool false]) H6))
 else
 R (.tuple #[.int .i64 0, .bool false]) H3))
 else
 R (.tuple #[.int .i64 0, .bool false]) H2))
namespace obj_Heap_at
set_option maxRecDepth 100000 in
theorem link {hv : Option Addr} {wv : Int} {tag : Int} {kind : Int} {H : Array Obj} {R : Value → Array Obj → Prop} (h : pt hv wv tag kind H R) : C hv wv tag kind H R := by
 refine T_en K0 61 Tryz.func100 ?_
 intro w0 Q hQ
 unfold pt at h
 refine T_su [(0, vp hv), (1, vu wv), (2, vi tag), (3, vi kind)] ?_
 refine T_sr 0 K1 K2 ?_
 refine T_ne 2 [(0, vp hv), (1, vu wv), (2, vi tag), (3, vi kind)] ?_
 refine T_sr 1 K3 K4 ?_
 refine T_n 1 [(0, vp hv), (1, vu wv), (2, vi tag), (3, vi kind), (14, vu wv)] ?_
 refine T_c (some 15) h ?_; clear h
 rintro v H1 ⟨ra, rb, rfl, h⟩
 refine ⟨[(0, vp hv), (1, vu wv), (2, vi tag), (3, vi kind), (15, .tuple #[vi ra, .bool rb])], pk, ?_⟩
 refine T_ne 5 [(0, vp hv), (1, vu wv), (2, vi tag), (3, vi kind), (10, vi ra), (11, .bool rb)] ?_
 refine T_s K5 K6 ?_
 refine T_sr 2 K7 K8 ?_
 refine T_n 1 [(0, vp hv), (1, vu wv), (2, vi tag), (3, vi kind), (10, vi ra), (11, .bool rb), (18, vp hv)] ?_
 refine T_c (some 19) h ?_; clear h
 rintro y H2 ⟨x, rfl, h⟩
 refine ⟨[(0, vp hv), (1, vu wv), (2, vi tag), (3, vi kind), (10, vi ra), (11, .bool rb), (19, .bool x)], pk, ?_⟩
 refine T_n 1 [(0, vp hv), (1, vu wv), (2, vi tag), (3, vi kind), (10, vi ra), (11, .bool rb), (20, .bool x)] ?_
 by_cases c1 : x = true
 ·rw [if_pos c1] at h
  have b2 : x = true := c1
  refine N_env [(0, vp hv), (1, vu wv), (2, vi tag), (3, vi kind), (10, vi ra), (11, .bool rb), (20, .bool true)] (by rw [b2]) ?_
  clear b2
  refine T_ne 9 [(0, vp hv), (3, vi kind), (10, vi ra), (29, .bool true)] ?_
  refine T_t 29 K9 K10 ?_
  refine T_sr 3 K11 K12 ?_
  refine T_ne 2 [(8, vi 0), (9, .bool false)] ?_
  exact T_ret [8, 9] [vi 0, .bool false] hQ h
 rw [if_neg c1] at h
 have b2 : x = false := eq_false_of_ne_true c1
 refine N_env [(0, vp hv), (1, vu wv), (2, vi tag), (3, vi kind), (10, vi ra), (11, .bool rb), (20, .bool false)] (by rw [b2]) ?_
 clear b2
 refine T_n 4 [(0, vp hv), (1, vu wv), (2, vi tag), (3, vi kind), (10, vi ra), (24, .bool (!rb))] ?_
 by_cases c3 : rb = true
 ·rw [if_pos c3] at h
  have b4 : (!rb) = false := congrArg Bool.not (c3)
  have b42 : rb = true := c3
  refine N_env [(0, vp hv), (1, vu wv), (2, vi tag), (3, vi kind), (10, vi ra), (24, .bool false)] (by simp only [b4, b42, Bool.not_true, Bool.not_false]) ?_
  clear b4 b42
  refine T_n 1 [(0, vp hv), (2, vi tag), (3, vi kind), (10, vi ra), (24, .bool false), (25, vu wv)] ?_
  refine T_c (some 26) h ?_; clear h
  rintro z H3 ⟨n, rfl, h⟩
  refine ⟨[(0, vp hv), (2, vi tag), (3, vi kind), (10, vi ra), (24, .bool false), (26, vi n)], pk, ?_⟩
  refine T_ne 3 [(0, vp hv), (3, vi kind), (10, vi ra), (29, .bool (n != tag))] ?_
  by_cases c5 : n = tag
  ·rw [if_pos c5] at h
   have b6 : (n != tag) = false := bne_eq_false_iff_eq.mpr c5
   refine T_cF 29 K9 K10 b6 ?_
   refine T_kt ?_
   refine T_sr 4 K13 K14 ?_
   refine T_n 1 [(3, vi kind), (10, vi ra), (31, vp hv)] ?_
   obtain ⟨p, rfl, h⟩ := h
   refine T_n 2 [(3, vi kind), (10, vi ra), (33, vp (some p))] ?_
   obtain ⟨q, q7, h⟩ := h
   refine T_l (some 34) 48 q7 [(3, vi kind), (10, vi ra), (34, vp q)] ?_
   obtain ⟨r, rfl, h⟩ := h
   refine T_n 2 [(3, vi kind), (10, vi ra), (36, vp (some r))] ?_
   obtain ⟨s, q8, h⟩ := h
   refine T_l (some 37) 52 q8 [(3, vi kind), (10, vi ra), (37, vp s)] ?_
   obtain ⟨t, rfl, h⟩ := h
   refine T_n 2 [(3, vi kind), (10, vi ra), (39, vp (some t))] ?_
   obtain ⟨o, q9, h⟩ := h
   refine T_l (some 40) 55 q9 [(3, vi kind), (10, vi ra), (40, vp o)] ?_
   refine T_n 2 [(3, vi kind), (10, vi ra), (40, vp o), (42, vi (IntKind.wrap .i64 (Int.tdiv ra 64)))] ?_
   refine T_c (some 43) h ?_; clear h
   rintro u H4 ⟨j, i, m, f, d, e, a, g, rfl, h⟩
   refine ⟨[(3, vi kind), (10, vi ra), (43, .tuple #[.agg #[vi j, vi i, vi m, vi f, vi d, vi e, vi a], .bool g])], pk, ?_⟩
   refine T_n 3 [(3, vi kind), (10, vi ra), (44, .agg #[vi j, vi i, vi m, vi f, vi d, vi e, vi a]), (45, .bool g)] ?_
   refine T_nw (some 12) (fun b => vp (pa b)) (.cells #[vi 0, vi 0, vi 0, vi 0, vi 0, vi 0, vi 0] 119) ?_
   intro b H5 e10 e11
   replace h := h b H5 e10 e11
   refine ⟨[(3, vi kind), (10, vi ra), (12, vp (pa b)), (44, .agg #[vi j, vi i, vi m, vi f, vi d, vi e, vi a]), (45, .bool g)], pk, ?_⟩
   obtain ⟨q13, h⟩ := h
   refine N_skipop none (storeN 119 (vp (pa b)) (.agg #[vi j, vi i, vi m, vi f, vi d, vi e, vi a])) (fun Hz => Hz = hputs H5 (Addr.mk b 0 none) [vi j, vi i, vi m, vi f, vi d, vi e, vi a] 0) (fun _=>by kernel_rfl) (ss_store [vi j, vi i, vi m, vi f, vi d, vi e, vi a] 7 (by kernel_rfl) (by kernel_rfl) (fun _=>by kernel_rfl) (by kernel_rfl) q13) ?_
   intro H6 e12
   replace h := h H6 e12
   refine ⟨[(3, vi kind), (10, vi ra), (12, vp (pa b)), (45, .bool g)], pk, ?_⟩
   refine T_ne 1 [(3, vi kind), (10, vi ra), (11, .bool g), (12, vp (pa b))] ?_
   refine T_s K15 K16 ?_
   refine T_rq 5 K15 ?_
   refine T_q (some 46) (vi ra) [(3, vi kind), (10, vi ra), (11, .bool g), (12, vp (pa b)), (46, vi ra)] ?_
   refine T_q (some 47) (.bool g) [(3, vi kind), (10, vi ra), (12, vp (pa b)), (46, vi ra), (47, .bool g)] ?_
   refine T_q (some 48) (.bool g) [(3, vi kind), (10, vi ra), (12, vp (pa b)), (46, vi ra), (48, .bool g)] ?_
   by_cases c14 : g = true
   ·rw [if_pos c14] at h
    have b15 : g = true := c14
    refine Q_env [(3, vi kind), (10, vi ra), (12, vp (pa b)), (46, vi ra), (48, .bool true)] (by rw [b15]) ?_
    clear b15
    refine T_q (some 49) (vp (some ((Addr.mk b 0 none).add 1))) [(3, vi kind), (10, vi ra), (12, vp (pa b)), (46, vi ra), (48, .bool true), (49, vp (some ((Addr.mk b 0 none).add 1)))] ?_
    obtain ⟨k, q16, h⟩ := h
    refine T_ql (some 50) 3 q16 [(3, vi kind), (10, vi ra), (12, vp (pa b)), (46, vi ra), (48, .bool true), (50, vi k)] ?_
    refine T_q (some 51) (vi kind) [(10, vi ra), (12, vp (pa b)), (46, vi ra), (48, .bool true), (50, vi k), (51, vi kind)] ?_
    refine T_q (some 52) (.bool (k == kind)) [(10, vi ra), (12, vp (pa b)), (46, vi ra), (48, .bool true), (52, .bool (k == kind))] ?_
    refine T_q (some 53) (.bool (k == kind)) [(10, vi ra), (12, vp (pa b)), (46, vi ra), (53, .bool (k == kind))] ?_
    refine T_q (some 54) (.bool (k == kind)) [(10, vi ra), (12, vp (pa b)), (46, vi ra), (54, .bool (k == kind))] ?_
    by_cases c17 : k = kind
    ·rw [if_pos c17] at h
     have b18 : (k == kind) = true := beq_iff_eq.mpr c17
     refine Q_env [(10, vi ra), (12, vp (pa b)), (46, vi ra), (54, .bool true)] (by rw [b18]) ?_
     clear b18
     refine T_q (some 55) (vi ra) [(12, vp (pa b)), (46, vi ra), (54, .bool true), (55, vi ra)] ?_
     refine T_q (some 56) (vi (Int.tmod ra 64)) [(12, vp (pa b)), (46, vi ra), (54, .bool true), (56, vi (Int.tmod ra 64))] ?_
     refine T_q (some 57) (vp (some ((Addr.mk b 0 none).add 2))) [(46, vi ra), (54, .bool true), (56, vi (Int.tmod ra 64)), (57, vp (some ((Addr.mk b 0 none).add 2)))] ?_
     obtain ⟨l, q19, h⟩ := h
     refine T_ql (some 58) 3 q19 [(46, vi ra), (54, .bool true), (56, vi (Int.tmod ra 64)), (58, vi l)] ?_
     refine T_q (some 59) (.bool (decide ((Int.tmod ra 64) < l))) [(46, vi ra), (54, .bool true), (59, .bool (decide ((Int.tmod ra 64) < l)))] ?_
     refine T_q (some 60) (.bool (decide ((Int.tmod ra 64) < l))) [(46, vi ra), (60, .bool (decide ((Int.tmod ra 64) < l)))] ?_
     refine T_q (some 8) (vi ra) [(8, vi ra), (60, .bool (decide ((Int.tmod ra 64) < l)))] ?_
     refine T_q (some 9) (.bool (decide ((Int.tmod ra 64) < l))) [(8, vi ra), (9, .bool (decide ((Int.tmod ra 64) < l)))] ?_
     refine Q_sub [(8, vi ra), (9, .bool (decide ((Int.tmod ra 64) < l)))] sk ?_
     refine T_qe ?_
     exact T_ret [8, 9] [vi ra, .bool (decide ((Int.tmod ra 64) < l))] hQ h
    rw [if_neg c17] at h
    have b18 : (k == kind) = false := beq_eq_false_iff_ne.mpr c17
    refine Q_env [(10, vi ra), (12, vp (pa b)), (46, vi ra), (54, .bool false)] (by rw [b18]) ?_
    clear b18
    refine T_q (some 55) (undef) [(12, vp (pa b)), (46, vi ra), (54, .bool false), (55, undef)] ?_
    refine T_q (some 56) (undef) [(12, vp (pa b)), (46, vi ra), (54, .bool false), (56, undef)] ?_
    refine T_q (some 57) (undef) [(46, vi ra), (54, .bool false), (56, undef), (57, undef)] ?_
    refine T_q (some 58) (undef) [(46, vi ra), (54, .bool false), (56, undef), (58, undef)] ?_
    refine T_q (some 59) (undef) [(46, vi ra), (54, .bool false), (59, undef)] ?_
    refine T_q (some 60) (.bool false) [(46, vi ra), (60, .bool false)] ?_
    refine T_q (some 8) (vi ra) [(8, vi ra), (60, .bool false)] ?_
    refine T_q (some 9) (.bool false) [(8, vi ra), (9, .bool false)] ?_
    refine Q_sub [(8, vi ra), (9, .bool false)] sk ?_
    refine T_qe ?_
    exact T_ret [8, 9] [vi ra, .bool false] hQ h
   rw [if_neg c14] at h
   have b15 : g = false := eq_false_of_ne_true c14
   refine Q_env [(3, vi kind), (10, vi ra), (12, vp (pa b)), (46, vi ra), (48, .bool false)] (by rw [b15]) ?_
   clear b15
   refine T_q (some 49) (undef) [(3, vi kind), (10, vi ra), (12, vp (pa b)), (46, vi ra), (48, .bool false), (49, undef)] ?_
   refine T_q (some 50) (undef) [(3, vi kind), (10, vi ra), (12, vp (pa b)), (46, vi ra), (48, .bool false), (50, undef)] ?_
   refine T_q (some 51) (undef) [(10, vi ra), (12, vp (pa b)), (46, vi ra), (48, .bool false), (50, undef), (51, undef)] ?_
   refine T_q (some 52) (undef) [(10, vi ra), (12, vp (pa b)), (46, vi ra), (48, .bool false), (52, undef)] ?_
   refine T_q (some 53) (.bool false) [(10, vi ra), (12, vp (pa b)), (46, vi ra), (53, .bool false)] ?_
   refine T_q (some 54) (.bool false) [(10, vi ra), (12, vp (pa b)), (46, vi ra), (54, .bool false)] ?_
   refine T_q (some 55) (undef) [(12, vp (pa b)), (46, vi ra), (54, .bool false), (55, undef)] ?_
   refine T_q (some 56) (undef) [(12, vp (pa b)), (46, vi ra), (54, .bool false), (56, undef)] ?_
   refine T_q (some 57) (undef) [(46, vi ra), (54, .bool false), (56, undef), (57, undef)] ?_
   refine T_q (some 58) (undef) [(46, vi ra), (54, .bool false), (56, undef), (58, undef)] ?_
   refine T_q (some 59) (undef) [(46, vi ra), (54, .bool false), (59, undef)] ?_
   refine T_q (some 60) (.bool false) [(46, vi ra), (60, .bool false)] ?_
   refine T_q (some 8) (vi ra) [(8, vi ra), (60, .bool false)] ?_
   refine T_q (some 9) (.bool false) [(8, vi ra), (9, .bool false)] ?_
   refine Q_sub [(8, vi ra), (9, .bool false)] sk ?_
   refine T_qe ?_
   exact T_ret [8, 9] [vi ra, .bool false] hQ h
  rw [if_neg c5] at h
  have b6 : (n != tag) = true := bne_iff_ne.mpr c5
  refine T_cT 29 K9 K10 b6 ?_
  refine T_sr 3 K11 K12 ?_
  refine T_ne 2 [(8, vi 0), (9, .bool false)] ?_
  exact T_ret [8, 9] [vi 0, .bool false] hQ h
 rw [if_neg c3] at h
 have b4 : (!rb) = true := congrArg Bool.not (eq_false_of_ne_true c3)
 have b42 : rb = false := eq_false_of_ne_true c3
 refine N_env [(0, vp hv), (1, vu wv), (2, vi tag), (3, vi kind), (10, vi ra), (24, .bool true)] (by simp only [b4, b42, Bool.not_true, Bool.not_false]) ?_
 clear b4 b42
 refine T_ne 5 [(0, vp hv), (3, vi kind), (10, vi ra), (29, .bool true)] ?_
 refine T_t 29 K9 K10 ?_
 refine T_sr 3 K11 K12 ?_
 refine T_ne 2 [(8, vi 0), (9, .bool false)] ?_
 exact T_ret [8, 9] [vi 0, .bool false] hQ h
end obj_Heap_at

/-! (*moraine/obj.Heap).Get -/
namespace obj_Heap_Get
def K0 := Func.code Tryz.f116
def K1 := ca K0
def K2 := cb K0
def K3 := ca K2
def K4 := cb K2
def K5 := ca K4
def K6 := cb K4
def K7 := ca K5
def K8 := cb K5
def K9 := ca K8
def K10 := cb K8
def K11 := ca K6
def K12 := cb K6
def K13 := ca K9
def K14 := cb K9
end obj_Heap_Get
def obj_Heap_Get.pt (hv : Option Addr) (wv : Int) (kind : Int) (i : Int) (H : Array Obj) (R : Value → Array Obj → Prop) : Prop :=
 obj_Heap_field.C hv wv kind i H (fun v H1 => ∃ ra : Int, ∃ rb : Int, v = .tuple #[.int .i64 ra, .int .i64 rb] ∧ 
 if rb = 0 then (
 ∃ g : Addr, hv = some g ∧
 ∃ x : Option Addr, hat H1 g = some (.pointer x) ∧
 ∃ xA : Addr, x = some xA ∧
 ∃ e : Option Addr, hat H1 xA = some (.pointer e) ∧
 ∃ f : Addr, e = some f ∧
 ∃ d : Option Addr, hat H1 f = some (.pointer d) ∧
 seg_Mem_Read.C d ra H1 (fun j H2 => ∃ b : Int, ∃ a : Int, j = .tuple #[.int .u64 b, .int .i64 a] ∧ 
 R (.tuple #[.int .u64 b, .int .i64 a]) H2))
 else
 R (.tuple #[.int .u64 0, .int .i64 rb]) H1)
namespace obj_Heap_Get
set_option maxRecDepth 100000 in
theorem link {hv : Option Addr} {wv : Int} {kind : Int} {i : Int} {H : Array Obj} {R : Value → Array Obj → Prop} (h : pt hv wv kind i H R) : C hv wv kind i H R := by
 refine T_en K0 37 Tryz.func116 ?_
 intro w0 Q hQ
 unfold pt at h
 refine T_su [(0, vp hv), (1, vu wv), (2, vi kind), (3, vi i)] ?_
 refine T_sr 0 K1 K2 ?_
 refine T_ne 2 [(0, vp hv), (1, vu wv), (2, vi kind), (3, vi i)] ?_
 refine T_sr 1 K3 K4 ?_
 refine T_n 4 [(0, vp hv), (13, vp hv), (14, vu wv), (15, vi kind), (16, vi i)] ?_
 refine T_c (some 17) h ?_; clear h
 rintro v H1 ⟨ra, rb, rfl, h⟩
 refine ⟨[(0, vp hv), (17, .tuple #[vi ra, vi rb])], pk, ?_⟩
 refine T_ne 5 [(0, vp hv), (10, vi ra), (11, vi rb)] ?_
 refine T_s K5 K6 ?_
 refine T_sr 2 K7 K8 ?_
 refine T_ne 2 [(0, vp hv), (10, vi ra), (11, vi rb), (21, .bool (rb != 0))] ?_
 by_cases c1 : rb = 0
 ·rw [if_pos c1] at h
  have b2 : (rb != 0) = false := bne_eq_false_iff_eq.mpr c1
  refine T_cF 21 K9 K10 b2 ?_
  refine T_kt ?_
  refine T_sr 4 K11 K12 ?_
  refine T_n 1 [(10, vi ra), (23, vp hv)] ?_
  obtain ⟨g, rfl, h⟩ := h
  refine T_n 2 [(10, vi ra), (25, vp (some g))] ?_
  obtain ⟨x, q3, h⟩ := h
  refine T_l (some 26) 48 q3 [(10, vi ra), (26, vp x)] ?_
  obtain ⟨xA, rfl, h⟩ := h
  refine T_n 2 [(10, vi ra), (28, vp (some xA))] ?_
  obtain ⟨e, q4, h⟩ := h
  refine T_l (some 29) 52 q4 [(10, vi ra), (29, vp e)] ?_
  obtain ⟨f, rfl, h⟩ := h
  refine T_n 2 [(10, vi ra), (31, vp (some f))] ?_
  obtain ⟨d, q5, h⟩ := h
  refine T_l (some 32) 55 q5 [(10, vi ra), (32, vp d)] ?_
  refine T_n 1 [(32, vp d), (33, vi ra)] ?_
  refine T_c (some 34) h ?_; clear h
  rintro j H2 ⟨b, a, rfl, h⟩
  refine ⟨[(34, .tuple #[vu b, vi a])], pk, ?_⟩
  refine T_ne 4 [(8, vu b), (9, vi a)] ?_
  exact T_ret [8, 9] [vu b, vi a] hQ h
 rw [if_neg c1] at h
 have b2 : (rb != 0) = true := bne_iff_ne.mpr c1
 refine T_cT 21 K9 K10 b2 ?_
 refine T_sr 3 K13 K14 ?_
 refine T_ne 3 [(8, vu 0), (9, vi rb)] ?_
 exact T_ret [8, 9] [vu 0, vi rb] hQ h
end obj_Heap_Get

/-! (*moraine/obj.Heap).none -/
namespace obj_Heap_none
def K0 := Func.code Tryz.f139
def K1 := ca K0
def K2 := cb K0
def K3 := ca K2
def K4 := cb K2
end obj_Heap_none
def obj_Heap_none.pt (hv : Option Addr) (H : Array Obj) (R : Value → Array Obj → Prop) : Prop :=
 onPtr hv (
 R (.bool true) H) (fun a =>
 ∃ x : Option Addr, hat H a = some (.pointer x) ∧
 onPtr x (
 R (.bool true) H) (fun xA =>
 R (.bool false) H))
namespace obj_Heap_none
set_option maxRecDepth 100000 in
theorem link {hv : Option Addr} {H : Array Obj} {R : Value → Array Obj → Prop} (h : pt hv H R) : C hv H R := by
 refine T_en K0 12 Tryz.func139 ?_
 intro w0 Q hQ
 unfold pt at h
 refine T_su [(0, vp hv)] ?_
 refine T_sr 0 K1 K2 ?_
 refine T_ne 1 [(0, vp hv)] ?_
 refine T_sr 1 K3 K4 ?_
 refine T_n 1 [(0, vp hv), (3, vp hv)] ?_
 rcases hv with _ | a
 ·rw [onPtr_none] at h
  refine T_ne 9 [(2, .bool true)] ?_
  exact T_ret [2] [.bool true] hQ h
 rw [onPtr_some] at h
 refine T_n 5 [(5, .bool false), (8, vp (some a))] ?_
 obtain ⟨x, q1, h⟩ := h
 refine T_l (some 9) 48 q1 [(5, .bool false), (9, vp x)] ?_
 rcases x with _ | xA
 ·rw [onPtr_none] at h
  refine T_ne 3 [(2, .bool true)] ?_
  exact T_ret [2] [.bool true] hQ h
 rw [onPtr_some] at h
 refine T_ne 3 [(2, .bool false)] ?_
 exact T_ret [2] [.bool false] hQ h
end obj_Heap_none

/-! (*moraine/obj.Heap).field -/
namespace obj_Heap_field
def K0 := Func.code Tryz.f160
def K1 := ca K0
def K2 := cb K0
def K3 := ca K2
def K4 := cb K2
def K5 := ca K4
def K6 := cb K4
def K7 := ca K5
def K8 := ca K7
def K9 := cb K7
def K10 := ca K9
def K11 := cb K9
def K12 := ca K10
def K13 := cb K10
def K14 := ca K11
def K15 := cb K11
def K16 := ca K15
def K17 := cb K15
def K18 := ca K16
def K19 := cb K16
def K20 := ca K6
def K21 := cb K6
end obj_Heap_field
def obj_Heap_field.pt (hv : Option Addr) (wv : Int) (kind : Int) (i : Int) (H : Array Obj) (R : Value → Array Obj → Prop) : Prop :=
 obj_Heap_object.C hv wv H (fun v H1 => ∃ ra : Int, ∃ rb : Int, ∃ rc : Int, ∃ rd : Int, ∃ re : Bool, v = .tuple #[.int .i64 ra, .int .i64 rb, .int .i64 rc, .int .u64 rd, .bool re] ∧ 
 if ((!re) || (rb != kind)) = true then (
 R (.tuple #[.int .i64 0, .int .i64 3]) H1)
 else
 if ((decide (i < 0)) || (decide (i ≥ rc))) = true then (
 R (.tuple #[.int .i64 0, .int .i64 4]) H1)
 else
 R (.tuple #[.int .i64 (IntKind.wrap .i64 ((IntKind.wrap .i64 (ra + 1)) + i)), .int .i64 0]) H1)
namespace obj_Heap_field
set_option maxRecDepth 100000 in
theorem link {hv : Option Addr} {wv : Int} {kind : Int} {i : Int} {H : Array Obj} {R : Value → Array Obj → Prop} (h : pt hv wv kind i H R) : C hv wv kind i H R := by
 refine T_en K0 44 Tryz.func160 ?_
 intro w0 Q hQ
 unfold pt at h
 refine T_su [(0, vp hv), (1, vu wv), (2, vi kind), (3, vi i)] ?_
 refine T_sr 0 K1 K2 ?_
 refine T_ne 2 [(0, vp hv), (1, vu wv), (2, vi kind), (3, vi i)] ?_
 refine T_sr 1 K3 K4 ?_
 refine T_n 2 [(2, vi kind), (3, vi i), (16, vp hv), (17, vu wv)] ?_
 refine T_c (some 18) h ?_; clear h
 rintro v H1 ⟨ra, rb, rc, rd, re, rfl, h⟩
 refine ⟨[(2, vi kind), (3, vi i), (18, .tuple #[vi ra, vi rb, vi rc, vu rd, .bool re])], pk, ?_⟩
 refine T_ne 11 [(2, vi kind), (3, vi i), (10, vi ra), (11, vi rb), (12, vi rc), (14, .bool re)] ?_
 refine T_s K5 K6 ?_
 refine T_b 0 K7 ?_
 refine T_sr 2 K8 K9 ?_
 refine N_cut [(3, vi i), (10, vi ra), (12, vi rc), (24, .bool ((!re) || (rb != kind)))] ?_ ?_
 ·refine S_then ?_
  by_cases c3 : ((!re) || (rb != kind)) = true
  ·rw [if_pos c3] at h
   have b4 : ((!re) || (rb != kind)) = true := c3
   refine T_cT 24 K10 K11 b4 ?_
   refine T_sr 3 K12 K13 ?_
   refine T_ne 2 [(8, vi 0), (9, vi 3)] ?_
   exact T_ret [8, 9] [vi 0, vi 3] hQ h
  rw [if_neg c3] at h
  have b4 : ((!re) || (rb != kind)) = false := eq_false_of_ne_true c3
  refine T_cF 24 K10 K11 b4 ?_
  refine T_sr 4 K14 K15 ?_
  refine N_cut [(3, vi i), (10, vi ra), (32, .bool ((decide (i < 0)) || (decide (i ≥ rc))))] ?_ ?_
  ·refine S_then ?_
   by_cases c7 : ((decide (i < 0)) || (decide (i ≥ rc))) = true
   ·rw [if_pos c7] at h
    have b8 : ((decide (i < 0)) || (decide (i ≥ rc))) = true := c7
    refine T_cT 32 K16 K17 b8 ?_
    refine T_sr 5 K18 K19 ?_
    refine T_ne 2 [(8, vi 0), (9, vi 4)] ?_
    exact T_ret [8, 9] [vi 0, vi 4] hQ h
   rw [if_neg c7] at h
   have b8 : ((decide (i < 0)) || (decide (i ≥ rc))) = false := eq_false_of_ne_true c7
   refine T_cF 32 K16 K17 b8 ?_
   refine T_k ?_
   refine S_blockEnd ?_
   refine S_then ?_
   refine T_sr 6 K20 K21 ?_
   refine T_ne 6 [(8, vi (IntKind.wrap .i64 ((IntKind.wrap .i64 (ra + 1)) + i))), (9, vi 0)] ?_
   exact T_ret [8, 9] [vi (IntKind.wrap .i64 ((IntKind.wrap .i64 (ra + 1)) + i)), vi 0] hQ h
  intro hk
  refine T_n 3 [(3, vi i), (10, vi ra), (12, vi rc), (35, .bool (decide (i < 0)))] ?_
  by_cases c5 : i < 0
  ·have b6 : (decide (i < 0)) = true := decide_eq_true c5
   refine N_env [(3, vi i), (10, vi ra), (12, vi rc), (35, .bool true)] (by rw [b6]) ?_
   refine T_n 5 [(3, vi i), (10, vi ra), (32, .bool true)] ?_
   refine N_end (by kernel_rfl) ?_
   refine S_env [(3, vi i), (10, vi ra), (32, .bool ((decide (i < 0)) || (decide (i ≥ rc))))] (by simp only [b6, BL]) ?_
   exact hk
  have b6 : (decide (i < 0)) = false := decide_eq_false c5
  refine N_env [(3, vi i), (10, vi ra), (12, vi rc), (35, .bool false)] (by rw [b6]) ?_
  refine T_n 5 [(3, vi i), (10, vi ra), (32, .bool (decide (i ≥ rc)))] ?_
  refine N_end (by kernel_rfl) ?_
  refine S_env [(3, vi i), (10, vi ra), (32, .bool ((decide (i < 0)) || (decide (i ≥ rc))))] (by simp only [b6, BL]) ?_
  exact hk
 intro hk
 refine T_n 3 [(2, vi kind), (3, vi i), (10, vi ra), (11, vi rb), (12, vi rc), (27, .bool (!re))] ?_
 by_cases c1 : re = true
 ·have b2 : (!re) = false := congrArg Bool.not (c1)
  have b22 : re = true := c1
  refine N_env [(2, vi kind), (3, vi i), (10, vi ra), (11, vi rb), (12, vi rc), (27, .bool false)] (by simp only [b2, b22, Bool.not_true, Bool.not_false]) ?_
  refine T_n 5 [(3, vi i), (10, vi ra), (12, vi rc), (24, .bool (rb != kind))] ?_
  refine N_end (by kernel_rfl) ?_
  refine S_env [(3, vi i), (10, vi ra), (12, vi rc), (24, .bool ((!re) || (rb != kind)))] (by simp only [b2, BL]) ?_
  exact hk
 have b2 : (!re) = true := congrArg Bool.not (eq_false_of_ne_true c1)
 have b22 : re = false := eq_false_of_ne_true c1
 refine N_env [(2, vi kind), (3, vi i), (10, vi ra), (11, vi rb), (12, vi rc), (27, .bool true)] (by simp only [b2, b22, Bool.not_true, Bool.not_false]) ?_
 refine T_n 5 [(3, vi i), (10, vi ra), (12, vi rc), (24, .bool true)] ?_
 refine N_end (by kernel_rfl) ?_
 refine S_env [(3, vi i), (10, vi ra), (12, vi rc), (24, .bool ((!re) || (rb != kind)))] (by simp only [b2, BL]) ?_
 exact hk
end obj_Heap_field

/-! (*moraine/obj.Heap).Set -/
end Go.Proofs.YthlohokmnajpoaaGreatDoor
