/- Printed: what each function asks, and that it is sound. -/
import Derived.Test.YthlohokmnajpoaaGreatDoorFnsC
set_option linter.unusedSimpArgs false
set_option linter.unusedVariables false
set_option maxHeartbeats 1000000
noncomputable section
namespace Go.Proofs.YthlohokmnajpoaaGreatDoor
open Go
/-! (*moraine/space.Space).none -/
namespace space_Space_none
def K0 := Func.code Tryz.f53
def K1 := ca K0
def K2 := cb K0
def K3 := ca K2
def K4 := cb K2
end space_Space_none
def space_Space_none.pt (s : Option Addr) (H : Array Obj) (R : Value → Array Obj → Prop) : Prop :=
 onPtr s (
 R (.bool true) H) (fun sA =>
 ∃ x : Option Addr, hat H sA = some (.pointer x) ∧
 onPtr x (
 R (.bool true) H) (fun xA =>
 R (.bool false) H))
namespace space_Space_none
set_option maxRecDepth 100000 in
theorem link {s : Option Addr} {H : Array Obj} {R : Value → Array Obj → Prop} (h : pt s H R) : C s H R := by
 refine T_en K0 12 Tryz.func53 ?_
 intro w0 Q hQ
 unfold pt at h
 refine T_su [(0, vp s)] ?_
 refine T_sr 0 K1 K2 ?_
 refine T_ne 1 [(0, vp s)] ?_
 refine T_sr 1 K3 K4 ?_
 refine T_n 1 [(0, vp s), (3, vp s)] ?_
 rcases s with _ | sA
 ·rw [onPtr_none] at h
  refine T_ne 9 [(2, .bool true)] ?_
  exact T_ret [2] [.bool true] hQ h
 rw [onPtr_some] at h
 refine T_n 5 [(5, .bool false), (8, vp (some sA))] ?_
 obtain ⟨x, q1, h⟩ := h
 refine T_l (some 9) 55 q1 [(5, .bool false), (9, vp x)] ?_
 rcases x with _ | xA
 ·rw [onPtr_none] at h
  refine T_ne 3 [(2, .bool true)] ?_
  exact T_ret [2] [.bool true] hQ h
 rw [onPtr_some] at h
 refine T_ne 3 [(2, .bool false)] ?_
 exact T_ret [2] [.bool false] hQ h
end space_Space_none

/-! moraine/space.New -/
namespace space_New
def K0 := Func.code Tryz.f76
def K1 := ca K0
def K2 := cb K0
def K3 := ca K2
def K4 := cb K2
def K5 := ca K4
def K6 := cb K4
def K7 := ca K5
def K8 := cb K5
def K9 := ca K8
def K10 := cb K8
def K11 := ca K6
def K12 := cb K6
def K13 := ca K9
def K14 := cb K9
end space_New
def space_New.pt (limit : Int) (H : Array Obj) (R : Value → Array Obj → Prop) : Prop :=
 seg_New.C limit H (fun v H1 => ∃ ra : Option Addr, ∃ rb : Int, v = .tuple #[.pointer ra, .int .i64 rb] ∧ 
 if rb = 0 then (
 ∀ (b : Nat) (H2 : Array Obj), b = H1.size → H2 = H1.push (.cells #[.pointer ra, .int .i64 0, .int .i64 0, .int .i64 0, .int .i64 0, .int .i64 0, .int .i64 0, .int .i64 0, .int .i64 0, .int .i64 0, .int .i64 0, .int .i64 0, .int .i64 0, .int .i64 0, .int .i64 0, .int .i64 0, .int .i64 0, .int .i64 0, .int .i64 0, .int .i64 0, .int .i64 0] 59) →
 R (.tuple #[.pointer (some (Addr.mk b 0 none)), .int .i64 0]) H2)
 else
 R (.tuple #[.pointer none, .int .i64 rb]) H1)
namespace space_New
set_option maxRecDepth 100000 in
theorem link {limit : Int} {H : Array Obj} {R : Value → Array Obj → Prop} (h : pt limit H R) : C limit H R := by
 refine T_en K0 17 Tryz.func76 ?_
 intro w0 Q hQ
 unfold pt at h
 refine T_su [(0, vi limit)] ?_
 refine T_sr 0 K1 K2 ?_
 refine T_ne 2 [(0, vi limit)] ?_
 refine T_sr 1 K3 K4 ?_
 refine T_n 1 [(7, vi limit)] ?_
 refine T_c (some 8) h ?_; clear h
 rintro v H1 ⟨ra, rb, rfl, h⟩
 refine ⟨[(8, .tuple #[vp ra, vi rb])], pk, ?_⟩
 refine T_ne 5 [(4, vp ra), (5, vi rb)] ?_
 refine T_s K5 K6 ?_
 refine T_sr 2 K7 K8 ?_
 refine T_ne 2 [(4, vp ra), (5, vi rb), (12, .bool (rb != 0))] ?_
 by_cases c1 : rb = 0
 ·rw [if_pos c1] at h
  have b2 : (rb != 0) = false := bne_eq_false_iff_eq.mpr c1
  refine T_cF 12 K9 K10 b2 ?_
  refine T_kt ?_
  refine T_sr 4 K11 K12 ?_
  refine T_n 2 [(15, .agg #[vp ra, vi 0, vi 0, vi 0, vi 0, vi 0, vi 0, vi 0, vi 0, vi 0, vi 0, vi 0, vi 0, vi 0, vi 0, vi 0, vi 0, vi 0, vi 0, vi 0, vi 0])] ?_
  refine T_nw (some 16) (fun b => vp (pa b)) (.cells #[vp ra, vi 0, vi 0, vi 0, vi 0, vi 0, vi 0, vi 0, vi 0, vi 0, vi 0, vi 0, vi 0, vi 0, vi 0, vi 0, vi 0, vi 0, vi 0, vi 0, vi 0] 59) ?_
  intro b H2 e3 e4
  replace h := h b H2 e3 e4
  refine ⟨[(16, vp (pa b))], pk, ?_⟩
  refine T_ne 2 [(2, vp (pa b)), (3, vi 0)] ?_
  exact T_ret [2, 3] [vp (pa b), vi 0] hQ h
 rw [if_neg c1] at h
 have b2 : (rb != 0) = true := bne_iff_ne.mpr c1
 refine T_cT 12 K9 K10 b2 ?_
 refine T_sr 3 K13 K14 ?_
 refine T_ne 3 [(2, vp none), (3, vi rb)] ?_
 exact T_ret [2, 3] [vp none, vi rb] hQ h
end space_New

/-! (*moraine/space.Space).Alloc -/
namespace space_Space_Alloc
def K0 := Func.code Tryz.f140
def K1 := ca K0
def K2 := cb K0
def K3 := ca K2
def K4 := cb K2
def K5 := ca K3
def K6 := cb K3
def K7 := ca K6
def K8 := cb K6
def K9 := ca K7
def K10 := cb K7
def K11 := ca K4
def K12 := cb K4
def K13 := ca K11
def K14 := cb K11
def K15 := ca K14
def K16 := cb K14
def K17 := ca K16
def K18 := cb K16
def K19 := ca K12
def K20 := cb K12
def K21 := ca K20
def K22 := cb K20
def K23 := ca K21
def K24 := cb K21
def K25 := ca K24
def K26 := cb K24
def K27 := ca K22
def K28 := cb K22
def K29 := ca K28
def K30 := cb K28
def K31 := ca K25
def K32 := cb K25
def K33 := ca K17
def K34 := cb K17
def K35 := ca K34
def K36 := cb K34
def K37 := ca K36
def K38 := cb K36
def K39 := ca K37
def K40 := cb K37
end space_Space_Alloc
def space_Space_Alloc.pt (s : Option Addr) (gen : Int) (kind : Int) (nv : Int) (H : Array Obj) (R : Value → Array Obj → Prop) : Prop :=
 space_Space_none.C s H (fun v H1 => ∃ x : Bool, v = .bool x ∧ 
 if x = true then (
 R (.tuple #[.int .i64 0, .int .i64 1]) H1)
 else
 space_may.C gen kind nv H1 (fun y H2 => ∃ j : Bool, y = .bool j ∧ 
 if j = true then (
 space_Space_Current.C s gen kind H2 (fun z H3 => ∃ ra : Int, ∃ rb : Bool, z = .tuple #[.int .i64 ra, .bool rb] ∧ 
 ∃ J : Array Obj → Prop, (
 if rb = true then (
 ∃ e : Addr, s = some e ∧
 ∃ q : Option Addr, hat H3 e = some (.pointer q) ∧
 seg_Mem_Bump.C q ra nv H3 (fun r H8 => ∃ f : Int, ∃ g : Int, r = .tuple #[.int .i64 f, .int .i64 g] ∧ 
 if g = 0 then (
 R (.tuple #[.int .i64 f, .int .i64 0]) H8)
 else
 J H8))
 else
 J H3) ∧ ∀ (H4 : Array Obj), J H4 →
 ∃ sA : Addr, s = some sA ∧
 ∃ o : Option Addr, hat H4 sA = some (.pointer o) ∧
 seg_Mem_Take.C o gen kind H4 (fun u H5 => ∃ b : Int, ∃ d : Int, u = .tuple #[.int .i64 b, .int .i64 d] ∧ 
 if d = 0 then (
 ((0 : Int) ≤ gen ∧ gen < (5 : Int)) ∧
 ((0 : Int) ≤ kind ∧ kind < (4 : Int)) ∧
 (CanPuts H5 (((sA.add 1).add (Int.toNat gen * 4)).add (Int.toNat kind * 1)) 0 1) ∧ ∀ H6 : Array Obj, H6 = hputs H5 (((sA.add 1).add (Int.toNat gen * 4)).add (Int.toNat kind * 1)) [.int .i64 (IntKind.wrap .i64 (b + 1))] 0 →
 ∃ p : Option Addr, hat H6 sA = some (.pointer p) ∧
 seg_Mem_Bump.C p b nv H6 (fun aa H7 => ∃ l : Int, ∃ m : Int, aa = .tuple #[.int .i64 l, .int .i64 m] ∧ 
 R (.tuple #[.int .i64 l, .int .i64 m]) H7))
 else
 R (.tuple #[.int .i64 0, .int .i64 d]) H5)))
 else
 R (.tuple #[.int .i64 0, .int .i64 1]) H2))
namespace space_Space_Alloc
set_option maxRecDepth 100000 in
theorem link {s : Option Addr} {gen : Int} {kind : Int} {nv : Int} {H : Array Obj} {R : Value → Array Obj → Prop} (h : pt s gen kind nv H R) : C s gen kind nv H R := by
 refine T_en K0 77 Tryz.func140 ?_
 intro w0 Q hQ
 unfold pt at h
 refine T_su [(0, vp s), (1, vi gen), (2, vi kind), (3, vi nv)] ?_
 refine T_sr 0 K1 K2 ?_
 refine T_ne 2 [(0, vp s), (1, vi gen), (2, vi kind), (3, vi nv)] ?_
 refine T_s K3 K4 ?_
 refine T_sr 1 K5 K6 ?_
 refine T_n 1 [(0, vp s), (1, vi gen), (2, vi kind), (3, vi nv), (16, vp s)] ?_
 refine T_c (some 17) h ?_; clear h
 rintro v H1 ⟨x, rfl, h⟩
 refine ⟨[(0, vp s), (1, vi gen), (2, vi kind), (3, vi nv), (17, .bool x)], pk, ?_⟩
 refine T_n 1 [(0, vp s), (1, vi gen), (2, vi kind), (3, vi nv), (18, .bool x)] ?_
 by_cases c1 : x = true
 ·rw [if_pos c1] at h
  have b2 : x = true := c1
  refine N_env [(0, vp s), (1, vi gen), (2, vi kind), (3, vi nv), (18, .bool true)] (by rw [b2]) ?_
  clear b2
  refine T_ne 6 [(0, vp s), (1, vi gen), (2, vi kind), (3, vi nv), (24, .bool true)] ?_
  refine T_t 24 K7 K8 ?_
  refine T_sr 2 K9 K10 ?_
  refine T_ne 2 [(8, vi 0), (9, vi 1)] ?_
  exact T_ret [8, 9] [vi 0, vi 1] hQ h
 rw [if_neg c1] at h
 have b2 : x = false := eq_false_of_ne_true c1
 refine N_env [(0, vp s), (1, vi gen), (2, vi kind), (3, vi nv), (18, .bool false)] (by rw [b2]) ?_
 clear b2
 refine T_n 3 [(0, vp s), (1, vi gen), (2, vi kind), (3, vi nv), (18, .bool false), (19, vi gen), (20, vi kind), (21, vi nv)] ?_
 refine T_c (some 22) h ?_; clear h
 rintro y H2 ⟨j, rfl, h⟩
 refine ⟨[(0, vp s), (1, vi gen), (2, vi kind), (3, vi nv), (18, .bool false), (22, .bool j)], pk, ?_⟩
 refine T_ne 2 [(0, vp s), (1, vi gen), (2, vi kind), (3, vi nv), (24, .bool (!j))] ?_
 by_cases c3 : j = true
 ·rw [if_pos c3] at h
  have b4 : (!j) = false := congrArg Bool.not (c3)
  refine T_cF 24 K7 K8 b4 ?_
  refine T_kt ?_
  refine T_s K11 K12 ?_
  refine T_sr 3 K13 K14 ?_
  refine T_n 3 [(0, vp s), (1, vi gen), (2, vi kind), (3, vi nv), (26, vp s), (27, vi gen), (28, vi kind)] ?_
  refine T_c (some 29) h ?_; clear h
  rintro z H3 ⟨ra, rb, rfl, h⟩
  refine ⟨[(0, vp s), (1, vi gen), (2, vi kind), (3, vi nv), (29, .tuple #[vi ra, .bool rb])], pk, ?_⟩
  refine T_ne 5 [(0, vp s), (1, vi gen), (2, vi kind), (3, vi nv), (10, vi ra), (11, .bool rb)] ?_
  refine T_sr 4 K15 K16 ?_
  refine T_ne 1 [(0, vp s), (1, vi gen), (2, vi kind), (3, vi nv), (10, vi ra), (32, .bool rb)] ?_
  obtain ⟨J, h, j6⟩ := h
  refine S_join (σ := Unit) (fun s_ => [(0, vp s), (1, vi gen), (2, vi kind), (3, vi nv)]) (fun s_ H => J  H) ?_ ?_
  ·rintro _ H4 j7
   replace h := j6 H4 j7
   refine T_su [(0, vp s), (1, vi gen), (2, vi kind), (3, vi nv)] ?_
   refine S_then ?_
   refine T_sr 8 K19 K20 ?_
   refine T_n 1 [(0, vp s), (1, vi gen), (2, vi kind), (3, vi nv), (47, vp s)] ?_
   obtain ⟨sA, rfl, h⟩ := h
   refine T_n 2 [(0, vp (some sA)), (1, vi gen), (2, vi kind), (3, vi nv), (49, vp (some sA))] ?_
   obtain ⟨o, q8, h⟩ := h
   refine T_l (some 50) 55 q8 [(0, vp (some sA)), (1, vi gen), (2, vi kind), (3, vi nv), (50, vp o)] ?_
   refine T_n 2 [(0, vp (some sA)), (1, vi gen), (2, vi kind), (3, vi nv), (50, vp o), (51, vi gen), (52, vi kind)] ?_
   refine T_c (some 53) h ?_; clear h
   rintro u H5 ⟨b, d, rfl, h⟩
   refine ⟨[(0, vp (some sA)), (1, vi gen), (2, vi kind), (3, vi nv), (53, .tuple #[vi b, vi d])], pk, ?_⟩
   refine T_ne 5 [(0, vp (some sA)), (1, vi gen), (2, vi kind), (3, vi nv), (14, vi b), (15, vi d)] ?_
   refine T_s K21 K22 ?_
   refine T_sr 9 K23 K24 ?_
   refine T_ne 2 [(0, vp (some sA)), (1, vi gen), (2, vi kind), (3, vi nv), (14, vi b), (15, vi d), (57, .bool (d != 0))] ?_
   by_cases c9 : d = 0
   ·rw [if_pos c9] at h
    have b10 : (d != 0) = false := bne_eq_false_iff_eq.mpr c9
    refine T_cF 57 K25 K26 b10 ?_
    refine T_kt ?_
    refine T_sr 11 K27 K28 ?_
    refine T_n 7 [(0, vp (some sA)), (3, vi nv), (14, vi b), (60, vi gen), (61, vi kind), (63, vi (IntKind.wrap .i64 (b + 1))), (65, vp (some (sA.add 1)))] ?_
    obtain ⟨q11, h⟩ := h
    refine T_v (some 66) (indexAtN 57 (vp (some (sA.add 1))) (vi gen)) (vp (some ((sA.add 1).add (Int.toNat gen * 4)))) (fun w _ => indexArr_run (P := Tryz.prog) (t := 57) (elem := 56) (sz := 4) (n := 5) (a := (sA.add 1)) (k := .i64) (i := gen) Tryz.underlying57 (fun _=>by kernel_rfl) q11.1 q11.2 w) [(0, vp (some sA)), (3, vi nv), (14, vi b), (61, vi kind), (63, vi (IntKind.wrap .i64 (b + 1))), (66, vp (some ((sA.add 1).add (Int.toNat gen * 4))))] ?_
    obtain ⟨q12, h⟩ := h
    refine T_v (some 67) (indexAtN 56 (vp (some ((sA.add 1).add (Int.toNat gen * 4)))) (vi kind)) (vp (some (((sA.add 1).add (Int.toNat gen * 4)).add (Int.toNat kind * 1)))) (fun w _ => indexArr_run (P := Tryz.prog) (t := 56) (elem := 3) (sz := 1) (n := 4) (a := ((sA.add 1).add (Int.toNat gen * 4))) (k := .i64) (i := kind) Tryz.underlying56 (fun _=>by kernel_rfl) q12.1 q12.2 w) [(0, vp (some sA)), (3, vi nv), (14, vi b), (63, vi (IntKind.wrap .i64 (b + 1))), (67, vp (some (((sA.add 1).add (Int.toNat gen * 4)).add (Int.toNat kind * 1))))] ?_
    obtain ⟨q14, h⟩ := h
    refine N_skipop none (storeN 3 (vp (some (((sA.add 1).add (Int.toNat gen * 4)).add (Int.toNat kind * 1)))) (vi (IntKind.wrap .i64 (b + 1)))) (fun Hz => Hz = hputs H5 (((sA.add 1).add (Int.toNat gen * 4)).add (Int.toNat kind * 1)) [vi (IntKind.wrap .i64 (b + 1))] 0) (fun _=>by kernel_rfl) (ss_store [vi (IntKind.wrap .i64 (b + 1))] 1 (by kernel_rfl) (by kernel_rfl) (fun _=>by kernel_rfl) (by kernel_rfl) q14) ?_
    intro H6 e13
    replace h := h H6 e13
    refine ⟨[(0, vp (some sA)), (3, vi nv), (14, vi b)], pk, ?_⟩
    refine T_e ?_
    refine T_sr 12 K29 K30 ?_
    refine T_n 3 [(3, vi nv), (14, vi b), (70, vp (some sA))] ?_
    obtain ⟨p, q15, h⟩ := h
    refine T_l (some 71) 55 q15 [(3, vi nv), (14, vi b), (71, vp p)] ?_
    refine T_n 2 [(71, vp p), (72, vi b), (73, vi nv)] ?_
    refine T_c (some 74) h ?_; clear h
    rintro aa H7 ⟨l, m, rfl, h⟩
    refine ⟨[(74, .tuple #[vi l, vi m])], pk, ?_⟩
    refine T_ne 4 [(8, vi l), (9, vi m)] ?_
    exact T_ret [8, 9] [vi l, vi m] hQ h
   rw [if_neg c9] at h
   have b10 : (d != 0) = true := bne_iff_ne.mpr c9
   refine T_cT 57 K25 K26 b10 ?_
   refine T_sr 10 K31 K32 ?_
   refine T_ne 3 [(8, vi 0), (9, vi d)] ?_
   exact T_ret [8, 9] [vi 0, vi d] hQ h
  by_cases c16 : rb = true
  ·rw [if_pos c16] at h
   have b17 : rb = true := c16
   refine S_env [(0, vp s), (1, vi gen), (2, vi kind), (3, vi nv), (10, vi ra), (32, .bool true)] (by simp only [b17, Bool.not_true, Bool.not_false]) ?_
   clear b17
   refine T_t 32 K17 K18 ?_
   refine T_sr 5 K33 K34 ?_
   refine T_n 1 [(0, vp s), (1, vi gen), (2, vi kind), (3, vi nv), (10, vi ra), (34, vp s)] ?_
   obtain ⟨e, rfl, h⟩ := h
   refine T_n 2 [(0, vp (some e)), (1, vi gen), (2, vi kind), (3, vi nv), (10, vi ra), (36, vp (some e))] ?_
   obtain ⟨q, q18, h⟩ := h
   refine T_l (some 37) 55 q18 [(0, vp (some e)), (1, vi gen), (2, vi kind), (3, vi nv), (10, vi ra), (37, vp q)] ?_
   refine T_n 2 [(0, vp (some e)), (1, vi gen), (2, vi kind), (3, vi nv), (37, vp q), (38, vi ra), (39, vi nv)] ?_
   refine T_c (some 40) h ?_; clear h
   rintro r H8 ⟨f, g, rfl, h⟩
   refine ⟨[(0, vp (some e)), (1, vi gen), (2, vi kind), (3, vi nv), (40, .tuple #[vi f, vi g])], pk, ?_⟩
   refine T_ne 5 [(0, vp (some e)), (1, vi gen), (2, vi kind), (3, vi nv), (12, vi f), (13, vi g)] ?_
   refine T_sr 6 K35 K36 ?_
   refine T_ne 2 [(0, vp (some e)), (1, vi gen), (2, vi kind), (3, vi nv), (12, vi f), (44, .bool (g == 0))] ?_
   by_cases c19 : g = 0
   ·rw [if_pos c19] at h
    have b20 : (g == 0) = true := beq_iff_eq.mpr c19
    refine T_cT 44 K37 K38 b20 ?_
    refine T_sr 7 K39 K40 ?_
    refine T_ne 3 [(8, vi f), (9, vi 0)] ?_
    exact T_ret [8, 9] [vi f, vi 0] hQ h
   rw [if_neg c19] at h
   have b20 : (g == 0) = false := beq_eq_false_iff_ne.mpr c19
   refine T_cF 44 K37 K38 b20 ?_
   refine T_kt ?_
   exact S_meet (() : Unit) sk h
  rw [if_neg c16] at h
  have b17 : rb = false := eq_false_of_ne_true c16
  refine S_env [(0, vp s), (1, vi gen), (2, vi kind), (3, vi nv), (10, vi ra), (32, .bool false)] (by simp only [b17, Bool.not_true, Bool.not_false]) ?_
  clear b17
  refine T_f 32 K17 K18 ?_
  refine T_kt ?_
  exact S_meet (() : Unit) sk h
 rw [if_neg c3] at h
 have b4 : (!j) = true := congrArg Bool.not (eq_false_of_ne_true c3)
 refine T_cT 24 K7 K8 b4 ?_
 refine T_sr 2 K9 K10 ?_
 refine T_ne 2 [(8, vi 0), (9, vi 1)] ?_
 exact T_ret [8, 9] [vi 0, vi 1] hQ h
end space_Space_Alloc

/-! moraine/space.may -/
namespace space_may
def K0 := Func.code Tryz.f172
def K1 := ca K0
def K2 := cb K0
def K3 := ca K2
def K4 := cb K2
def K5 := ca K3
def K6 := ca K5
def K7 := cb K5
def K8 := ca K7
def K9 := cb K7
def K10 := ca K8
def K11 := cb K8
def K12 := ca K9
def K13 := cb K9
def K14 := ca K13
def K15 := cb K13
def K16 := ca K14
def K17 := cb K14
def K18 := ca K4
def K19 := cb K4
end space_may
def space_may.pt (gen : Int) (kind : Int) (nv : Int) (H : Array Obj) (R : Value → Array Obj → Prop) : Prop :=
 if ((decide (gen < 0)) || (decide (gen > 4))) = true then (
 R (.bool false) H)
 else
 if ((kind == 0) || (kind == 1)) = true then (
 R (.bool (nv == 2)) H)
 else
 R (.bool ((((kind == 2) || (kind == 3)) && (decide (nv ≥ 1))) && (decide (nv ≤ 63)))) H
namespace space_may
set_option maxRecDepth 100000 in
theorem link {gen : Int} {kind : Int} {nv : Int} {H : Array Obj} {R : Value → Array Obj → Prop} (h : pt gen kind nv H R) : C gen kind nv H R := by
 refine T_en K0 37 Tryz.func172 ?_
 intro w0 Q hQ
 unfold pt at h
 refine T_su [(0, vi gen), (1, vi kind), (2, vi nv)] ?_
 refine T_sr 0 K1 K2 ?_
 refine T_ne 1 [(0, vi gen), (1, vi kind), (2, vi nv)] ?_
 refine T_s K3 K4 ?_
 refine T_b 0 K5 ?_
 refine T_sr 1 K6 K7 ?_
 refine N_cut [(1, vi kind), (2, vi nv), (7, .bool ((decide (gen < 0)) || (decide (gen > 4))))] ?_ ?_
 ·refine S_then ?_
  by_cases c3 : ((decide (gen < 0)) || (decide (gen > 4))) = true
  ·rw [if_pos c3] at h
   have b4 : ((decide (gen < 0)) || (decide (gen > 4))) = true := c3
   refine T_cT 7 K8 K9 b4 ?_
   refine T_sr 2 K10 K11 ?_
   refine T_ne 1 [(6, .bool false)] ?_
   exact T_ret [6] [.bool false] hQ h
  rw [if_neg c3] at h
  have b4 : ((decide (gen < 0)) || (decide (gen > 4))) = false := eq_false_of_ne_true c3
  refine T_cF 7 K8 K9 b4 ?_
  refine T_sr 3 K12 K13 ?_
  refine N_cut [(1, vi kind), (2, vi nv), (14, .bool ((kind == 0) || (kind == 1)))] ?_ ?_
  ·refine S_then ?_
   by_cases c7 : ((kind == 0) || (kind == 1)) = true
   ·rw [if_pos c7] at h
    have b8 : ((kind == 0) || (kind == 1)) = true := c7
    refine T_cT 14 K14 K15 b8 ?_
    refine T_sr 4 K16 K17 ?_
    refine T_ne 3 [(6, .bool (nv == 2))] ?_
    exact T_ret [6] [.bool (nv == 2)] hQ h
   rw [if_neg c7] at h
   have b8 : ((kind == 0) || (kind == 1)) = false := eq_false_of_ne_true c7
   refine T_cF 14 K14 K15 b8 ?_
   refine T_k ?_
   refine S_blockEnd ?_
   refine S_then ?_
   refine T_sr 5 K18 K19 ?_
   refine N_cut [(6, .bool ((((kind == 2) || (kind == 3)) && (decide (nv ≥ 1))) && (decide (nv ≤ 63))))] ?_ ?_
   ·refine S_then ?_
    exact T_ret [6] [.bool ((((kind == 2) || (kind == 3)) && (decide (nv ≥ 1))) && (decide (nv ≤ 63)))] hQ h
   intro hk
   refine T_n 3 [(1, vi kind), (2, vi nv), (25, .bool (kind == 2))] ?_
   by_cases c9 : kind = 2
   ·have b10 : (kind == 2) = true := beq_iff_eq.mpr c9
    refine N_env [(1, vi kind), (2, vi nv), (25, .bool true)] (by rw [b10]) ?_
    refine T_n 8 [(2, vi nv), (33, .bool (decide (nv ≥ 1)))] ?_
    by_cases c11 : nv ≥ 1
    ·have b12 : (decide (nv ≥ 1)) = true := decide_eq_true c11
     refine N_env [(2, vi nv), (33, .bool true)] (by rw [b12]) ?_
     refine T_n 4 [(6, .bool (decide (nv ≤ 63)))] ?_
     refine N_end (by kernel_rfl) ?_
     refine S_env [(6, .bool ((((kind == 2) || (kind == 3)) && (decide (nv ≥ 1))) && (decide (nv ≤ 63))))] (by simp only [b10, b12, BL]) ?_
     exact hk
    have b12 : (decide (nv ≥ 1)) = false := decide_eq_false c11
    refine N_env [(2, vi nv), (33, .bool false)] (by rw [b12]) ?_
    refine T_n 4 [(6, .bool false)] ?_
    refine N_end (by kernel_rfl) ?_
    refine S_env [(6, .bool ((((kind == 2) || (kind == 3)) && (decide (nv ≥ 1))) && (decide (nv ≤ 63))))] (by simp only [b10, b12, BL]) ?_
    exact hk
   have b10 : (kind == 2) = false := beq_eq_false_iff_ne.mpr c9
   refine N_env [(1, vi kind), (2, vi nv), (25, .bool false)] (by rw [b10]) ?_
   refine T_n 4 [(2, vi nv), (29, .bool (kind == 3))] ?_
   by_cases c13 : kind = 3
   ·have b14 : (kind == 3) = true := beq_iff_eq.mpr c13
    refine N_env [(2, vi nv), (29, .bool true)] (by rw [b14]) ?_
    refine T_n 4 [(2, vi nv), (33, .bool (decide (nv ≥ 1)))] ?_
    by_cases c15 : nv ≥ 1
    ·have b16 : (decide (nv ≥ 1)) = true := decide_eq_true c15
     refine N_env [(2, vi nv), (33, .bool true)] (by rw [b16]) ?_
     refine T_n 4 [(6, .bool (decide (nv ≤ 63)))] ?_
     refine N_end (by kernel_rfl) ?_
     refine S_env [(6, .bool ((((kind == 2) || (kind == 3)) && (decide (nv ≥ 1))) && (decide (nv ≤ 63))))] (by simp only [b10, b14, b16, BL]) ?_
     exact hk
    have b16 : (decide (nv ≥ 1)) = false := decide_eq_false c15
    refine N_env [(2, vi nv), (33, .bool false)] (by rw [b16]) ?_
    refine T_n 4 [(6, .bool false)] ?_
    refine N_end (by kernel_rfl) ?_
    refine S_env [(6, .bool ((((kind == 2) || (kind == 3)) && (decide (nv ≥ 1))) && (decide (nv ≤ 63))))] (by simp only [b10, b14, b16, BL]) ?_
    exact hk
   have b14 : (kind == 3) = false := beq_eq_false_iff_ne.mpr c13
   refine N_env [(2, vi nv), (29, .bool false)] (by rw [b14]) ?_
   refine T_n 8 [(6, .bool false)] ?_
   refine N_end (by kernel_rfl) ?_
   refine S_env [(6, .bool ((((kind == 2) || (kind == 3)) && (decide (nv ≥ 1))) && (decide (nv ≤ 63))))] (by simp only [b10, b14, BL]) ?_
   exact hk
  intro hk
  refine T_n 3 [(1, vi kind), (2, vi nv), (17, .bool (kind == 0))] ?_
  by_cases c5 : kind = 0
  ·have b6 : (kind == 0) = true := beq_iff_eq.mpr c5
   refine N_env [(1, vi kind), (2, vi nv), (17, .bool true)] (by rw [b6]) ?_
   refine T_n 4 [(1, vi kind), (2, vi nv), (14, .bool true)] ?_
   refine N_end (by kernel_rfl) ?_
   refine S_env [(1, vi kind), (2, vi nv), (14, .bool ((kind == 0) || (kind == 1)))] (by simp only [b6, BL]) ?_
   exact hk
  have b6 : (kind == 0) = false := beq_eq_false_iff_ne.mpr c5
  refine N_env [(1, vi kind), (2, vi nv), (17, .bool false)] (by rw [b6]) ?_
  refine T_n 4 [(1, vi kind), (2, vi nv), (14, .bool (kind == 1))] ?_
  refine N_end (by kernel_rfl) ?_
  refine S_env [(1, vi kind), (2, vi nv), (14, .bool ((kind == 0) || (kind == 1)))] (by simp only [b6, BL]) ?_
  exact hk
 intro hk
 refine T_n 3 [(0, vi gen), (1, vi kind), (2, vi nv), (10, .bool (decide (gen < 0)))] ?_
 by_cases c1 : gen < 0
 ·have b2 : (decide (gen < 0)) = true := decide_eq_true c1
  refine N_env [(0, vi gen), (1, vi kind), (2, vi nv), (10, .bool true)] (by rw [b2]) ?_
  refine T_n 4 [(1, vi kind), (2, vi nv), (7, .bool true)] ?_
  refine N_end (by kernel_rfl) ?_
  refine S_env [(1, vi kind), (2, vi nv), (7, .bool ((decide (gen < 0)) || (decide (gen > 4))))] (by simp only [b2, BL]) ?_
  exact hk
 have b2 : (decide (gen < 0)) = false := decide_eq_false c1
 refine N_env [(0, vi gen), (1, vi kind), (2, vi nv), (10, .bool false)] (by rw [b2]) ?_
 refine T_n 4 [(1, vi kind), (2, vi nv), (7, .bool (decide (gen > 4)))] ?_
 refine N_end (by kernel_rfl) ?_
 refine S_env [(1, vi kind), (2, vi nv), (7, .bool ((decide (gen < 0)) || (decide (gen > 4))))] (by simp only [b2, BL]) ?_
 exact hk
end space_may

/-! (*moraine/space.Space).Current -/
namespace space_Space_Current
def K0 := Func.code Tryz.f173
def K1 := ca K0
def K2 := cb K0
def K3 := ca K2
def K4 := cb K2
def K5 := ca K3
def K6 := cb K3
def K7 := ca K6
def K8 := cb K6
def K9 := ca K7
def K10 := cb K7
def K11 := ca K4
def K12 := cb K4
end space_Space_Current
def space_Space_Current.pt (s : Option Addr) (gen : Int) (kind : Int) (H : Array Obj) (R : Value → Array Obj → Prop) : Prop :=
 onPtr s (
 R (.tuple #[.int .i64 0, .bool false]) H) (fun sA =>
 if gen < 0 then (
 R (.tuple #[.int .i64 0, .bool false]) H)
 else
 if gen > 4 then (
 R (.tuple #[.int .i64 0, .bool false]) H)
 else
 if kind < 0 then (
 R (.tuple #[.int .i64 0, .bool false]) H)
 else
 if kind > 3 then (
 R (.tuple #[.int .i64 0, .bool false]) H)
 else
 ((0 : Int) ≤ gen ∧ gen < (5 : Int)) ∧
 ((0 : Int) ≤ kind ∧ kind < (4 : Int)) ∧
 ∃ x : Int, hat H (((sA.add 1).add (Int.toNat gen * 4)).add (Int.toNat kind * 1)) = some (.int .i64 x) ∧
 if x = 0 then (
 R (.tuple #[.int .i64 0, .bool false]) H)
 else
 ((0 : Int) ≤ gen ∧ gen < (5 : Int)) ∧
 ((0 : Int) ≤ kind ∧ kind < (4 : Int)) ∧
 ∃ b : Int, hat H (((sA.add 1).add (Int.toNat gen * 4)).add (Int.toNat kind * 1)) = some (.int .i64 b) ∧
 R (.tuple #[.int .i64 (IntKind.wrap .i64 (b - 1)), .bool true]) H)
namespace space_Space_Current
set_option maxRecDepth 100000 in
theorem link {s : Option Addr} {gen : Int} {kind : Int} {H : Array Obj} {R : Value → Array Obj → Prop} (h : pt s gen kind H R) : C s gen kind H R := by
 refine T_en K0 46 Tryz.func173 ?_
 intro w0 Q hQ
 unfold pt at h
 refine T_su [(0, vp s), (1, vi gen), (2, vi kind)] ?_
 refine T_sr 0 K1 K2 ?_
 refine T_ne 2 [(0, vp s), (1, vi gen), (2, vi kind)] ?_
 refine T_s K3 K4 ?_
 refine T_sr 1 K5 K6 ?_
 refine T_n 1 [(0, vp s), (1, vi gen), (2, vi kind), (8, vp s)] ?_
 rcases s with _ | sA
 ·rw [onPtr_none] at h
  refine T_ne 28 [(0, vp none), (1, vi gen), (2, vi kind), (36, .bool true)] ?_
  refine T_t 36 K7 K8 ?_
  refine T_sr 2 K9 K10 ?_
  refine T_ne 2 [(6, vi 0), (7, .bool false)] ?_
  exact T_ret [6, 7] [vi 0, .bool false] hQ h
 rw [onPtr_some] at h
 refine T_n 6 [(0, vp (some sA)), (1, vi gen), (2, vi kind), (14, .bool (decide (gen < 0)))] ?_
 by_cases c1 : gen < 0
 ·rw [if_pos c1] at h
  have b2 : (decide (gen < 0)) = true := decide_eq_true c1
  refine N_env [(0, vp (some sA)), (1, vi gen), (2, vi kind), (14, .bool true)] (by rw [b2]) ?_
  clear b2
  refine T_ne 22 [(0, vp (some sA)), (1, vi gen), (2, vi kind), (36, .bool true)] ?_
  refine T_t 36 K7 K8 ?_
  refine T_sr 2 K9 K10 ?_
  refine T_ne 2 [(6, vi 0), (7, .bool false)] ?_
  exact T_ret [6, 7] [vi 0, .bool false] hQ h
 rw [if_neg c1] at h
 have b2 : (decide (gen < 0)) = false := decide_eq_false c1
 refine N_env [(0, vp (some sA)), (1, vi gen), (2, vi kind), (14, .bool false)] (by rw [b2]) ?_
 clear b2
 refine T_n 4 [(0, vp (some sA)), (1, vi gen), (2, vi kind), (18, .bool (decide (gen > 4)))] ?_
 by_cases c3 : gen > 4
 ·rw [if_pos c3] at h
  have b4 : (decide (gen > 4)) = true := decide_eq_true c3
  refine N_env [(0, vp (some sA)), (1, vi gen), (2, vi kind), (18, .bool true)] (by rw [b4]) ?_
  clear b4
  refine T_ne 18 [(0, vp (some sA)), (1, vi gen), (2, vi kind), (36, .bool true)] ?_
  refine T_t 36 K7 K8 ?_
  refine T_sr 2 K9 K10 ?_
  refine T_ne 2 [(6, vi 0), (7, .bool false)] ?_
  exact T_ret [6, 7] [vi 0, .bool false] hQ h
 rw [if_neg c3] at h
 have b4 : (decide (gen > 4)) = false := decide_eq_false c3
 refine N_env [(0, vp (some sA)), (1, vi gen), (2, vi kind), (18, .bool false)] (by rw [b4]) ?_
 clear b4
 refine T_n 4 [(0, vp (some sA)), (1, vi gen), (2, vi kind), (22, .bool (decide (kind < 0)))] ?_
 by_cases c5 : kind < 0
 ·rw [if_pos c5] at h
  have b6 : (decide (kind < 0)) = true := decide_eq_true c5
  refine N_env [(0, vp (some sA)), (1, vi gen), (2, vi kind), (22, .bool true)] (by rw [b6]) ?_
  clear b6
  refine T_ne 14 [(0, vp (some sA)), (1, vi gen), (2, vi kind), (36, .bool true)] ?_
  refine T_t 36 K7 K8 ?_
  refine T_sr 2 K9 K10 ?_
  refine T_ne 2 [(6, vi 0), (7, .bool false)] ?_
  exact T_ret [6, 7] [vi 0, .bool false] hQ h
 rw [if_neg c5] at h
 have b6 : (decide (kind < 0)) = false := decide_eq_false c5
 refine N_env [(0, vp (some sA)), (1, vi gen), (2, vi kind), (22, .bool false)] (by rw [b6]) ?_
 clear b6
 refine T_n 4 [(0, vp (some sA)), (1, vi gen), (2, vi kind), (26, .bool (decide (kind > 3)))] ?_
 by_cases c7 : kind > 3
 ·rw [if_pos c7] at h
  have b8 : (decide (kind > 3)) = true := decide_eq_true c7
  refine N_env [(0, vp (some sA)), (1, vi gen), (2, vi kind), (26, .bool true)] (by rw [b8]) ?_
  clear b8
  refine T_ne 10 [(0, vp (some sA)), (1, vi gen), (2, vi kind), (36, .bool true)] ?_
  refine T_t 36 K7 K8 ?_
  refine T_sr 2 K9 K10 ?_
  refine T_ne 2 [(6, vi 0), (7, .bool false)] ?_
  exact T_ret [6, 7] [vi 0, .bool false] hQ h
 rw [if_neg c7] at h
 have b8 : (decide (kind > 3)) = false := decide_eq_false c7
 refine N_env [(0, vp (some sA)), (1, vi gen), (2, vi kind), (26, .bool false)] (by rw [b8]) ?_
 clear b8
 refine T_n 5 [(0, vp (some sA)), (1, vi gen), (2, vi kind), (26, .bool false), (28, vi gen), (29, vi kind), (31, vp (some (sA.add 1)))] ?_
 obtain ⟨q9, h⟩ := h
 refine T_v (some 32) (indexAtN 57 (vp (some (sA.add 1))) (vi gen)) (vp (some ((sA.add 1).add (Int.toNat gen * 4)))) (fun w _ => indexArr_run (P := Tryz.prog) (t := 57) (elem := 56) (sz := 4) (n := 5) (a := (sA.add 1)) (k := .i64) (i := gen) Tryz.underlying57 (fun _=>by kernel_rfl) q9.1 q9.2 w) [(0, vp (some sA)), (1, vi gen), (2, vi kind), (26, .bool false), (29, vi kind), (32, vp (some ((sA.add 1).add (Int.toNat gen * 4))))] ?_
 obtain ⟨q10, h⟩ := h
 refine T_v (some 33) (indexAtN 56 (vp (some ((sA.add 1).add (Int.toNat gen * 4)))) (vi kind)) (vp (some (((sA.add 1).add (Int.toNat gen * 4)).add (Int.toNat kind * 1)))) (fun w _ => indexArr_run (P := Tryz.prog) (t := 56) (elem := 3) (sz := 1) (n := 4) (a := ((sA.add 1).add (Int.toNat gen * 4))) (k := .i64) (i := kind) Tryz.underlying56 (fun _=>by kernel_rfl) q10.1 q10.2 w) [(0, vp (some sA)), (1, vi gen), (2, vi kind), (26, .bool false), (33, vp (some (((sA.add 1).add (Int.toNat gen * 4)).add (Int.toNat kind * 1))))] ?_
 obtain ⟨x, q11, h⟩ := h
 refine T_l (some 34) 3 q11 [(0, vp (some sA)), (1, vi gen), (2, vi kind), (26, .bool false), (34, vi x)] ?_
 refine T_ne 2 [(0, vp (some sA)), (1, vi gen), (2, vi kind), (36, .bool (x == 0))] ?_
 by_cases c12 : x = 0
 ·rw [if_pos c12] at h
  have b13 : (x == 0) = true := beq_iff_eq.mpr c12
  refine T_cT 36 K7 K8 b13 ?_
  refine T_sr 2 K9 K10 ?_
  refine T_ne 2 [(6, vi 0), (7, .bool false)] ?_
  exact T_ret [6, 7] [vi 0, .bool false] hQ h
 rw [if_neg c12] at h
 have b13 : (x == 0) = false := beq_eq_false_iff_ne.mpr c12
 refine T_cF 36 K7 K8 b13 ?_
 refine T_kt ?_
 refine T_sr 3 K11 K12 ?_
 refine T_n 5 [(38, vi gen), (39, vi kind), (41, vp (some (sA.add 1)))] ?_
 obtain ⟨q14, h⟩ := h
 refine T_v (some 42) (indexAtN 57 (vp (some (sA.add 1))) (vi gen)) (vp (some ((sA.add 1).add (Int.toNat gen * 4)))) (fun w _ => indexArr_run (P := Tryz.prog) (t := 57) (elem := 56) (sz := 4) (n := 5) (a := (sA.add 1)) (k := .i64) (i := gen) Tryz.underlying57 (fun _=>by kernel_rfl) q14.1 q14.2 w) [(39, vi kind), (42, vp (some ((sA.add 1).add (Int.toNat gen * 4))))] ?_
 obtain ⟨q15, h⟩ := h
 refine T_v (some 43) (indexAtN 56 (vp (some ((sA.add 1).add (Int.toNat gen * 4)))) (vi kind)) (vp (some (((sA.add 1).add (Int.toNat gen * 4)).add (Int.toNat kind * 1)))) (fun w _ => indexArr_run (P := Tryz.prog) (t := 56) (elem := 3) (sz := 1) (n := 4) (a := ((sA.add 1).add (Int.toNat gen * 4))) (k := .i64) (i := kind) Tryz.underlying56 (fun _=>by kernel_rfl) q15.1 q15.2 w) [(43, vp (some (((sA.add 1).add (Int.toNat gen * 4)).add (Int.toNat kind * 1))))] ?_
 obtain ⟨b, q16, h⟩ := h
 refine T_l (some 44) 3 q16 [(44, vi b)] ?_
 refine T_ne 3 [(6, vi (IntKind.wrap .i64 (b - 1))), (7, .bool true)] ?_
 exact T_ret [6, 7] [vi (IntKind.wrap .i64 (b - 1)), .bool true] hQ h
end space_Space_Current

end Go.Proofs.YthlohokmnajpoaaGreatDoor
