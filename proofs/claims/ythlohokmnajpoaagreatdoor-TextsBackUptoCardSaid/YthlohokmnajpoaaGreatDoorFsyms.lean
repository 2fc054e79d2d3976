/- Printed: what each function asks, and that it is sound. -/
import Derived.Test.YthlohokmnajpoaaGreatDoorFnsC
set_option linter.unusedSimpArgs false
set_option linter.unusedVariables false
set_option maxHeartbeats 1000000
noncomputable section
namespace Go.Proofs.YthlohokmnajpoaaGreatDoor
open Go
/-! moraine/syms.Intern -/
namespace syms_Intern
def K0 := Func.code Tryz.f40
def K1 := ca K0
def K2 := cb K0
def K3 := ca K2
def K4 := cb K2
def K5 := ca K3
def K6 := ca K5
def K7 := cb K5
def K8 := ca K7
def K9 := cb K7
def K10 := ca K8
def K11 := cb K8
def K12 := ca K9
def K13 := cb K9
def K14 := ca K13
def K15 := cb K13
def K16 := ca K14
def K17 := cb K14
def K18 := ca K4
def K19 := cb K4
def K20 := ca K18
def K21 := cb K18
def K22 := ca K21
def K23 := cb K21
def K24 := ca K23
def K25 := cb K23
def K26 := ca K24
def K27 := cb K24
def K28 := ca K19
def K29 := cb K19
def K30 := ca K28
def K31 := cb K28
def K32 := ca K31
def K33 := cb K31
def K34 := ca K32
def K35 := cb K32
def K36 := ca K29
def K37 := cb K29
def K38 := ca K37
def K39 := cb K37
def K40 := ca K38
def K41 := cb K38
def K42 := ca K41
def K43 := cb K41
def K44 := ca K39
def K45 := cb K39
def K46 := ca K45
def K47 := cb K45
def K48 := ca K46
def K49 := cb K46
def K50 := ca K49
def K51 := cb K49
def K52 := ca K47
def K53 := cb K47
def K54 := ca K42
def K55 := cb K42
end syms_Intern
def syms_Intern.pt (hv : Option Addr) (name : ByteArray) (H : Array Obj) (R : Value → Array Obj → Prop) : Prop :=
 if name.toList = (ByteArray.mk #[]).toList then (
 R (.tuple #[.int .u64 0, .int .i64 1]) H)
 else
 unicode_utf8_ValidString.C name H (fun v H1 => ∃ x : Bool, v = .bool x ∧ 
 if x = true then (
 unicode_utf8_RuneCountInString.C name H1 (fun m H2 => ∃ i : Int, m = .int .i64 i ∧ 
 if i > 62 then (
 R (.tuple #[.int .u64 0, .int .i64 6]) H2)
 else
 syms_Find.C hv name H2 (fun n H3 => ∃ ra : Int, ∃ rb : Bool, n = .tuple #[.int .u64 ra, .bool rb] ∧ 
 if rb = true then (
 R (.tuple #[.int .u64 ra, .int .i64 0]) H3)
 else
 onPtr hv (
 R (.tuple #[.int .u64 0, .int .i64 2]) H3) (fun a =>
 obj_Heap_String.C (some a) name H3 (fun l H4 => ∃ g : Int, ∃ f : Int, l = .tuple #[.int .u64 g, .int .i64 f] ∧ 
 if f = 0 then (
 ∀ (b : Nat) (H5 : Array Obj), b = H4.size → H5 = H4.push (.cells #[.int .u64 g] 35) →
 obj_Heap_Make.C (some a) 4 0 (some (Addr.mk b 0 none)) 1 1 H5 (fun o H6 => ∃ e : Int, ∃ d : Int, o = .tuple #[.int .u64 e, .int .i64 d] ∧ 
 if d = 0 then (
 ∃ xB : Option Addr, ∃ xN : Nat, ∃ xC : Nat, hat H6 (a.add 1) = some (.slice xB xN xC) ∧
 ∀ (k : Nat) (H7 : Array Obj), k = H6.size → H7 = H6.push (.cells #[.int .u64 e] 35) →
 appendK 1 35 8 [.int .u64 0] xB xN xC (some (Addr.mk k 0 none)) 1 H7 (fun ap j H8 =>
 (CanPuts H8 (a.add 1) 0 1) ∧ ∀ H9 : Array Obj, H9 = hputs H8 (a.add 1) [.slice ap (xN + 1) j] 0 →
 R (.tuple #[.int .u64 e, .int .i64 d]) H9))
 else
 R (.tuple #[.int .u64 e, .int .i64 d]) H6))
 else
 R (.tuple #[.int .u64 0, .int .i64 f]) H4)))))
 else
 R (.tuple #[.int .u64 0, .int .i64 1]) H1)
namespace syms_Intern
set_option maxRecDepth 100000 in
theorem link {hv : Option Addr} {name : ByteArray} {H : Array Obj} {R : Value → Array Obj → Prop} (h : pt hv name H R) : C hv name H R := by
 refine T_en K0 63 Tryz.func40 ?_
 intro w0 Q hQ
 unfold pt at h
 refine T_su [(0, vp hv), (1, .string name)] ?_
 refine T_sr 0 K1 K2 ?_
 refine T_ne 2 [(0, vp hv), (1, .string name)] ?_
 refine T_s K3 K4 ?_
 refine T_b 0 K5 ?_
 refine T_sr 1 K6 K7 ?_
 refine T_n 3 [(0, vp hv), (1, .string name), (14, .bool (name.toList == (ByteArray.mk #[]).toList))] ?_
 by_cases c1 : name.toList = (ByteArray.mk #[]).toList
 ·rw [if_pos c1] at h
  have b2 : (name.toList == (ByteArray.mk #[]).toList) = true := beq_iff_eq.mpr c1
  refine N_env [(0, vp hv), (1, .string name), (14, .bool true)] (by rw [b2]) ?_
  clear b2
  refine T_ne 5 [(0, vp hv), (1, .string name), (11, .bool true)] ?_
  refine T_t 11 K8 K9 ?_
  refine T_sr 2 K10 K11 ?_
  refine T_ne 2 [(4, vu 0), (5, vi 1)] ?_
  exact T_ret [4, 5] [vu 0, vi 1] hQ h
 rw [if_neg c1] at h
 have b2 : (name.toList == (ByteArray.mk #[]).toList) = false := beq_eq_false_iff_ne.mpr c1
 refine N_env [(0, vp hv), (1, .string name), (14, .bool false)] (by rw [b2]) ?_
 clear b2
 refine T_n 1 [(0, vp hv), (1, .string name), (14, .bool false), (15, .string name)] ?_
 refine T_c (some 16) h ?_; clear h
 rintro v H1 ⟨x, rfl, h⟩
 refine ⟨[(0, vp hv), (1, .string name), (14, .bool false), (16, .bool x)], pk, ?_⟩
 refine T_ne 3 [(0, vp hv), (1, .string name), (11, .bool (!x))] ?_
 by_cases c3 : x = true
 ·rw [if_pos c3] at h
  have b4 : (!x) = false := congrArg Bool.not (c3)
  refine T_cF 11 K8 K9 b4 ?_
  refine T_sr 3 K12 K13 ?_
  refine T_n 1 [(0, vp hv), (1, .string name), (20, .string name)] ?_
  refine T_c (some 21) h ?_; clear h
  rintro m H2 ⟨i, rfl, h⟩
  refine ⟨[(0, vp hv), (1, .string name), (21, vi i)], pk, ?_⟩
  refine T_ne 2 [(0, vp hv), (1, .string name), (19, .bool (decide (i > 62)))] ?_
  by_cases c5 : i > 62
  ·rw [if_pos c5] at h
   have b6 : (decide (i > 62)) = true := decide_eq_true c5
   refine T_cT 19 K14 K15 b6 ?_
   refine T_sr 4 K16 K17 ?_
   refine T_ne 2 [(4, vu 0), (5, vi 6)] ?_
   exact T_ret [4, 5] [vu 0, vi 6] hQ h
  rw [if_neg c5] at h
  have b6 : (decide (i > 62)) = false := decide_eq_false c5
  refine T_cF 19 K14 K15 b6 ?_
  refine T_k ?_
  refine S_blockEnd ?_
  refine S_then ?_
  refine T_s K18 K19 ?_
  refine T_sr 5 K20 K21 ?_
  refine T_n 2 [(0, vp hv), (1, .string name), (24, vp hv), (25, .string name)] ?_
  refine T_c (some 26) h ?_; clear h
  rintro n H3 ⟨ra, rb, rfl, h⟩
  refine ⟨[(0, vp hv), (1, .string name), (26, .tuple #[vu ra, .bool rb])], pk, ?_⟩
  refine T_ne 5 [(0, vp hv), (1, .string name), (6, vu ra), (7, .bool rb)] ?_
  refine T_sr 6 K22 K23 ?_
  refine T_ne 1 [(0, vp hv), (1, .string name), (6, vu ra), (29, .bool rb)] ?_
  by_cases c7 : rb = true
  ·rw [if_pos c7] at h
   have b8 : rb = true := c7
   refine T_cT 29 K24 K25 b8 ?_
   refine T_sr 7 K26 K27 ?_
   refine T_ne 3 [(4, vu ra), (5, vi 0)] ?_
   exact T_ret [4, 5] [vu ra, vi 0] hQ h
  rw [if_neg c7] at h
  have b8 : rb = false := eq_false_of_ne_true c7
  refine T_cF 29 K24 K25 b8 ?_
  refine T_kt ?_
  refine T_s K28 K29 ?_
  refine T_sr 8 K30 K31 ?_
  refine T_n 1 [(0, vp hv), (1, .string name), (31, vp hv)] ?_
  rcases hv with _ | a
  ·rw [onPtr_none] at h
   refine T_ne 1 [(0, vp none), (1, .string name), (32, .bool true)] ?_
   refine T_t 32 K32 K33 ?_
   refine T_sr 9 K34 K35 ?_
   refine T_ne 2 [(4, vu 0), (5, vi 2)] ?_
   exact T_ret [4, 5] [vu 0, vi 2] hQ h
  rw [onPtr_some] at h
  refine T_ne 1 [(0, vp (some a)), (1, .string name), (32, .bool false)] ?_
  refine T_f 32 K32 K33 ?_
  refine T_kt ?_
  refine T_sr 10 K36 K37 ?_
  refine T_n 2 [(0, vp (some a)), (34, vp (some a)), (35, .string name)] ?_
  refine T_c (some 36) h ?_; clear h
  rintro l H4 ⟨g, f, rfl, h⟩
  refine ⟨[(0, vp (some a)), (36, .tuple #[vu g, vi f])], pk, ?_⟩
  refine T_ne 5 [(0, vp (some a)), (8, vu g), (9, vi f)] ?_
  refine T_s K38 K39 ?_
  refine T_sr 11 K40 K41 ?_
  refine T_ne 2 [(0, vp (some a)), (8, vu g), (9, vi f), (40, .bool (f != 0))] ?_
  by_cases c9 : f = 0
  ·rw [if_pos c9] at h
   have b10 : (f != 0) = false := bne_eq_false_iff_eq.mpr c9
   refine T_cF 40 K42 K43 b10 ?_
   refine T_kt ?_
   refine T_sr 13 K44 K45 ?_
   refine T_n 2 [(0, vp (some a)), (43, vp (some a)), (44, vu g)] ?_
   refine T_nw (some 45) (fun b => vs (pa b) 1 1) (.cells #[vu g] 35) ?_
   intro b H5 e11 e12
   replace h := h b H5 e11 e12
   refine ⟨[(0, vp (some a)), (43, vp (some a)), (45, vs (pa b) 1 1)], pk, ?_⟩
   refine T_c (some 46) h ?_; clear h
   rintro o H6 ⟨e, d, rfl, h⟩
   refine ⟨[(0, vp (some a)), (46, .tuple #[vu e, vi d])], pk, ?_⟩
   refine T_ne 5 [(0, vp (some a)), (9, vi d), (10, vu e)] ?_
   refine T_s K46 K47 ?_
   refine T_sr 14 K48 K49 ?_
   refine T_ne 2 [(0, vp (some a)), (9, vi d), (10, vu e), (50, .bool (d == 0))] ?_
   by_cases c13 : d = 0
   ·rw [if_pos c13] at h
    have b14 : (d == 0) = true := beq_iff_eq.mpr c13
    refine T_cT 50 K50 K51 b14 ?_
    refine T_r 15 K50 ?_
    refine T_n 4 [(9, vi d), (10, vu e), (51, vp (some a)), (54, vp (some (a.add 1)))] ?_
    obtain ⟨xB, xN, xC, q15, h⟩ := h
    refine T_l (some 55) 43 q15 [(9, vi d), (10, vu e), (51, vp (some a)), (55, vs xB xN xC)] ?_
    refine T_n 1 [(9, vi d), (10, vu e), (51, vp (some a)), (55, vs xB xN xC), (56, vu e)] ?_
    refine T_nw (some 57) (fun b => vs (pa b) 1 1) (.cells #[vu e] 35) ?_
    intro k H7 e16 e17
    replace h := h k H7 e16 e17
    refine ⟨[(9, vi d), (10, vu e), (51, vp (some a)), (55, vs xB xN xC), (57, vs (pa k) 1 1)], pk, ?_⟩
    refine N_op (some 58) (appendN #[43, 43] 43 #[vs xB xN xC, vs (pa k) 1 1]) _ (fun _=>by kernel_rfl) (ss_append (T := 35) (sz := 1) (bytes := 8) (zero := (vu 0 : Value)) Tryz.underlying43 Tryz.underlying43 rfl (show Tryz.prog.info? 35 = some Tryz.t35 from by kernel_rfl) (by kernel_rfl) (by kernel_rfl) (by decide) (by kernel_rfl) (by first | exact h | (simpa only [Value.cells, List.toList_toArray] using h))) ?_; clear h
    rintro _ H8 ⟨ap, j, rfl, h⟩
    refine ⟨[(9, vi d), (10, vu e), (51, vp (some a)), (58, vs ap (xN + 1) j)], pk, ?_⟩
    refine T_n 2 [(9, vi d), (10, vu e), (58, vs ap (xN + 1) j), (60, vp (some (a.add 1)))] ?_
    obtain ⟨q19, h⟩ := h
    refine N_skipop none (storeN 43 (vp (some (a.add 1))) (vs ap (xN + 1) j)) (fun Hz => Hz = hputs H8 (a.add 1) [vs ap (xN + 1) j] 0) (fun _=>by kernel_rfl) (ss_store [vs ap (xN + 1) j] 1 (by kernel_rfl) (by kernel_rfl) (fun _=>by kernel_rfl) (by kernel_rfl) q19) ?_
    intro H9 e18
    replace h := h H9 e18
    refine ⟨[(9, vi d), (10, vu e)], pk, ?_⟩
    refine T_e ?_
    refine T_sr 16 K52 K53 ?_
    refine T_ne 4 [(4, vu e), (5, vi d)] ?_
    exact T_ret [4, 5] [vu e, vi d] hQ h
   rw [if_neg c13] at h
   have b14 : (d == 0) = false := beq_eq_false_iff_ne.mpr c13
   refine T_cF 50 K50 K51 b14 ?_
   refine T_kt ?_
   refine T_sr 16 K52 K53 ?_
   refine T_ne 4 [(4, vu e), (5, vi d)] ?_
   exact T_ret [4, 5] [vu e, vi d] hQ h
  rw [if_neg c9] at h
  have b10 : (f != 0) = true := bne_iff_ne.mpr c9
  refine T_cT 40 K42 K43 b10 ?_
  refine T_sr 12 K54 K55 ?_
  refine T_ne 3 [(4, vu 0), (5, vi f)] ?_
  exact T_ret [4, 5] [vu 0, vi f] hQ h
 rw [if_neg c3] at h
 have b4 : (!x) = true := congrArg Bool.not (eq_false_of_ne_true c3)
 refine T_cT 11 K8 K9 b4 ?_
 refine T_sr 2 K10 K11 ?_
 refine T_ne 2 [(4, vu 0), (5, vi 1)] ?_
 exact T_ret [4, 5] [vu 0, vi 1] hQ h
end syms_Intern

/-! moraine/syms.Name -/
namespace syms_Name
def K0 := Func.code Tryz.f66
def K1 := ca K0
def K2 := cb K0
def K3 := ca K2
def K4 := cb K2
def K5 := ca K3
def K6 := cb K3
def K7 := ca K6
def K8 := cb K6
def K9 := ca K7
def K10 := cb K7
def K11 := ca K4
def K12 := cb K4
def K13 := ca K12
def K14 := cb K12
def K15 := ca K13
def K16 := cb K13
def K17 := ca K16
def K18 := cb K16
def K19 := ca K14
def K20 := cb K14
def K21 := ca K17
def K22 := cb K17
end syms_Name
def syms_Name.pt (hv : Option Addr) (wv : Int) (H : Array Obj) (R : Value → Array Obj → Prop) : Prop :=
 onPtr hv (
 R (.tuple #[.string (ByteArray.mk #[]), .int .i64 3]) H) (fun a =>
 obj_Heap_Get.C (some a) wv 4 0 H (fun v H1 => ∃ ra : Int, ∃ rb : Int, v = .tuple #[.int .u64 ra, .int .i64 rb] ∧ 
 if rb = 0 then (
 obj_Heap_Text.C (some a) ra H1 (fun e H2 => ∃ d : ByteArray, ∃ b : Int, e = .tuple #[.string d, .int .i64 b] ∧ 
 R (.tuple #[.string d, .int .i64 b]) H2))
 else
 R (.tuple #[.string (ByteArray.mk #[]), .int .i64 3]) H1))
namespace syms_Name
set_option maxRecDepth 100000 in
theorem link {hv : Option Addr} {wv : Int} {H : Array Obj} {R : Value → Array Obj → Prop} (h : pt hv wv H R) : C hv wv H R := by
 refine T_en K0 23 Tryz.func66 ?_
 intro w0 Q hQ
 unfold pt at h
 refine T_su [(0, vp hv), (1, vu wv)] ?_
 refine T_sr 0 K1 K2 ?_
 refine T_ne 2 [(0, vp hv), (1, vu wv)] ?_
 refine T_s K3 K4 ?_
 refine T_sr 1 K5 K6 ?_
 refine T_n 1 [(0, vp hv), (1, vu wv), (8, vp hv)] ?_
 rcases hv with _ | a
 ·rw [onPtr_none] at h
  refine T_ne 1 [(0, vp none), (1, vu wv), (9, .bool true)] ?_
  refine T_t 9 K7 K8 ?_
  refine T_sr 2 K9 K10 ?_
  refine T_ne 2 [(4, .string (ByteArray.mk #[])), (5, vi 3)] ?_
  exact T_ret [4, 5] [.string (ByteArray.mk #[]), vi 3] hQ h
 rw [onPtr_some] at h
 refine T_ne 1 [(0, vp (some a)), (1, vu wv), (9, .bool false)] ?_
 refine T_f 9 K7 K8 ?_
 refine T_kt ?_
 refine T_sr 3 K11 K12 ?_
 refine T_n 2 [(0, vp (some a)), (11, vp (some a)), (12, vu wv)] ?_
 refine T_c (some 13) h ?_; clear h
 rintro v H1 ⟨ra, rb, rfl, h⟩
 refine ⟨[(0, vp (some a)), (13, .tuple #[vu ra, vi rb])], pk, ?_⟩
 refine T_ne 5 [(0, vp (some a)), (6, vu ra), (7, vi rb)] ?_
 refine T_s K13 K14 ?_
 refine T_sr 4 K15 K16 ?_
 refine T_ne 2 [(0, vp (some a)), (6, vu ra), (17, .bool (rb != 0))] ?_
 by_cases c1 : rb = 0
 ·rw [if_pos c1] at h
  have b2 : (rb != 0) = false := bne_eq_false_iff_eq.mpr c1
  refine T_cF 17 K17 K18 b2 ?_
  refine T_kt ?_
  refine T_sr 6 K19 K20 ?_
  refine T_n 2 [(18, vp (some a)), (19, vu ra)] ?_
  refine T_c (some 20) h ?_; clear h
  rintro e H2 ⟨d, b, rfl, h⟩
  refine ⟨[(20, .tuple #[.string d, vi b])], pk, ?_⟩
  refine T_ne 4 [(4, .string d), (5, vi b)] ?_
  exact T_ret [4, 5] [.string d, vi b] hQ h
 rw [if_neg c1] at h
 have b2 : (rb != 0) = true := bne_iff_ne.mpr c1
 refine T_cT 17 K17 K18 b2 ?_
 refine T_sr 5 K21 K22 ?_
 refine T_ne 2 [(4, .string (ByteArray.mk #[])), (5, vi 3)] ?_
 exact T_ret [4, 5] [.string (ByteArray.mk #[]), vi 3] hQ h
end syms_Name

/-! moraine/syms.Find -/
namespace syms_Find
def K0 := Func.code Tryz.f85
def K1 := ca K0
def K2 := cb K0
def K3 := ca K2
def K4 := cb K2
def K5 := ca K3
def K6 := cb K3
def K7 := ca K6
def K8 := cb K6
def K9 := ca K7
def K10 := cb K7
def K11 := ca K4
def K12 := cb K4
def K13 := ca K11
def K14 := cb K11
def K15 := ca K14
def K16 := ca K15
def K17 := cb K15
def K18 := ca K16
def K19 := cb K16
def K20 := ca K17
def K21 := ca K20
def K22 := cb K20
def K23 := ca K22
def K24 := cb K22
def K25 := ca K23
def K26 := cb K23
def K27 := ca K12
def K28 := cb K12
end syms_Find
def syms_Find.pt (hv : Option Addr) (name : ByteArray) (H : Array Obj) (R : Value → Array Obj → Prop) : Prop :=
 ∀ (b : Nat) (H1 : Array Obj), b = H.size → H1 = H.push (.cells #[.string name] 9) →
 ∀ (d : Nat) (H2 : Array Obj), d = H1.size → H2 = H1.push (.cells #[.int .u64 0] 35) →
 ∀ (a : Nat) (H3 : Array Obj), a = H2.size → H3 = H2.push (.cells #[.bool false] 4) →
 onPtr hv (
 (CanPuts H3 (Addr.mk d 0 none) 0 1) ∧ ∀ H4 : Array Obj, H4 = hputs H3 (Addr.mk d 0 none) [.int .u64 0] 0 →
 (CanPuts H4 (Addr.mk a 0 none) 0 1) ∧ ∀ H5 : Array Obj, H5 = hputs H4 (Addr.mk a 0 none) [.bool false] 0 →
 ∃ r : Int, hat H5 (Addr.mk d 0 none) = some (.int .u64 r) ∧
 ∃ y : Bool, hat H5 (Addr.mk a 0 none) = some (.bool y) ∧
 R (.tuple #[.int .u64 r, .bool y]) H5) (fun l =>
 syms_named.C (some l) H3 (fun v H6 => v = v ∧ 
 ∀ (rc : LoopState → Option Code → Obj) (lp : Nat) (H7 : Array Obj), lp = H6.size + 1 → H7 = (H6.push (.deferred (some []))).push (rc .ready none) →
 ∀ vY : Value, (∀ (e : Int) (x_3 : ByteArray) (H8 : Array Obj) (vRy : Value → Array Obj → Prop), H8[lp]? = some (rc .ready none) →
 ( H8[lp]? = some (rc .ready none) ∧ ∀ H9 : Array Obj, H9 = setBlk H8 lp (rc .busy none) →
 ∃ i : ByteArray, hat H9 (Addr.mk b 0 none) = some (.string i) ∧
 if x_3.toList = i.toList then (
 (CanPuts H9 (Addr.mk d 0 none) 0 1) ∧ ∀ k : Array Obj, k = hputs H9 (Addr.mk d 0 none) [.int .u64 e] 0 →
 (CanPuts k (Addr.mk a 0 none) 0 1) ∧ ∀ n : Array Obj, n = hputs k (Addr.mk a 0 none) [.bool true] 0 →
 n[lp]? = some (rc .busy none) ∧
 vRy (.bool false) (setBlk n lp (rc .done (some .ret))))
 else
 H9[lp]? = some (rc .busy none) ∧
 vRy (.bool true) (setBlk H9 lp (rc .ready none))) →
 FC Tryz.prog vY #[.int .u64 e, .string x_3] H8 vRy) →
 FE Tryz.prog v #[vY] H7 (fun _ m =>
 (m[lp]? = some (rc .ready none) ∧ ∀ f : Array Obj, f = setBlk m lp (rc .exhausted none) →
 (CanPuts f (Addr.mk d 0 none) 0 1) ∧ ∀ j : Array Obj, j = hputs f (Addr.mk d 0 none) [.int .u64 0] 0 →
 (CanPuts j (Addr.mk a 0 none) 0 1) ∧ ∀ u : Array Obj, u = hputs j (Addr.mk a 0 none) [.bool false] 0 →
 Shut (H6.size :: []) u (fun x =>
 ∃ p : Int, hat x (Addr.mk d 0 none) = some (.int .u64 p) ∧
 ∃ t : Bool, hat x (Addr.mk a 0 none) = some (.bool t) ∧
 R (.tuple #[.int .u64 p, .bool t]) x)) ∨
 (m[lp]? = some (rc .done (some .ret)) ∧ ∀ f : Array Obj, f = setBlk m lp (rc .exhausted (some .ret)) →
 Shut (H6.size :: []) f (fun s =>
 ∃ o : Int, hat s (Addr.mk d 0 none) = some (.int .u64 o) ∧
 ∃ q : Bool, hat s (Addr.mk a 0 none) = some (.bool q) ∧
 R (.tuple #[.int .u64 o, .bool q]) s)))))
namespace syms_Find
set_option maxRecDepth 100000 in
theorem link {hv : Option Addr} {name : ByteArray} {H : Array Obj} {R : Value → Array Obj → Prop} (h : pt hv name H R) : C hv name H R := by
 refine T_en K0 18 Tryz.func85 ?_
 intro w0 Q hQ
 unfold pt at h
 refine T_su [(0, vp hv), (1, .string name)] ?_
 refine T_sr 0 K1 K2 ?_
 refine T_nw (some 3) (fun b => vp (pa b)) (.cells #[.string name] 9) ?_
 intro b H1 e1 e2
 replace h := h b H1 e1 e2
 refine ⟨[(0, vp hv), (3, vp (pa b))], pk, ?_⟩
 refine T_nw (some 4) (fun b => vp (pa b)) (.cells #[vu 0] 35) ?_
 intro d H2 e3 e4
 replace h := h d H2 e3 e4
 refine ⟨[(0, vp hv), (3, vp (pa b)), (4, vp (pa d))], pk, ?_⟩
 refine T_nw (some 5) (fun b => vp (pa b)) (.cells #[.bool false] 4) ?_
 intro a H3 e5 e6
 replace h := h a H3 e5 e6
 refine ⟨[(0, vp hv), (3, vp (pa b)), (4, vp (pa d)), (5, vp (pa a))], pk, ?_⟩
 refine T_e ?_
 refine T_s K3 K4 ?_
 refine T_sr 1 K5 K6 ?_
 refine T_n 1 [(0, vp hv), (3, vp (pa b)), (4, vp (pa d)), (5, vp (pa a)), (8, vp hv)] ?_
 rcases hv with _ | l
 ·rw [onPtr_none] at h
  refine T_ne 1 [(0, vp none), (3, vp (pa b)), (4, vp (pa d)), (5, vp (pa a)), (9, .bool true)] ?_
  refine T_t 9 K7 K8 ?_
  refine T_sr 2 K9 K10 ?_
  refine T_nu [(4, vp (pa d)), (5, vp (pa a))] ?_
  obtain ⟨q8, h⟩ := h
  refine N_skipop none (storeN 35 (vp (pa d)) (vu 0)) (fun Hz => Hz = hputs H3 (Addr.mk d 0 none) [vu 0] 0) (fun _=>by kernel_rfl) (ss_store [vu 0] 1 (by kernel_rfl) (by kernel_rfl) (fun _=>by kernel_rfl) (by kernel_rfl) q8) ?_
  intro H4 e7
  replace h := h H4 e7
  refine ⟨[(4, vp (pa d)), (5, vp (pa a))], pk, ?_⟩
  obtain ⟨q10, h⟩ := h
  refine N_skipop none (storeN 4 (vp (pa a)) (.bool false)) (fun Hz => Hz = hputs H4 (Addr.mk a 0 none) [.bool false] 0) (fun _=>by kernel_rfl) (ss_store [.bool false] 1 (by kernel_rfl) (by kernel_rfl) (fun _=>by kernel_rfl) (by kernel_rfl) q10) ?_
  intro H5 e9
  replace h := h H5 e9
  refine ⟨[(4, vp (pa d)), (5, vp (pa a))], pk, ?_⟩
  refine T_e ?_
  refine S_ret (by kernel_rfl) ?_
  show At _ _ _ _ _ (Q .ret)
  obtain ⟨r, q11, h⟩ := h
  obtain ⟨y, q12, h⟩ := h
  exact S_done (fn := Tryz.f85) [vu r, .bool y] hQ (show ResOK _ _ _ [.cell 4 35, .cell 5 4] _ from .cell (by kernel_rfl) (loadOK_one (fun _=>by kernel_rfl) q11) (.cell (by kernel_rfl) (loadOK_one (fun _=>by kernel_rfl) q12) (.nil))) h
 rw [onPtr_some] at h
 refine T_ne 1 [(0, vp (some l)), (3, vp (pa b)), (4, vp (pa d)), (5, vp (pa a)), (9, .bool false)] ?_
 refine T_f 9 K7 K8 ?_
 refine T_kt ?_
 refine T_s K11 K12 ?_
 refine T_sr 3 K13 K14 ?_
 refine T_n 1 [(3, vp (pa b)), (4, vp (pa d)), (5, vp (pa a)), (10, vp (some l))] ?_
 refine T_c (some 11) h ?_; clear h
 rintro v H6 ⟨-, h⟩
 refine ⟨[(3, vp (pa b)), (4, vp (pa d)), (5, vp (pa a)), (11, v)], pk, ?_⟩
 refine T_e ?_
 refine T_b 0 K15 ?_
 refine S_range (g := .tmp 11) (ps := #[12, 13]) (assign := K16) (body := K17) (v) (by kernel_rfl) (by kernel_rfl) (by kernel_rfl) ?_
 intro rc lp H7 r13 e14 e15 y16
 refine FE.mono (h rc lp H7 e14 e15 (.func (.yield lp) #[] #[]) ?_) ?_
 ·clear h
  intro e x_3 H8 vRy q17 h
  refine y16 #[vu e, .string x_3] H8 vRy (by kernel_rfl) q17 (fun w1x => ?_)
  refine T_su [(3, vp (pa b)), (4, vp (pa d)), (5, vp (pa a)), (11, v), (12, vu e), (13, .string x_3)] ?_
  refine T_sr 4 K18 K19 ?_
  refine T_ne 1 [(3, vp (pa b)), (4, vp (pa d)), (5, vp (pa a)), (6, vu e), (13, .string x_3)] ?_
  refine T_r 5 K19 ?_
  refine T_n 1 [(3, vp (pa b)), (4, vp (pa d)), (5, vp (pa a)), (6, vu e), (7, .string x_3)] ?_
  refine N_end (by kernel_rfl) ?_
  obtain ⟨q19, h⟩ := h
  refine S_then ?_
  refine S_begin r13 q19 ?_
  intro H9 e18
  replace h := h H9 e18
  refine T_b 1 K20 ?_
  refine T_sr 6 K21 K22 ?_
  refine T_n 1 [(3, vp (pa b)), (4, vp (pa d)), (5, vp (pa a)), (6, vu e), (14, .string x_3)] ?_
  obtain ⟨i, q20, h⟩ := h
  refine T_l (some 15) 9 q20 [(4, vp (pa d)), (5, vp (pa a)), (6, vu e), (14, .string x_3), (15, .string i)] ?_
  refine T_ne 1 [(4, vp (pa d)), (5, vp (pa a)), (6, vu e), (16, .bool (x_3.toList == i.toList))] ?_
  by_cases c21 : x_3.toList = i.toList
  ·rw [if_pos c21] at h
   have b22 : (x_3.toList == i.toList) = true := beq_iff_eq.mpr c21
   refine T_cT 16 K23 K24 b22 ?_
   refine T_sr 7 K25 K26 ?_
   refine T_n 1 [(4, vp (pa d)), (5, vp (pa a)), (17, vu e)] ?_
   obtain ⟨q24, h⟩ := h
   refine N_skipop none (storeN 35 (vp (pa d)) (vu e)) (fun Hz => Hz = hputs H9 (Addr.mk d 0 none) [vu e] 0) (fun _=>by kernel_rfl) (ss_store [vu e] 1 (by kernel_rfl) (by kernel_rfl) (fun _=>by kernel_rfl) (by kernel_rfl) q24) ?_
   intro k e23
   replace h := h k e23
   refine ⟨[(5, vp (pa a))], pk, ?_⟩
   obtain ⟨q26, h⟩ := h
   refine N_skipop none (storeN 4 (vp (pa a)) (.bool true)) (fun Hz => Hz = hputs k (Addr.mk a 0 none) [.bool true] 0) (fun _=>by kernel_rfl) (ss_store [.bool true] 1 (by kernel_rfl) (by kernel_rfl) (fun _=>by kernel_rfl) (by kernel_rfl) q26) ?_
   intro n e25
   replace h := h n e25
   refine ⟨[], pk, ?_⟩
   refine T_e ?_
   refine S_ret (by kernel_rfl) ?_
   show At _ _ _ _ _ (roundPost _ _ _ .ret)
   obtain ⟨q27, h⟩ := h
   exact S_rret r13 q27 h
  rw [if_neg c21] at h
  have b22 : (x_3.toList == i.toList) = false := beq_eq_false_iff_ne.mpr c21
  refine T_cF 16 K23 K24 b22 ?_
  refine T_k ?_
  refine S_blockEnd ?_
  obtain ⟨q28, h⟩ := h
  exact S_rnormal r13 q28 h
 clear h y16
 rintro _ m (⟨q29, h⟩ | ⟨q29, h⟩)
 ·refine .inl ⟨q29, fun f e38 => ?_⟩
  replace h := h f e38
  refine S_marks (H6.size :: []) rfl ?_
  refine T_su [(4, vp (pa d)), (5, vp (pa a))] ?_
  refine S_blockEnd ?_
  refine S_then ?_
  refine T_sr 8 K27 K28 ?_
  obtain ⟨q31, h⟩ := h
  refine N_skipop none (storeN 35 (vp (pa d)) (vu 0)) (fun Hz => Hz = hputs f (Addr.mk d 0 none) [vu 0] 0) (fun _=>by kernel_rfl) (ss_store [vu 0] 1 (by kernel_rfl) (by kernel_rfl) (fun _=>by kernel_rfl) (by kernel_rfl) q31) ?_
  intro j e30
  replace h := h j e30
  refine ⟨[(4, vp (pa d)), (5, vp (pa a))], pk, ?_⟩
  obtain ⟨q33, h⟩ := h
  refine N_skipop none (storeN 4 (vp (pa a)) (.bool false)) (fun Hz => Hz = hputs j (Addr.mk a 0 none) [.bool false] 0) (fun _=>by kernel_rfl) (ss_store [.bool false] 1 (by kernel_rfl) (by kernel_rfl) (fun _=>by kernel_rfl) (by kernel_rfl) q33) ?_
  intro u e32
  replace h := h u e32
  refine ⟨[(4, vp (pa d)), (5, vp (pa a))], pk, ?_⟩
  refine T_e ?_
  refine S_ret (by kernel_rfl) ?_
  show At _ _ _ _ _ (Q .ret)
  refine S_doneM (fn := Tryz.f85) (H6.size :: []) hQ (Shut.mono (fun x h => ?_) h)
  obtain ⟨p, q34, h⟩ := h
  obtain ⟨t, q35, h⟩ := h
  exact ⟨[vu p, .bool t], (show ResOK _ _ _ [.cell 4 35, .cell 5 4] _ from .cell (by kernel_rfl) (loadOK_one (fun _=>by kernel_rfl) q34) (.cell (by kernel_rfl) (loadOK_one (fun _=>by kernel_rfl) q35) (.nil))), h⟩
 refine .inr ⟨_, q29, fun f e38 => ?_⟩
 replace h := h f e38
 refine S_marks (H6.size :: []) rfl ?_
 refine T_su [(4, vp (pa d)), (5, vp (pa a))] ?_
 refine S_ret rfl ?_
 show At _ _ _ _ _ (Q .ret)
 refine S_doneM (fn := Tryz.f85) (H6.size :: []) hQ (Shut.mono (fun s h => ?_) h)
 obtain ⟨o, q36, h⟩ := h
 obtain ⟨q, q37, h⟩ := h
 exact ⟨[vu o, .bool q], (show ResOK _ _ _ [.cell 4 35, .cell 5 4] _ from .cell (by kernel_rfl) (loadOK_one (fun _=>by kernel_rfl) q36) (.cell (by kernel_rfl) (loadOK_one (fun _=>by kernel_rfl) q37) (.nil))), h⟩
end syms_Find

/-! moraine/syms.named -/
namespace syms_named
def K0 := Func.code Tryz.f138
def K1 := ca K0
def K2 := cb K0
def K3 := ca K2
def K4 := cb K2
end syms_named
def syms_named.pt (hv : Option Addr) (H : Array Obj) (R : Value → Array Obj → Prop) : Prop :=
 ∀ (b : Nat) (H1 : Array Obj), b = H.size → H1 = H.push (.cells #[.pointer hv] 30) →
 R (.func (.func 171) #[] #[.pointer (some (Addr.mk b 0 none))]) H1
namespace syms_named
set_option maxRecDepth 100000 in
theorem link {hv : Option Addr} {H : Array Obj} {R : Value → Array Obj → Prop} (h : pt hv H R) : C hv H R := by
 refine T_en K0 4 Tryz.func138 ?_
 intro w0 Q hQ
 unfold pt at h
 refine T_su [(0, vp hv)] ?_
 refine T_sr 0 K1 K2 ?_
 refine T_nw (some 1) (fun b => vp (pa b)) (.cells #[vp hv] 30) ?_
 intro b H1 e1 e2
 replace h := h b H1 e1 e2
 refine ⟨[(1, vp (pa b))], pk, ?_⟩
 refine T_ne 1 [(1, vp (pa b))] ?_
 refine T_sr 1 K3 K4 ?_
 refine T_ne 2 [(2, .func (.func 171) #[] #[vp (pa b)])] ?_
 exact T_ret [2] [.func (.func 171) #[] #[vp (pa b)]] hQ h
end syms_named

/-! moraine/syms.named.1 -/
namespace syms_named_1
def K0 := Func.code Tryz.f171
def K1 := ca K0
def K2 := cb K0
def K3 := ca K2
def K4 := ca K3
def K5 := ca K4
def K6 := cb K4
def K7 := ca K6
def K8 := cb K6
def K9 := ca K7
def K10 := cb K7
def K11 := ca K8
def K12 := cb K8
def K13 := ca K11
def K14 := ca K13
def K15 := cb K13
def K16 := ca K15
def K17 := cb K15
def K18 := ca K17
def K19 := cb K17
def K20 := ca K19
def K21 := cb K19
end syms_named_1
def syms_named_1.pt (yield : Value) (cap0 : Option Addr) (H : Array Obj) (R : Value → Array Obj → Prop) : Prop :=
 ∃ b : Addr, cap0 = some b ∧
 ∃ x : Option Addr, hat H b = some (.pointer x) ∧
 ∃ xA : Addr, x = some xA ∧
 ∃ xB : Option Addr, ∃ xN : Nat, ∃ xC : Nat, hat H (xA.add 1) = some (.slice xB xN xC) ∧
 ∃ (I5 : Int → Array Obj → Prop) (m5 : Int → Array Obj → Nat), I5 0 H ∧ ∀ (d : Int) (H1 : Array Obj), I5 d H1 →
 if d < (xN : Int) then (
 ∃ e : Addr, xB = some e ∧
 ((0 : Int) ≤ d ∧ d < (xN : Int)) ∧
 ∃ f : Int, hat H1 (e.add (Int.toNat d * 1)) = some (.int .u64 f) ∧
 ∃ j : Option Addr, hat H1 b = some (.pointer j) ∧
 syms_Name.C j f H1 (fun v H2 => ∃ ra : ByteArray, ∃ rb : Int, v = .tuple #[.string ra, .int .i64 rb] ∧ 
 if rb = 0 then (
 FC Tryz.prog yield #[.int .u64 f, .string ra] H2 (fun l H3 => ∃ g : Bool, l = .bool g ∧ 
 if g = true then (
 (I5 (IntKind.wrap .i64 (d + 1)) H3 ∧ m5 (IntKind.wrap .i64 (d + 1)) H3 < m5 d H1))
 else
 R (.tuple #[]) H3))
 else
 (I5 (IntKind.wrap .i64 (d + 1)) H2 ∧ m5 (IntKind.wrap .i64 (d + 1)) H2 < m5 d H1)))
 else
 R (.tuple #[]) H1
namespace syms_named_1
set_option maxRecDepth 100000 in
theorem link {yield : Value} {cap0 : Option Addr} {H : Array Obj} {R : Value → Array Obj → Prop} (h : pt yield cap0 H R) : C yield cap0 H R := by
 refine T_en K0 32 Tryz.func171 ?_
 intro w0 Q hQ
 unfold pt at h
 refine T_su [(0, yield), (1, vp cap0)] ?_
 refine T_sr 0 K1 K2 ?_
 obtain ⟨b, rfl, h⟩ := h
 obtain ⟨x, q1, h⟩ := h
 refine T_l (some 7) 30 q1 [(0, yield), (1, vp (some b)), (7, vp x)] ?_
 obtain ⟨xA, rfl, h⟩ := h
 refine T_n 2 [(0, yield), (1, vp (some b)), (9, vp (some (xA.add 1)))] ?_
 obtain ⟨xB, xN, xC, q2, h⟩ := h
 refine T_l (some 10) 43 q2 [(0, yield), (1, vp (some b)), (10, vs xB xN xC)] ?_
 refine T_ne 2 [(0, yield), (1, vp (some b)), (10, vs xB xN xC), (11, vi xN), (12, vi 0)] ?_
 refine T_b 0 K3 ?_
 obtain ⟨I5, m5, i3, i4⟩ := h
 refine S_loop (x := K4) (σ := Int) (fun s_ => [(0, yield), (1, vp (some b)), (10, vs xB xN xC), (11, vi xN), (12, vi s_)]) (fun s_ H => I5 s_ H) (fun s_ H => m5 s_ H) (0 : Int) (by kernel_rfl) i3 sk ?_
 rintro d H1 i5
 have h := i4 d H1 i5
 refine T_su [(0, yield), (1, vp (some b)), (10, vs xB xN xC), (11, vi xN), (12, vi d)] ?_
 refine T_sr 1 K5 K6 ?_
 refine T_ne 1 [(0, yield), (1, vp (some b)), (10, vs xB xN xC), (11, vi xN), (12, vi d), (13, .bool (decide (d < (xN : Int))))] ?_
 refine T_s K7 K8 ?_
 by_cases c6 : d < (xN : Int)
 ·rw [if_pos c6] at h
  have b7 : (decide (d < (xN : Int))) = true := decide_eq_true c6
  refine T_cT 13 K9 K10 b7 ?_
  refine T_kt ?_
  refine T_s K11 K12 ?_
  refine T_b 1 K13 ?_
  refine T_sr 2 K14 K15 ?_
  refine T_nu [(0, yield), (1, vp (some b)), (10, vs xB xN xC), (11, vi xN), (12, vi d)] ?_
  obtain ⟨e, rfl, h⟩ := h
  obtain ⟨q8, h⟩ := h
  refine T_ix (some 14) 43 35 1 e xN xC .i64 d Tryz.underlying43 q8.1 q8.2 [(0, yield), (1, vp (some b)), (10, vs (some e) xN xC), (11, vi xN), (12, vi d), (14, vp (some (e.add (Int.toNat d * 1))))] ?_
  obtain ⟨f, q9, h⟩ := h
  refine T_l (some 15) 35 q9 [(0, yield), (1, vp (some b)), (10, vs (some e) xN xC), (11, vi xN), (12, vi d), (15, vu f)] ?_
  refine T_ne 1 [(0, yield), (1, vp (some b)), (4, vu f), (10, vs (some e) xN xC), (11, vi xN), (12, vi d)] ?_
  refine T_sr 3 K16 K17 ?_
  obtain ⟨j, q10, h⟩ := h
  refine T_l (some 17) 30 q10 [(0, yield), (1, vp (some b)), (4, vu f), (10, vs (some e) xN xC), (11, vi xN), (12, vi d), (17, vp j)] ?_
  refine T_n 1 [(0, yield), (1, vp (some b)), (4, vu f), (10, vs (some e) xN xC), (11, vi xN), (12, vi d), (17, vp j), (18, vu f)] ?_
  refine T_c (some 19) h ?_; clear h
  rintro v H2 ⟨ra, rb, rfl, h⟩
  refine ⟨[(0, yield), (1, vp (some b)), (4, vu f), (10, vs (some e) xN xC), (11, vi xN), (12, vi d), (19, .tuple #[.string ra, vi rb])], pk, ?_⟩
  refine T_ne 5 [(0, yield), (1, vp (some b)), (4, vu f), (5, .string ra), (6, vi rb), (10, vs (some e) xN xC), (11, vi xN), (12, vi d)] ?_
  refine T_sr 4 K18 K19 ?_
  refine T_n 3 [(0, yield), (1, vp (some b)), (4, vu f), (5, .string ra), (10, vs (some e) xN xC), (11, vi xN), (12, vi d), (24, .bool (rb == 0))] ?_
  by_cases c11 : rb = 0
  ·rw [if_pos c11] at h
   have b12 : (rb == 0) = true := beq_iff_eq.mpr c11
   refine N_env [(0, yield), (1, vp (some b)), (4, vu f), (5, .string ra), (10, vs (some e) xN xC), (11, vi xN), (12, vi d), (24, .bool true)] (by rw [b12]) ?_
   clear b12
   refine T_n 3 [(0, yield), (1, vp (some b)), (10, vs (some e) xN xC), (11, vi xN), (12, vi d), (24, .bool true), (25, yield), (26, vu f), (27, .string ra)] ?_
   refine N_callv (some 28) yield #[vu f, .string ra] (fun _=>by kernel_rfl) h ?_; clear h
   rintro l H3 ⟨g, rfl, h⟩
   refine ⟨[(0, yield), (1, vp (some b)), (10, vs (some e) xN xC), (11, vi xN), (12, vi d), (24, .bool true), (28, .bool g)], pk, ?_⟩
   refine T_ne 2 [(0, yield), (1, vp (some b)), (10, vs (some e) xN xC), (11, vi xN), (12, vi d), (30, .bool (!g))] ?_
   by_cases c13 : g = true
   ·rw [if_pos c13] at h
    have b14 : (!g) = false := congrArg Bool.not (c13)
    refine T_cF 30 K20 K21 b14 ?_
    refine T_k ?_
    refine S_blockEnd ?_
    refine S_then ?_
    refine T_r 5 K12 ?_
    refine T_ne 2 [(0, yield), (1, vp (some b)), (10, vs (some e) xN xC), (11, vi xN), (12, vi (IntKind.wrap .i64 (d + 1)))] ?_
    exact S_round ((IntKind.wrap .i64 (d + 1)) : Int) sk h
   rw [if_neg c13] at h
   have b14 : (!g) = true := congrArg Bool.not (eq_false_of_ne_true c13)
   refine T_cT 30 K20 K21 b14 ?_
   exact T_ret [] [] hQ h
  rw [if_neg c11] at h
  have b12 : (rb == 0) = false := beq_eq_false_iff_ne.mpr c11
  refine N_env [(0, yield), (1, vp (some b)), (4, vu f), (5, .string ra), (10, vs (some e) xN xC), (11, vi xN), (12, vi d), (24, .bool false)] (by rw [b12]) ?_
  clear b12
  refine T_ne 6 [(0, yield), (1, vp (some b)), (10, vs (some e) xN xC), (11, vi xN), (12, vi d), (30, .bool false)] ?_
  refine T_f 30 K20 K21 ?_
  refine T_k ?_
  refine S_blockEnd ?_
  refine S_then ?_
  refine T_r 5 K12 ?_
  refine T_ne 2 [(0, yield), (1, vp (some b)), (10, vs (some e) xN xC), (11, vi xN), (12, vi (IntKind.wrap .i64 (d + 1)))] ?_
  exact S_round ((IntKind.wrap .i64 (d + 1)) : Int) sk h
 rw [if_neg c6] at h
 have b7 : (decide (d < (xN : Int))) = false := decide_eq_false c6
 refine T_cF 13 K9 K10 b7 ?_
 refine S_exit 0 (by kernel_rfl) ?_
 refine S_exitThen ?_
 refine S_exitThen ?_
 refine S_exitHere ?_
 exact S_doneN (fn := Tryz.f171) [] hQ (show ResOK _ _ _ [] _ from .nil) h
end syms_named_1

end Go.Proofs.YthlohokmnajpoaaGreatDoor
