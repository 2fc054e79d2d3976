/- Printed: what each function asks, and that it is sound. -/
import Derived.Test.YthlohokmnajpoaaGreatDoorFnsC
set_option linter.unusedSimpArgs false
set_option linter.unusedVariables false
set_option maxHeartbeats 1000000
noncomputable section
namespace Go.Proofs.YthlohokmnajpoaaGreatDoor
open Go
/-! (*moraine/obj.Heap).String -/
namespace obj_Heap_String
def K0 := Func.code Tryz.f22
def K1 := ca K0
def K2 := cb K0
def K3 := ca K2
def K4 := cb K2
def K5 := ca K4
def K6 := cb K4
def K7 := ca K5
def K8 := cb K5
def K9 := ca K8
def K10 := ca K9
def K11 := ca K10
def K12 := cb K10
def K13 := ca K12
def K14 := cb K12
def K15 := ca K13
def K16 := cb K13
def K17 := ca K14
def K18 := ca K17
def K19 := cb K17
def K20 := ca K19
def K21 := cb K19
def K22 := ca K21
def K23 := cb K21
def K24 := ca K23
def K25 := cb K23
def K26 := ca K24
def K27 := cb K24
def K28 := ca K6
def K29 := cb K6
end obj_Heap_String
def obj_Heap_String.pt (hv : Option Addr) (s : ByteArray) (H : Array Obj) (R : Value → Array Obj → Prop) : Prop :=
 ∀ (b : Nat) (H1 : Array Obj), b = H.size → H1 = H.push (.stringIter s 0) →
 ∃ (f : (Option Addr) → Nat → Nat → Array Obj → Prop) (m11 : (Option Addr) → Nat → Nat → Array Obj → Nat), f none 0 0 H1 ∧ ∀ (lB : Option Addr) (lN : Nat) (lC : Nat) (H2 : Array Obj), f lB lN lC H2 →
 ∃ (a : ByteArray) (pos : Nat), H2[b]? = some (.stringIter a pos) ∧
 if pos < a.size then (∀ H3 : Array Obj, H3 = setBlk H2 b (.stringIter a (pos + (Utf8.decode a pos).2)) →
 ∀ (e : Nat) (H4 : Array Obj), e = H3.size → H4 = H3.push (.cells #[.int .u64 (IntKind.wrap .u64 ((Utf8.decode a pos).1 : Int))] 35) →
 appendK 1 35 8 [.int .u64 0] lB lN lC (some (Addr.mk e 0 none)) 1 H4 (fun ap d H5 =>
 if ((lN + 1) : Int) > 62 then (
 R (.tuple #[.int .u64 0, .int .i64 6]) H5)
 else
 (f ap (lN + 1) d H5 ∧ m11 ap (lN + 1) d H5 < m11 lB lN lC H2)))
 else
 obj_Heap_Make.C hv 2 0 lB lN lC H2 (fun v H6 => ∃ ra : Int, ∃ rb : Int, v = .tuple #[.int .u64 ra, .int .i64 rb] ∧ 
 R (.tuple #[.int .u64 ra, .int .i64 rb]) H6)
namespace obj_Heap_String
set_option maxRecDepth 100000 in
theorem link {hv : Option Addr} {s : ByteArray} {H : Array Obj} {R : Value → Array Obj → Prop} (h : pt hv s H R) : C hv s H R := by
 refine T_en K0 27 Tryz.func22 ?_
 intro w0 Q hQ
 unfold pt at h
 refine T_su [(0, vp hv), (1, .string s)] ?_
 refine T_sr 0 K1 K2 ?_
 refine T_ne 2 [(0, vp hv), (1, .string s)] ?_
 refine T_sr 1 K3 K4 ?_
 refine T_ne 1 [(0, vp hv), (1, .string s), (6, vs none 0 0)] ?_
 refine T_s K5 K6 ?_
 refine T_sr 2 K7 K8 ?_
 refine T_n 1 [(0, vp hv), (6, vs none 0 0), (9, .string s)] ?_
 refine T_nw (some 10) (fun b => vp (pa b)) (.stringIter s 0) ?_
 intro b H1 e1 e2
 replace h := h b H1 e1 e2
 refine ⟨[(0, vp hv), (6, vs none 0 0), (10, vp (pa b))], pk, ?_⟩
 refine T_e ?_
 refine T_b 0 K9 ?_
 obtain ⟨f, m11, i3, i4⟩ := h
 refine S_loop (x := K10) (σ := (Option Addr) × Nat × Nat) (fun s_ => [(0, vp hv), (6, vs s_.1 s_.2.1 s_.2.2), (10, vp (pa b))]) (fun s_ H => f s_.1 s_.2.1 s_.2.2 H) (fun s_ H => m11 s_.1 s_.2.1 s_.2.2 H) ((none, 0, 0) : (Option Addr) × Nat × Nat) (by kernel_rfl) i3 sk ?_
 rintro ⟨lB, lN, lC⟩ H2 i5
 have h := i4 lB lN lC H2 i5
 refine T_su [(0, vp hv), (6, vs lB lN lC), (10, vp (pa b))] ?_
 refine T_sr 3 K11 K12 ?_
 obtain ⟨a, pos, q6, h⟩ := h
 by_cases c7 : pos < a.size
 ·rw [if_pos c7] at h
  refine N_op (some 11) (nextN (vp (pa b)) true 0) _ (fun _=>by kernel_rfl) (next_go q6 c7) ?_
  rintro _ H3 ⟨rfl, e12⟩
  replace h := h H3 (by assumption)
  refine ⟨[(0, vp hv), (6, vs lB lN lC), (10, vp (pa b)), (11, .tuple #[.bool true, vi pos, .int .i32 ((Utf8.decode a pos).1 : Int)])], pk, ?_⟩
  refine T_ne 1 [(0, vp hv), (6, vs lB lN lC), (10, vp (pa b)), (11, .tuple #[.bool true, vi pos, .int .i32 ((Utf8.decode a pos).1 : Int)]), (12, .bool true)] ?_
  refine T_s K13 K14 ?_
  refine T_t 12 K15 K16 ?_
  refine T_kt ?_
  refine T_b 1 K17 ?_
  refine T_sr 4 K18 K19 ?_
  refine T_ne 2 [(0, vp hv), (6, vs lB lN lC), (8, .int .i32 ((Utf8.decode a pos).1 : Int)), (10, vp (pa b))] ?_
  refine T_sr 5 K20 K21 ?_
  refine T_n 3 [(0, vp hv), (10, vp (pa b)), (14, vs lB lN lC), (16, vu (IntKind.wrap .u64 ((Utf8.decode a pos).1 : Int)))] ?_
  refine T_nw (some 17) (fun b => vs (pa b) 1 1) (.cells #[vu (IntKind.wrap .u64 ((Utf8.decode a pos).1 : Int))] 35) ?_
  intro e H4 e8 e9
  replace h := h e H4 e8 e9
  refine ⟨[(0, vp hv), (10, vp (pa b)), (14, vs lB lN lC), (17, vs (pa e) 1 1)], pk, ?_⟩
  refine N_op (some 18) (appendN #[43, 43] 43 #[vs lB lN lC, vs (pa e) 1 1]) _ (fun _=>by kernel_rfl) (ss_append (T := 35) (sz := 1) (bytes := 8) (zero := (vu 0 : Value)) Tryz.underlying43 Tryz.underlying43 rfl (show Tryz.prog.info? 35 = some Tryz.t35 from by kernel_rfl) (by kernel_rfl) (by kernel_rfl) (by decide) (by kernel_rfl) (by first | exact h | (simpa only [Value.cells, List.toList_toArray] using h))) ?_; clear h
  rintro _ H5 ⟨ap, d, rfl, h⟩
  refine ⟨[(0, vp hv), (10, vp (pa b)), (18, vs ap (lN + 1) d)], pk, ?_⟩
  refine T_ne 1 [(0, vp hv), (6, vs ap (lN + 1) d), (10, vp (pa b))] ?_
  refine T_sr 6 K22 K23 ?_
  refine T_ne 3 [(0, vp hv), (6, vs ap (lN + 1) d), (10, vp (pa b)), (21, .bool (decide (((lN + 1) : Int) > 62)))] ?_
  by_cases c10 : ((lN + 1) : Int) > 62
  ·rw [if_pos c10] at h
   have b11 : (decide (((lN + 1) : Int) > 62)) = true := decide_eq_true c10
   refine T_cT 21 K24 K25 b11 ?_
   refine T_sr 7 K26 K27 ?_
   refine T_ne 2 [(4, vu 0), (5, vi 6)] ?_
   exact T_ret [4, 5] [vu 0, vi 6] hQ h
  rw [if_neg c10] at h
  have b11 : (decide (((lN + 1) : Int) > 62)) = false := decide_eq_false c10
  refine T_cF 21 K24 K25 b11 ?_
  refine T_k ?_
  refine S_blockEnd ?_
  refine S_then ?_
  exact S_round ((ap, (lN + 1), d) : (Option Addr) × Nat × Nat) sk h
 rw [if_neg c7] at h
 refine N_op (some 11) (nextN (vp (pa b)) true 0) _ (fun _=>by kernel_rfl) (next_end q6 c7) ?_
 rintro _ _ ⟨rfl, rfl⟩
 refine ⟨[(0, vp hv), (6, vs lB lN lC), (10, vp (pa b)), (11, .tuple #[.bool false])], pk, ?_⟩
 refine T_ne 1 [(0, vp hv), (6, vs lB lN lC), (10, vp (pa b)), (11, .tuple #[.bool false]), (12, .bool false)] ?_
 refine T_s K13 K14 ?_
 refine T_f 12 K15 K16 ?_
 refine S_exit 0 (by kernel_rfl) ?_
 refine S_exitThen ?_
 refine S_exitThen ?_
 refine S_exitHere ?_
 refine S_then ?_
 refine T_sr 8 K28 K29 ?_
 refine T_n 2 [(22, vp hv), (23, vs lB lN lC)] ?_
 refine T_c (some 24) h ?_; clear h
 rintro v H6 ⟨ra, rb, rfl, h⟩
 refine ⟨[(24, .tuple #[vu ra, vi rb])], pk, ?_⟩
 refine T_ne 4 [(4, vu ra), (5, vi rb)] ?_
 exact T_ret [4, 5] [vu ra, vi rb] hQ h
end obj_Heap_String

/-! (*moraine/obj.Heap).Text -/
namespace obj_Heap_Text
def K0 := Func.code Tryz.f50
def K1 := ca K0
def K2 := cb K0
def K3 := ca K2
def K4 := cb K2
def K5 := ca K4
def K6 := cb K4
def K7 := ca K5
def K8 := cb K5
def K9 := ca K8
def K10 := cb K8
def K11 := ca K6
def K12 := cb K6
def K13 := ca K12
def K14 := cb K12
def K15 := ca K13
def K16 := cb K13
def K17 := ca K16
def K18 := ca K17
def K19 := ca K18
def K20 := cb K18
def K21 := ca K20
def K22 := cb K20
def K23 := ca K21
def K24 := cb K21
def K25 := ca K22
def K26 := cb K22
def K27 := ca K25
def K28 := ca K27
def K29 := cb K27
def K30 := ca K29
def K31 := cb K29
def K32 := ca K30
def K33 := cb K30
def K34 := ca K33
def K35 := cb K33
def K36 := ca K14
def K37 := cb K14
def K38 := ca K9
def K39 := cb K9
end obj_Heap_Text
def obj_Heap_Text.pt (hv : Option Addr) (wv : Int) (H : Array Obj) (R : Value → Array Obj → Prop) : Prop :=
 obj_Heap_words.C hv wv 2 H (fun v H1 => ∃ g : Option Addr, ∃ d : Nat, ∃ e : Nat, ∃ rb : Bool, v = .tuple #[.slice g d e, .bool rb] ∧ 
 if rb = true then (
 ∃ (n : (Option Addr) → Nat → Nat → Int → Array Obj → Prop) (m19 : (Option Addr) → Nat → Nat → Int → Array Obj → Nat), n none 0 0 0 H1 ∧ ∀ (sB : Option Addr) (sN : Nat) (sC : Nat) (s21 : Int) (H2 : Array Obj), n sB sN sC s21 H2 →
 if s21 < (d : Int) then (
 ∃ f : Addr, g = some f ∧
 ((0 : Int) ≤ s21 ∧ s21 < (d : Int)) ∧
 ∃ x : Int, hat H2 (f.add (Int.toNat s21 * 1)) = some (.int .u64 x) ∧
 if x > 1114111 then (
 ∀ (b : Nat) (H3 : Array Obj), b = H2.size → H3 = H2.push (.cells #[.int .i32 (IntKind.wrap .i32 65533)] 21) →
 appendK 1 21 4 [.int .i32 0] sB sN sC (some (Addr.mk b 0 none)) 1 H3 (fun ap m H4 =>
 (n ap (sN + 1) m (IntKind.wrap .i64 (s21 + 1)) H4 ∧ m19 ap (sN + 1) m (IntKind.wrap .i64 (s21 + 1)) H4 < m19 sB sN sC s21 H2)))
 else
 ∀ (o : Nat) (H5 : Array Obj), o = H2.size → H5 = H2.push (.cells #[.int .i32 (IntKind.wrap .i32 x)] 21) →
 appendK 1 21 4 [.int .i32 0] sB sN sC (some (Addr.mk o 0 none)) 1 H5 (fun l j H6 =>
 (n l (sN + 1) j (IntKind.wrap .i64 (s21 + 1)) H6 ∧ m19 l (sN + 1) j (IntKind.wrap .i64 (s21 + 1)) H6 < m19 sB sN sC s21 H2)))
 else
 ∃ rs : List Int, (SrcAt H2 sB (rs.map (Value.int .i32)) ∧ (sB ≠ none → rs.length = sN)) ∧
 R (.tuple #[.string (runesStr rs), .int .i64 0]) H2)
 else
 R (.tuple #[.string (ByteArray.mk #[]), .int .i64 3]) H1)
namespace obj_Heap_Text
set_option maxRecDepth 100000 in
theorem link {hv : Option Addr} {wv : Int} {H : Array Obj} {R : Value → Array Obj → Prop} (h : pt hv wv H R) : C hv wv H R := by
 refine T_en K0 35 Tryz.func50 ?_
 intro w0 Q hQ
 unfold pt at h
 refine T_su [(0, vp hv), (1, vu wv)] ?_
 refine T_sr 0 K1 K2 ?_
 refine T_ne 2 [(0, vp hv), (1, vu wv)] ?_
 refine T_sr 1 K3 K4 ?_
 refine T_n 2 [(12, vp hv), (13, vu wv)] ?_
 refine T_c (some 14) h ?_; clear h
 rintro v H1 ⟨g, d, e, rb, rfl, h⟩
 refine ⟨[(14, .tuple #[vs g d e, .bool rb])], pk, ?_⟩
 refine T_ne 5 [(6, vs g d e), (7, .bool rb)] ?_
 refine T_s K5 K6 ?_
 refine T_sr 2 K7 K8 ?_
 refine T_ne 2 [(6, vs g d e), (18, .bool (!rb))] ?_
 by_cases c1 : rb = true
 ·rw [if_pos c1] at h
  have b2 : (!rb) = false := congrArg Bool.not (c1)
  refine T_cF 18 K9 K10 b2 ?_
  refine T_kt ?_
  refine T_sr 4 K11 K12 ?_
  refine T_ne 1 [(6, vs g d e), (8, vs none 0 0)] ?_
  refine T_s K13 K14 ?_
  refine T_sr 5 K15 K16 ?_
  refine T_ne 3 [(8, vs none 0 0), (19, vs g d e), (20, vi d), (21, vi 0)] ?_
  refine T_b 0 K17 ?_
  obtain ⟨n, m19, i3, i4⟩ := h
  refine S_loop (x := K18) (σ := (Option Addr) × Nat × Nat × Int) (fun s_ => [(8, vs s_.1 s_.2.1 s_.2.2.1), (19, vs g d e), (20, vi d), (21, vi s_.2.2.2)]) (fun s_ H => n s_.1 s_.2.1 s_.2.2.1 s_.2.2.2 H) (fun s_ H => m19 s_.1 s_.2.1 s_.2.2.1 s_.2.2.2 H) ((none, 0, 0, 0) : (Option Addr) × Nat × Nat × Int) (by kernel_rfl) i3 sk ?_
  rintro ⟨sB, sN, sC, s21⟩ H2 i5
  have h := i4 sB sN sC s21 H2 i5
  refine T_su [(8, vs sB sN sC), (19, vs g d e), (20, vi d), (21, vi s21)] ?_
  refine T_sr 6 K19 K20 ?_
  refine T_ne 1 [(8, vs sB sN sC), (19, vs g d e), (20, vi d), (21, vi s21), (22, .bool (decide (s21 < (d : Int))))] ?_
  refine T_s K21 K22 ?_
  by_cases c6 : s21 < (d : Int)
  ·rw [if_pos c6] at h
   have b7 : (decide (s21 < (d : Int))) = true := decide_eq_true c6
   refine T_cT 22 K23 K24 b7 ?_
   refine T_kt ?_
   refine T_s K25 K26 ?_
   refine T_b 1 K27 ?_
   refine T_sr 7 K28 K29 ?_
   refine T_nu [(8, vs sB sN sC), (19, vs g d e), (20, vi d), (21, vi s21)] ?_
   obtain ⟨f, rfl, h⟩ := h
   obtain ⟨q8, h⟩ := h
   refine T_ix (some 23) 43 35 1 f d e .i64 s21 Tryz.underlying43 q8.1 q8.2 [(8, vs sB sN sC), (19, vs (some f) d e), (20, vi d), (21, vi s21), (23, vp (some (f.add (Int.toNat s21 * 1))))] ?_
   obtain ⟨x, q9, h⟩ := h
   refine T_l (some 24) 35 q9 [(8, vs sB sN sC), (19, vs (some f) d e), (20, vi d), (21, vi s21), (24, vu x)] ?_
   refine T_ne 1 [(8, vs sB sN sC), (10, vu x), (19, vs (some f) d e), (20, vi d), (21, vi s21)] ?_
   refine T_s K30 K31 ?_
   refine T_sr 8 K32 K33 ?_
   refine T_ne 2 [(8, vs sB sN sC), (10, vu x), (19, vs (some f) d e), (20, vi d), (21, vi s21), (26, .bool (decide (x > 1114111)))] ?_
   by_cases c10 : x > 1114111
   ·rw [if_pos c10] at h
    have b11 : (decide (x > 1114111)) = true := decide_eq_true c10
    refine T_cT 26 K34 K35 b11 ?_
    refine T_r 9 K34 ?_
    refine T_ne 1 [(8, vs sB sN sC), (10, vu 65533), (19, vs (some f) d e), (20, vi d), (21, vi s21)] ?_
    refine T_r 10 K31 ?_
    refine T_n 3 [(19, vs (some f) d e), (20, vi d), (21, vi s21), (27, vs sB sN sC), (29, .int .i32 (IntKind.wrap .i32 65533))] ?_
    refine T_nw (some 30) (fun b => vs (pa b) 1 1) (.cells #[.int .i32 (IntKind.wrap .i32 65533)] 21) ?_
    intro b H3 e12 e13
    replace h := h b H3 e12 e13
    refine ⟨[(19, vs (some f) d e), (20, vi d), (21, vi s21), (27, vs sB sN sC), (30, vs (pa b) 1 1)], pk, ?_⟩
    refine N_op (some 31) (appendN #[65, 65] 65 #[vs sB sN sC, vs (pa b) 1 1]) _ (fun _=>by kernel_rfl) (ss_append (T := 21) (sz := 1) (bytes := 4) (zero := (.int .i32 0 : Value)) Tryz.underlying65 Tryz.underlying65 rfl (show Tryz.prog.info? 21 = some Tryz.t21 from by kernel_rfl) (by kernel_rfl) (by kernel_rfl) (by decide) (by kernel_rfl) (by first | exact h | (simpa only [Value.cells, List.toList_toArray] using h))) ?_; clear h
    rintro _ H4 ⟨ap, m, rfl, h⟩
    refine ⟨[(19, vs (some f) d e), (20, vi d), (21, vi s21), (31, vs ap (sN + 1) m)], pk, ?_⟩
    refine T_n 1 [(8, vs ap (sN + 1) m), (19, vs (some f) d e), (20, vi d), (21, vi s21)] ?_
    refine N_end (by kernel_rfl) ?_
    refine S_blockEnd ?_
    refine S_then ?_
    refine T_r 11 K26 ?_
    refine T_ne 2 [(8, vs ap (sN + 1) m), (19, vs (some f) d e), (20, vi d), (21, vi (IntKind.wrap .i64 (s21 + 1)))] ?_
    exact S_round ((ap, (sN + 1), m, (IntKind.wrap .i64 (s21 + 1))) : (Option Addr) × Nat × Nat × Int) sk h
   rw [if_neg c10] at h
   have b11 : (decide (x > 1114111)) = false := decide_eq_false c10
   refine T_cF 26 K34 K35 b11 ?_
   refine T_kt ?_
   refine T_r 10 K31 ?_
   refine T_n 3 [(19, vs (some f) d e), (20, vi d), (21, vi s21), (27, vs sB sN sC), (29, .int .i32 (IntKind.wrap .i32 x))] ?_
   refine T_nw (some 30) (fun b => vs (pa b) 1 1) (.cells #[.int .i32 (IntKind.wrap .i32 x)] 21) ?_
   intro o H5 e14 e15
   replace h := h o H5 e14 e15
   refine ⟨[(19, vs (some f) d e), (20, vi d), (21, vi s21), (27, vs sB sN sC), (30, vs (pa o) 1 1)], pk, ?_⟩
   refine N_op (some 31) (appendN #[65, 65] 65 #[vs sB sN sC, vs (pa o) 1 1]) _ (fun _=>by kernel_rfl) (ss_append (T := 21) (sz := 1) (bytes := 4) (zero := (.int .i32 0 : Value)) Tryz.underlying65 Tryz.underlying65 rfl (show Tryz.prog.info? 21 = some Tryz.t21 from by kernel_rfl) (by kernel_rfl) (by kernel_rfl) (by decide) (by kernel_rfl) (by first | exact h | (simpa only [Value.cells, List.toList_toArray] using h))) ?_; clear h
   rintro _ H6 ⟨l, j, rfl, h⟩
   refine ⟨[(19, vs (some f) d e), (20, vi d), (21, vi s21), (31, vs l (sN + 1) j)], pk, ?_⟩
   refine T_n 1 [(8, vs l (sN + 1) j), (19, vs (some f) d e), (20, vi d), (21, vi s21)] ?_
   refine N_end (by kernel_rfl) ?_
   refine S_blockEnd ?_
   refine S_then ?_
   refine T_r 11 K26 ?_
   refine T_ne 2 [(8, vs l (sN + 1) j), (19, vs (some f) d e), (20, vi d), (21, vi (IntKind.wrap .i64 (s21 + 1)))] ?_
   exact S_round ((l, (sN + 1), j, (IntKind.wrap .i64 (s21 + 1))) : (Option Addr) × Nat × Nat × Int) sk h
  rw [if_neg c6] at h
  have b7 : (decide (s21 < (d : Int))) = false := decide_eq_false c6
  refine T_cF 22 K23 K24 b7 ?_
  refine S_exit 0 (by kernel_rfl) ?_
  refine S_exitThen ?_
  refine S_exitThen ?_
  refine S_exitHere ?_
  refine S_then ?_
  refine T_sr 12 K36 K37 ?_
  refine T_n 1 [(33, vs sB sN sC)] ?_
  obtain ⟨rs, q16, h⟩ := h
  refine T_v (some 34) (convertN 65 9 (vs sB sN sC)) (.string (runesStr rs)) (fun w hw => convert_runes Tryz.underlying65 Tryz.underlying9 Tryz.underlying21 (by rw [hw]; exact q16.1) q16.2) [(34, .string (runesStr rs))] ?_
  refine T_ne 2 [(4, .string (runesStr rs)), (5, vi 0)] ?_
  exact T_ret [4, 5] [.string (runesStr rs), vi 0] hQ h
 rw [if_neg c1] at h
 have b2 : (!rb) = true := congrArg Bool.not (eq_false_of_ne_true c1)
 refine T_cT 18 K9 K10 b2 ?_
 refine T_sr 3 K38 K39 ?_
 refine T_ne 2 [(4, .string (ByteArray.mk #[])), (5, vi 3)] ?_
 exact T_ret [4, 5] [.string (ByteArray.mk #[]), vi 3] hQ h
end obj_Heap_Text

/-! (*moraine/obj.Heap).words -/
namespace obj_Heap_words
def K0 := Func.code Tryz.f99
def K1 := ca K0
def K2 := cb K0
def K3 := ca K2
def K4 := cb K2
def K5 := ca K4
def K6 := cb K4
def K7 := ca K5
def K8 := cb K5
def K9 := ca K8
def K10 := cb K8
def K11 := ca K9
def K12 := cb K9
def K13 := ca K6
def K14 := cb K6
def K15 := ca K14
def K16 := cb K14
def K17 := ca K15
def K18 := cb K15
def K19 := ca K18
def K20 := ca K19
def K21 := ca K20
def K22 := cb K20
def K23 := ca K22
def K24 := cb K22
def K25 := ca K23
def K26 := cb K23
def K27 := ca K24
def K28 := cb K24
def K29 := ca K27
def K30 := ca K29
def K31 := cb K29
def K32 := ca K16
def K33 := cb K16
end obj_Heap_words
def obj_Heap_words.pt (hv : Option Addr) (wv : Int) (kind : Int) (H : Array Obj) (R : Value → Array Obj → Prop) : Prop :=
 obj_Heap_object.C hv wv H (fun v H1 => ∃ ra : Int, ∃ rb : Int, ∃ rc : Int, ∃ rd : Int, ∃ re : Bool, v = .tuple #[.int .i64 ra, .int .i64 rb, .int .i64 rc, .int .u64 rd, .bool re] ∧ 
 if ((!re) || (rb != kind)) = true then (
 R (.tuple #[.slice none 0 0, .bool false]) H1)
 else
 0 ≤ rc ∧ rc ≤ rc ∧ 8 * rc ≤ 2 ^ 48 ∧ rc ≤ 9223372036854775807 ∧
 ∀ (b : Nat) (H2 : Array Obj), b = H1.size → H2 = H1.push (.cells (Builtin.zeroCells #[.int .u64 0] (Int.toNat rc)) 35) →
 ∃ (l : Int → Array Obj → Prop) (m21 : Int → Array Obj → Nat), l 0 H2 ∧ ∀ (d : Int) (H3 : Array Obj), l d H3 →
 if d < ((Int.toNat rc) : Int) then (
 ∃ e : Addr, hv = some e ∧
 ∃ x : Option Addr, hat H3 e = some (.pointer x) ∧
 ∃ xA : Addr, x = some xA ∧
 ∃ j : Option Addr, hat H3 xA = some (.pointer j) ∧
 ∃ m : Addr, j = some m ∧
 ∃ g : Option Addr, hat H3 m = some (.pointer g) ∧
 seg_Mem_Read.C g (IntKind.wrap .i64 ((IntKind.wrap .i64 (ra + 1)) + d)) H3 (fun o H4 => ∃ f : Int, ∃ n : Int, o = .tuple #[.int .u64 f, .int .i64 n] ∧ 
 ((0 : Int) ≤ d ∧ d < ((Int.toNat rc) : Int)) ∧
 (CanPuts H4 ((Addr.mk b 0 none).add (Int.toNat d * 1)) 0 1) ∧ ∀ H5 : Array Obj, H5 = hputs H4 ((Addr.mk b 0 none).add (Int.toNat d * 1)) [.int .u64 f] 0 →
 (l (IntKind.wrap .i64 (d + 1)) H5 ∧ m21 (IntKind.wrap .i64 (d + 1)) H5 < m21 d H3)))
 else
 R (.tuple #[.slice (some (Addr.mk b 0 none)) (Int.toNat rc) (Int.toNat rc), .bool true]) H3)
namespace obj_Heap_words
set_option maxRecDepth 100000 in
theorem link {hv : Option Addr} {wv : Int} {kind : Int} {H : Array Obj} {R : Value → Array Obj → Prop} (h : pt hv wv kind H R) : C hv wv kind H R := by
 refine T_en K0 61 Tryz.func99 ?_
 intro w0 Q hQ
 unfold pt at h
 refine T_su [(0, vp hv), (1, vu wv), (2, vi kind)] ?_
 refine T_sr 0 K1 K2 ?_
 refine T_ne 2 [(0, vp hv), (1, vu wv), (2, vi kind)] ?_
 refine T_sr 1 K3 K4 ?_
 refine T_n 2 [(0, vp hv), (2, vi kind), (16, vp hv), (17, vu wv)] ?_
 refine T_c (some 18) h ?_; clear h
 rintro v H1 ⟨ra, rb, rc, rd, re, rfl, h⟩
 refine ⟨[(0, vp hv), (2, vi kind), (18, .tuple #[vi ra, vi rb, vi rc, vu rd, .bool re])], pk, ?_⟩
 refine T_ne 11 [(0, vp hv), (2, vi kind), (8, vi ra), (9, vi rb), (10, vi rc), (12, .bool re)] ?_
 refine T_s K5 K6 ?_
 refine T_sr 2 K7 K8 ?_
 refine N_cut [(0, vp hv), (8, vi ra), (10, vi rc), (30, .bool ((!re) || (rb != kind)))] ?_ ?_
 ·refine S_then ?_
  by_cases c3 : ((!re) || (rb != kind)) = true
  ·rw [if_pos c3] at h
   have b4 : ((!re) || (rb != kind)) = true := c3
   refine T_cT 30 K9 K10 b4 ?_
   refine T_sr 3 K11 K12 ?_
   refine T_ne 2 [(6, vs none 0 0), (7, .bool false)] ?_
   exact T_ret [6, 7] [vs none 0 0, .bool false] hQ h
  rw [if_neg c3] at h
  have b4 : ((!re) || (rb != kind)) = false := eq_false_of_ne_true c3
  refine T_cF 30 K9 K10 b4 ?_
  refine T_kt ?_
  refine T_sr 4 K13 K14 ?_
  refine T_n 1 [(0, vp hv), (8, vi ra), (31, vi rc)] ?_
  obtain ⟨q5, q6, q7, q8, h⟩ := h
  refine N_op (some 32) (makeSliceN 43 (vi rc) (vi rc)) (fun v Hz => v = Value.slice (some (Addr.mk H1.size 0 none)) (Int.toNat rc) (Int.toNat rc) ∧ Hz = H1.push (.cells (Builtin.zeroCells #[vu 0] (Int.toNat rc)) 35)) (fun _=>by kernel_rfl) (ss_make (T := 35) (zero := vu 0) Tryz.underlying43 (show Tryz.prog.info? 35 = some Tryz.t35 from by kernel_rfl) (by kernel_rfl) q5 q6 q7 q8 (by kernel_rfl) (by decide)) ?_
  rintro _ H2 ⟨rfl, e10⟩
  obtain ⟨b, e9⟩ : ∃ b, b = H1.size := ⟨_, rfl⟩
  replace h := h b H2 e9 e10
  rw [← e9]
  refine ⟨[(0, vp hv), (8, vi ra), (32, vs (pa b) (Int.toNat rc) (Int.toNat rc))], pk, ?_⟩
  refine T_ne 1 [(0, vp hv), (8, vi ra), (13, vs (pa b) (Int.toNat rc) (Int.toNat rc))] ?_
  refine T_s K15 K16 ?_
  refine T_sr 5 K17 K18 ?_
  refine T_ne 3 [(0, vp hv), (8, vi ra), (13, vs (pa b) (Int.toNat rc) (Int.toNat rc)), (34, vi ((Int.toNat rc) : Int)), (35, vi 0)] ?_
  refine T_b 0 K19 ?_
  obtain ⟨l, m21, i11, i12⟩ := h
  refine S_loop (x := K20) (σ := Int) (fun s_ => [(0, vp hv), (8, vi ra), (13, vs (pa b) (Int.toNat rc) (Int.toNat rc)), (34, vi ((Int.toNat rc) : Int)), (35, vi s_)]) (fun s_ H => l s_ H) (fun s_ H => m21 s_ H) (0 : Int) (by kernel_rfl) i11 sk ?_
  rintro d H3 i13
  have h := i12 d H3 i13
  refine T_su [(0, vp hv), (8, vi ra), (13, vs (pa b) (Int.toNat rc) (Int.toNat rc)), (34, vi ((Int.toNat rc) : Int)), (35, vi d)] ?_
  refine T_sr 6 K21 K22 ?_
  refine T_ne 1 [(0, vp hv), (8, vi ra), (13, vs (pa b) (Int.toNat rc) (Int.toNat rc)), (34, vi ((Int.toNat rc) : Int)), (35, vi d), (36, .bool (decide (d < ((Int.toNat rc) : Int))))] ?_
  refine T_s K23 K24 ?_
  by_cases c14 : d < ((Int.toNat rc) : Int)
  ·rw [if_pos c14] at h
   have b15 : (decide (d < ((Int.toNat rc) : Int))) = true := decide_eq_true c14
   refine T_cT 36 K25 K26 b15 ?_
   refine T_kt ?_
   refine T_s K27 K28 ?_
   refine T_b 1 K29 ?_
   refine T_sr 7 K30 K31 ?_
   refine T_ne 2 [(0, vp hv), (8, vi ra), (13, vs (pa b) (Int.toNat rc) (Int.toNat rc)), (14, vi d), (34, vi ((Int.toNat rc) : Int)), (35, vi d)] ?_
   refine T_r 8 K31 ?_
   refine T_n 3 [(0, vp hv), (8, vi ra), (13, vs (pa b) (Int.toNat rc) (Int.toNat rc)), (14, vi d), (34, vi ((Int.toNat rc) : Int)), (35, vi d), (39, vs (pa b) (Int.toNat rc) (Int.toNat rc)), (40, vi d), (41, vp hv)] ?_
   obtain ⟨e, rfl, h⟩ := h
   refine T_n 2 [(0, vp (some e)), (8, vi ra), (13, vs (pa b) (Int.toNat rc) (Int.toNat rc)), (14, vi d), (34, vi ((Int.toNat rc) : Int)), (35, vi d), (39, vs (pa b) (Int.toNat rc) (Int.toNat rc)), (40, vi d), (43, vp (some e))] ?_
   obtain ⟨x, q16, h⟩ := h
   refine T_l (some 44) 48 q16 [(0, vp (some e)), (8, vi ra), (13, vs (pa b) (Int.toNat rc) (Int.toNat rc)), (14, vi d), (34, vi ((Int.toNat rc) : Int)), (35, vi d), (39, vs (pa b) (Int.toNat rc) (Int.toNat rc)), (40, vi d), (44, vp x)] ?_
   obtain ⟨xA, rfl, h⟩ := h
   refine T_n 2 [(0, vp (some e)), (8, vi ra), (13, vs (pa b) (Int.toNat rc) (Int.toNat rc)), (14, vi d), (34, vi ((Int.toNat rc) : Int)), (35, vi d), (39, vs (pa b) (Int.toNat rc) (Int.toNat rc)), (40, vi d), (46, vp (some xA))] ?_
   obtain ⟨j, q17, h⟩ := h
   refine T_l (some 47) 52 q17 [(0, vp (some e)), (8, vi ra), (13, vs (pa b) (Int.toNat rc) (Int.toNat rc)), (14, vi d), (34, vi ((Int.toNat rc) : Int)), (35, vi d), (39, vs (pa b) (Int.toNat rc) (Int.toNat rc)), (40, vi d), (47, vp j)] ?_
   obtain ⟨m, rfl, h⟩ := h
   refine T_n 2 [(0, vp (some e)), (8, vi ra), (13, vs (pa b) (Int.toNat rc) (Int.toNat rc)), (14, vi d), (34, vi ((Int.toNat rc) : Int)), (35, vi d), (39, vs (pa b) (Int.toNat rc) (Int.toNat rc)), (40, vi d), (49, vp (some m))] ?_
   obtain ⟨g, q18, h⟩ := h
   refine T_l (some 50) 55 q18 [(0, vp (some e)), (8, vi ra), (13, vs (pa b) (Int.toNat rc) (Int.toNat rc)), (14, vi d), (34, vi ((Int.toNat rc) : Int)), (35, vi d), (39, vs (pa b) (Int.toNat rc) (Int.toNat rc)), (40, vi d), (50, vp g)] ?_
   refine T_n 4 [(0, vp (some e)), (8, vi ra), (13, vs (pa b) (Int.toNat rc) (Int.toNat rc)), (34, vi ((Int.toNat rc) : Int)), (35, vi d), (39, vs (pa b) (Int.toNat rc) (Int.toNat rc)), (40, vi d), (50, vp g), (54, vi (IntKind.wrap .i64 ((IntKind.wrap .i64 (ra + 1)) + d)))] ?_
   refine T_c (some 55) h ?_; clear h
   rintro o H4 ⟨f, n, rfl, h⟩
   refine ⟨[(0, vp (some e)), (8, vi ra), (13, vs (pa b) (Int.toNat rc) (Int.toNat rc)), (34, vi ((Int.toNat rc) : Int)), (35, vi d), (39, vs (pa b) (Int.toNat rc) (Int.toNat rc)), (40, vi d), (55, .tuple #[vu f, vi n])], pk, ?_⟩
   refine T_n 3 [(0, vp (some e)), (8, vi ra), (13, vs (pa b) (Int.toNat rc) (Int.toNat rc)), (34, vi ((Int.toNat rc) : Int)), (35, vi d), (39, vs (pa b) (Int.toNat rc) (Int.toNat rc)), (40, vi d), (56, vu f)] ?_
   obtain ⟨q19, h⟩ := h
   refine T_v (some 58) (indexAtN 43 (vs (pa b) (Int.toNat rc) (Int.toNat rc)) (vi d)) (vp (some ((Addr.mk b 0 none).add (Int.toNat d * 1)))) (fun w _ => indexAt_run (P := Tryz.prog) (t := 43) (elem := 35) (sz := 1) (a := (Addr.mk b 0 none)) (len := (Int.toNat rc)) (cap := (Int.toNat rc)) (k := .i64) (i := d) Tryz.underlying43 (fun _=>by kernel_rfl) q19.1 q19.2 w) [(0, vp (some e)), (8, vi ra), (13, vs (pa b) (Int.toNat rc) (Int.toNat rc)), (34, vi ((Int.toNat rc) : Int)), (35, vi d), (56, vu f), (58, vp (some ((Addr.mk b 0 none).add (Int.toNat d * 1))))] ?_
   obtain ⟨q21, h⟩ := h
   refine N_skipop none (storeN 35 (vp (some ((Addr.mk b 0 none).add (Int.toNat d * 1)))) (vu f)) (fun Hz => Hz = hputs H4 ((Addr.mk b 0 none).add (Int.toNat d * 1)) [vu f] 0) (fun _=>by kernel_rfl) (ss_store [vu f] 1 (by kernel_rfl) (by kernel_rfl) (fun _=>by kernel_rfl) (by kernel_rfl) q21) ?_
   intro H5 e20
   replace h := h H5 e20
   refine ⟨[(0, vp (some e)), (8, vi ra), (13, vs (pa b) (Int.toNat rc) (Int.toNat rc)), (34, vi ((Int.toNat rc) : Int)), (35, vi d)], pk, ?_⟩
   refine N_end (by kernel_rfl) ?_
   refine S_blockEnd ?_
   refine S_then ?_
   refine T_r 9 K28 ?_
   refine T_ne 2 [(0, vp (some e)), (8, vi ra), (13, vs (pa b) (Int.toNat rc) (Int.toNat rc)), (34, vi ((Int.toNat rc) : Int)), (35, vi (IntKind.wrap .i64 (d + 1)))] ?_
   exact S_round ((IntKind.wrap .i64 (d + 1)) : Int) sk h
  rw [if_neg c14] at h
  have b15 : (decide (d < ((Int.toNat rc) : Int))) = false := decide_eq_false c14
  refine T_cF 36 K25 K26 b15 ?_
  refine S_exit 0 (by kernel_rfl) ?_
  refine S_exitThen ?_
  refine S_exitThen ?_
  refine S_exitHere ?_
  refine S_then ?_
  refine T_sr 10 K32 K33 ?_
  refine T_ne 3 [(6, vs (pa b) (Int.toNat rc) (Int.toNat rc)), (7, .bool true)] ?_
  exact T_ret [6, 7] [vs (pa b) (Int.toNat rc) (Int.toNat rc), .bool true] hQ h
 intro hk
 refine T_n 3 [(0, vp hv), (2, vi kind), (8, vi ra), (9, vi rb), (10, vi rc), (26, .bool (!re))] ?_
 by_cases c1 : re = true
 ·have b2 : (!re) = false := congrArg Bool.not (c1)
  have b22 : re = true := c1
  refine N_env [(0, vp hv), (2, vi kind), (8, vi ra), (9, vi rb), (10, vi rc), (26, .bool false)] (by simp only [b2, b22, Bool.not_true, Bool.not_false]) ?_
  refine T_n 4 [(0, vp hv), (8, vi ra), (10, vi rc), (30, .bool (rb != kind))] ?_
  refine N_end (by kernel_rfl) ?_
  refine S_env [(0, vp hv), (8, vi ra), (10, vi rc), (30, .bool ((!re) || (rb != kind)))] (by simp only [b2, BL]) ?_
  exact hk
 have b2 : (!re) = true := congrArg Bool.not (eq_false_of_ne_true c1)
 have b22 : re = false := eq_false_of_ne_true c1
 refine N_env [(0, vp hv), (2, vi kind), (8, vi ra), (9, vi rb), (10, vi rc), (26, .bool true)] (by simp only [b2, b22, Bool.not_true, Bool.not_false]) ?_
 refine T_n 4 [(0, vp hv), (8, vi ra), (10, vi rc), (30, .bool true)] ?_
 refine N_end (by kernel_rfl) ?_
 refine S_env [(0, vp hv), (8, vi ra), (10, vi rc), (30, .bool ((!re) || (rb != kind)))] (by simp only [b2, BL]) ?_
 exact hk
end obj_Heap_words

end Go.Proofs.YthlohokmnajpoaaGreatDoor
