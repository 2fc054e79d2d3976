/-
 Written by a program of mine (gen.py): for functions of this translation a predicate transformer over heaps (.pt), and the proof that it is sound for the call (.link).
-/
import Derived.Test.YthlohokmnajpoaaGreatDoorFnsC
set_option linter.unusedSimpArgs false
set_option linter.unusedVariables false
set_option maxHeartbeats 1000000
noncomputable section
namespace Go.Proofs.YthlohokmnajpoaaGreatDoor
open Go
/-! (*moraine/obj.Heap).String -/
namespace obj_Heap_String
def kk0 := Func.code Tryz.f22
def kk1 := Code.fa kk0
def kk2 := Code.fb kk0
def kk3 := Code.fa kk2
def kk4 := Code.fb kk2
def kk5 := Code.fa kk4
def kk6 := Code.fb kk4
def kk7 := Code.fa kk5
def kk8 := Code.fb kk5
def kk9 := Code.fa kk8
def kk10 := Code.fa kk9
def kk11 := Code.fa kk10
def kk12 := Code.fb kk10
def kk13 := Code.fa kk12
def kk14 := Code.fb kk12
def kk15 := Code.fa kk13
def kk16 := Code.fb kk13
def kk17 := Code.fa kk14
def kk18 := Code.fa kk17
def kk19 := Code.fb kk17
def kk20 := Code.fa kk19
def kk21 := Code.fb kk19
def kk22 := Code.fa kk21
def kk23 := Code.fb kk21
def kk24 := Code.fa kk23
def kk25 := Code.fb kk23
def kk26 := Code.fa kk24
def kk27 := Code.fb kk24
def kk28 := Code.fa kk6
def kk29 := Code.fb kk6
end obj_Heap_String
def obj_Heap_String.pt (hv : Option Addr) (s : ByteArray) (H : Array Obj) (R : Value → Array Obj → Prop) : Prop :=
 ∀ (b : Nat) (H1 : Array Obj), b = H.size → H1 = H.push (.stringIter s 0) →
 ∃ (f : (Option Addr) → Nat → Nat → Array Obj → Prop) (m11 : (Option Addr) → Nat → Nat → Array Obj → Nat), f none 0 0 H1 ∧ ∀ (lB : Option Addr) (lN : Nat) (lC : Nat) (H2 : Array Obj), f lB lN lC H2 →
 ∃ (a : ByteArray) (pos : Nat), H2[b]? = some (.stringIter a pos) ∧
 if pos < a.size then (∀ H3 : Array Obj, H3 = setBlk H2 b (.stringIter a (pos + (Utf8.decode a pos).2)) →
 ∀ (e : Nat) (H4 : Array Obj), e = H3.size → H4 = H3.push (.cells #[.int .u64 (IntKind.wrap .u64 ((Utf8.decode a pos).1 : Int))] 35) →
 appendK 1 35 8 [.int .u64 0] lB lN lC (some (Addr.mk e 0 none)) 1 H4 (fun ap d H5 =>
 if ((lN + 1) : Int) > 62 then (
 R (.tuple #[.int .u64 0, .int .i64 6]) H5)
 else
 (f ap (lN + 1) d H5 ∧ m11 ap (lN + 1) d H5 < m11 lB lN lC H2)))
 else
 obj_Heap_Make.C hv 2 0 lB lN lC H2 (fun v H6 => ∃ ra : Int, ∃ rb : Int, v = .tuple #[.int .u64 ra, .int .i64 rb] ∧ 
 R (.tuple #[.int .u64 ra, .int .i64 rb]) H6)
namespace obj_Heap_String
set_option maxRecDepth 100000 in
theorem link {hv : Option Addr} {s : ByteArray} {H : Array Obj} {R : Value → Array Obj → Prop} (h : pt hv s H R) : C hv s H R := by
 refine S_enter (fn := Tryz.f22) (c := kk0) 27 Tryz.func22 (by kernel_rfl) (by kernel_rfl) (Nat.le_of_ble_eq_true (by kernel_rfl)) ?_
 intro w0 Q hQ
 unfold pt at h
 refine T_su [(0, vp hv), (1, .string s)] ?_
 refine T_sr 0 kk1 kk2 ?_
 refine T_ne 2 [(0, vp hv), (1, .string s)] ?_
 refine T_sr 1 kk3 kk4 ?_
 refine T_ne 1 [(0, vp hv), (1, .string s), (6, vs none 0 0)] ?_
 refine T_s kk5 kk6 ?_
 refine T_sr 2 kk7 kk8 ?_
 refine T_n 1 [(0, vp hv), (6, vs none 0 0), (9, .string s)] ?_
 refine N_new (some 10) (fun b => vp (pa b)) (.stringIter s 0) (fun _=>by kernel_rfl) ?_
 intro b H1 e1 e2
 replace h := h b H1 e1 e2
 refine ⟨[(0, vp hv), (6, vs none 0 0), (10, vp (pa b))], pk, ?_⟩
 refine T_e ?_
 refine T_b 0 kk9 ?_
 obtain ⟨f, m11, i3, i4⟩ := h
 refine S_loop (x := kk10) (σ := (Option Addr) × Nat × Nat) (fun s_ => [(0, vp hv), (6, vs s_.1 s_.2.1 s_.2.2), (10, vp (pa b))]) (fun s_ H => f s_.1 s_.2.1 s_.2.2 H) (fun s_ H => m11 s_.1 s_.2.1 s_.2.2 H) ((none, 0, 0) : (Option Addr) × Nat × Nat) (by kernel_rfl) i3 sk ?_
 rintro ⟨lB, lN, lC⟩ H2 i5
 have h := i4 lB lN lC H2 i5
 refine T_su [(0, vp hv), (6, vs lB lN lC), (10, vp (pa b))] ?_
 refine T_sr 3 kk11 kk12 ?_
 obtain ⟨a, pos, q6, h⟩ := h
 by_cases c7 : pos < a.size
 ·rw [if_pos c7] at h
  refine N_op (some 11) (nextN (vp (pa b)) true 0) _ (fun _=>by kernel_rfl) (next_go q6 c7) ?_
  rintro _ H3 ⟨rfl, e12⟩
  replace h := h H3 (by assumption)
  refine ⟨[(0, vp hv), (6, vs lB lN lC), (10, vp (pa b)), (11, .tuple #[.bool true, vi pos, .int .i32 ((Utf8.decode a pos).1 : Int)])], pk, ?_⟩
  refine T_ne 1 [(0, vp hv), (6, vs lB lN lC), (10, vp (pa b)), (11, .tuple #[.bool true, vi pos, .int .i32 ((Utf8.decode a pos).1 : Int)]), (12, .bool true)] ?_
  refine T_s kk13 kk14 ?_
  refine T_t 12 kk15 kk16 ?_
  refine T_kt ?_
  refine T_b 1 kk17 ?_
  refine T_sr 4 kk18 kk19 ?_
  refine T_ne 2 [(0, vp hv), (6, vs lB lN lC), (8, .int .i32 ((Utf8.decode a pos).1 : Int)), (10, vp (pa b))] ?_
  refine T_sr 5 kk20 kk21 ?_
  refine T_n 3 [(0, vp hv), (10, vp (pa b)), (14, vs lB lN lC), (16, vu (IntKind.wrap .u64 ((Utf8.decode a pos).1 : Int)))] ?_
  refine N_new (some 17) (fun b => vs (pa b) 1 1) (.cells #[vu (IntKind.wrap .u64 ((Utf8.decode a pos).1 : Int))] 35) (fun _=>by kernel_rfl) ?_
  intro e H4 e8 e9
  replace h := h e H4 e8 e9
  refine ⟨[(0, vp hv), (10, vp (pa b)), (14, vs lB lN lC), (17, vs (pa e) 1 1)], pk, ?_⟩
  refine N_op (some 18) (appendN #[43, 43] 43 #[vs lB lN lC, vs (pa e) 1 1]) _ (fun _=>by kernel_rfl) (ss_append (T := 35) (sz := 1) (bytes := 8) (zero := (vu 0 : Value)) Tryz.underlying43 Tryz.underlying43 rfl (show Tryz.prog.info? 35 = some Tryz.t35 from by kernel_rfl) (by kernel_rfl) (by kernel_rfl) (by decide) (by kernel_rfl) (by first | exact h | (simpa only [Value.cells, List.toList_toArray] using h))) ?_; clear h
  rintro _ H5 ⟨ap, d, rfl, h⟩
  refine ⟨[(0, vp hv), (10, vp (pa b)), (18, vs ap (lN + 1) d)], pk, ?_⟩
  refine T_ne 1 [(0, vp hv), (6, vs ap (lN + 1) d), (10, vp (pa b))] ?_
  refine T_sr 6 kk22 kk23 ?_
  refine T_ne 3 [(0, vp hv), (6, vs ap (lN + 1) d), (10, vp (pa b)), (21, .bool (decide (((lN + 1) : Int) > 62)))] ?_
  by_cases c10 : ((lN + 1) : Int) > 62
  ·rw [if_pos c10] at h
   have b11 : (decide (((lN + 1) : Int) > 62)) = true := decide_eq_true c10
   refine S_env [(0, vp hv), (6, vs ap (lN + 1) d), (10, vp (pa b)), (21, .bool true)] (by simp only [b11, Bool.not_true, Bool.not_false]) ?_
   clear b11
   refine T_t 21 kk24 kk25 ?_
   refine T_sr 7 kk26 kk27 ?_
   refine T_ne 2 [(4, vu 0), (5, vi 6)] ?_
   refine S_ret (by kernel_rfl) ?_
   show At _ _ _ _ _ (Q .ret)
   exact S_done (fn := Tryz.f22) [vu 0, vi 6] hQ (show ResOK _ _ _ [.tmp 4, .tmp 5] _ from .tmp (by kernel_rfl) (.tmp (by kernel_rfl) (.nil))) h
  ·rw [if_neg c10] at h
   have b11 : (decide (((lN + 1) : Int) > 62)) = false := decide_eq_false c10
   refine S_env [(0, vp hv), (6, vs ap (lN + 1) d), (10, vp (pa b)), (21, .bool false)] (by simp only [b11, Bool.not_true, Bool.not_false]) ?_
   clear b11
   refine T_f 21 kk24 kk25 ?_
   refine T_k ?_
   refine S_blockEnd ?_
   refine S_then ?_
   exact S_round ((ap, (lN + 1), d) : (Option Addr) × Nat × Nat) sk h
 ·rw [if_neg c7] at h
  refine N_op (some 11) (nextN (vp (pa b)) true 0) _ (fun _=>by kernel_rfl) (next_end q6 c7) ?_
  rintro _ _ ⟨rfl, rfl⟩
  refine ⟨[(0, vp hv), (6, vs lB lN lC), (10, vp (pa b)), (11, .tuple #[.bool false])], pk, ?_⟩
  refine T_ne 1 [(0, vp hv), (6, vs lB lN lC), (10, vp (pa b)), (11, .tuple #[.bool false]), (12, .bool false)] ?_
  refine T_s kk13 kk14 ?_
  refine T_f 12 kk15 kk16 ?_
  refine S_exit 0 (by kernel_rfl) ?_
  refine S_exitThen ?_
  refine S_exitThen ?_
  refine S_exitHere ?_
  refine S_then ?_
  refine T_sr 8 kk28 kk29 ?_
  refine T_n 2 [(22, vp hv), (23, vs lB lN lC)] ?_
  refine N_call (some 24) 41 #[vp hv, vi 2, vu 0, vs lB lN lC] (fun _=>by kernel_rfl) h ?_; clear h
  rintro v H6 ⟨ra, rb, rfl, h⟩
  refine ⟨[(24, .tuple #[vu ra, vi rb])], pk, ?_⟩
  refine T_ne 4 [(4, vu ra), (5, vi rb)] ?_
  refine S_ret (by kernel_rfl) ?_
  show At _ _ _ _ _ (Q .ret)
  exact S_done (fn := Tryz.f22) [vu ra, vi rb] hQ (show ResOK _ _ _ [.tmp 4, .tmp 5] _ from .tmp (by kernel_rfl) (.tmp (by kernel_rfl) (.nil))) h
end obj_Heap_String

/-! (*moraine/obj.Heap).Text -/
namespace obj_Heap_Text
def kk0 := Func.code Tryz.f50
def kk1 := Code.fa kk0
def kk2 := Code.fb kk0
def kk3 := Code.fa kk2
def kk4 := Code.fb kk2
def kk5 := Code.fa kk4
def kk6 := Code.fb kk4
def kk7 := Code.fa kk5
def kk8 := Code.fb kk5
def kk9 := Code.fa kk8
def kk10 := Code.fb kk8
def kk11 := Code.fa kk6
def kk12 := Code.fb kk6
def kk13 := Code.fa kk12
def kk14 := Code.fb kk12
def kk15 := Code.fa kk13
def kk16 := Code.fb kk13
def kk17 := Code.fa kk16
def kk18 := Code.fa kk17
def kk19 := Code.fa kk18
def kk20 := Code.fb kk18
def kk21 := Code.fa kk20
def kk22 := Code.fb kk20
def kk23 := Code.fa kk21
def kk24 := Code.fb kk21
def kk25 := Code.fa kk22
def kk26 := Code.fb kk22
def kk27 := Code.fa kk25
def kk28 := Code.fa kk27
def kk29 := Code.fb kk27
def kk30 := Code.fa kk29
def kk31 := Code.fb kk29
def kk32 := Code.fa kk30
def kk33 := Code.fb kk30
def kk34 := Code.fa kk33
def kk35 := Code.fb kk33
def kk36 := Code.fa kk14
def kk37 := Code.fb kk14
def kk38 := Code.fa kk9
def kk39 := Code.fb kk9
end obj_Heap_Text
def obj_Heap_Text.pt (hv : Option Addr) (wv : Int) (H : Array Obj) (R : Value → Array Obj → Prop) : Prop :=
 obj_Heap_words.C hv wv 2 H (fun v H1 => ∃ g : Option Addr, ∃ d : Nat, ∃ e : Nat, ∃ rb : Bool, v = .tuple #[.slice g d e, .bool rb] ∧ 
 if rb = true then (
 ∃ (n : (Option Addr) → Nat → Nat → Int → Array Obj → Prop) (m19 : (Option Addr) → Nat → Nat → Int → Array Obj → Nat), n none 0 0 0 H1 ∧ ∀ (sB : Option Addr) (sN : Nat) (sC : Nat) (s21 : Int) (H2 : Array Obj), n sB sN sC s21 H2 →
 if s21 < (d : Int) then (
 ∃ f : Addr, g = some f ∧
 ((0 : Int) ≤ s21 ∧ s21 < (d : Int)) ∧
 ∃ x : Int, hat H2 (f.add (Int.toNat s21 * 1)) = some (.int .u64 x) ∧
 if x > 1114111 then (
 ∀ (b : Nat) (H3 : Array Obj), b = H2.size → H3 = H2.push (.cells #[.int .i32 (IntKind.wrap .i32 65533)] 21) →
 appendK 1 21 4 [.int .i32 0] sB sN sC (some (Addr.mk b 0 none)) 1 H3 (fun ap m H4 =>
 (n ap (sN + 1) m (IntKind.wrap .i64 (s21 + 1)) H4 ∧ m19 ap (sN + 1) m (IntKind.wrap .i64 (s21 + 1)) H4 < m19 sB sN sC s21 H2)))
 else
 ∀ (o : Nat) (H5 : Array Obj), o = H2.size → H5 = H2.push (.cells #[.int .i32 (IntKind.wrap .i32 x)] 21) →
 appendK 1 21 4 [.int .i32 0] sB sN sC (some (Addr.mk o 0 none)) 1 H5 (fun l j H6 =>
 (n l (sN + 1) j (IntKind.wrap .i64 (s21 + 1)) H6 ∧ m19 l (sN + 1) j (IntKind.wrap .i64 (s21 + 1)) H6 < m19 sB sN sC s21 H2)))
 else
 ∃ rs : List Int, (SrcAt H2 sB (rs.map (Value.int .i32)) ∧ (sB ≠ none → rs.length = sN)) ∧
 R (.tuple #[.string (runesStr rs), .int .i64 0]) H2)
 else
 R (.tuple #[.string (ByteArray.mk #[]), .int .i64 3]) H1)
namespace obj_Heap_Text
set_option maxRecDepth 100000 in
theorem link {hv : Option Addr} {wv : Int} {H : Array Obj} {R : Value → Array Obj → Prop} (h : pt hv wv H R) : C hv wv H R := by
 refine S_enter (fn := Tryz.f50) (c := kk0) 35 Tryz.func50 (by kernel_rfl) (by kernel_rfl) (Nat.le_of_ble_eq_true (by kernel_rfl)) ?_
 intro w0 Q hQ
 unfold pt at h
 refine T_su [(0, vp hv), (1, vu wv)] ?_
 refine T_sr 0 kk1 kk2 ?_
 refine T_ne 2 [(0, vp hv), (1, vu wv)] ?_
 refine T_sr 1 kk3 kk4 ?_
 refine T_n 2 [(12, vp hv), (13, vu wv)] ?_
 refine N_call (some 14) 99 #[vp hv, vu wv, vi 2] (fun _=>by kernel_rfl) h ?_; clear h
 rintro v H1 ⟨g, d, e, rb, rfl, h⟩
 refine ⟨[(14, .tuple #[vs g d e, .bool rb])], pk, ?_⟩
 refine T_ne 5 [(6, vs g d e), (7, .bool rb)] ?_
 refine T_s kk5 kk6 ?_
 refine T_sr 2 kk7 kk8 ?_
 refine T_ne 2 [(6, vs g d e), (18, .bool (!rb))] ?_
 by_cases c1 : rb = true
 ·rw [if_pos c1] at h
  have b2 : (!rb) = false := congrArg Bool.not (c1)
  have b22 : rb = true := c1
  refine S_env [(6, vs g d e), (18, .bool false)] (by simp only [b2, b22, Bool.not_true, Bool.not_false]) ?_
  clear b2 b22
  refine T_f 18 kk9 kk10 ?_
  refine T_kt ?_
  refine T_sr 4 kk11 kk12 ?_
  refine T_ne 1 [(6, vs g d e), (8, vs none 0 0)] ?_
  refine T_s kk13 kk14 ?_
  refine T_sr 5 kk15 kk16 ?_
  refine T_ne 3 [(8, vs none 0 0), (19, vs g d e), (20, vi d), (21, vi 0)] ?_
  refine T_b 0 kk17 ?_
  obtain ⟨n, m19, i3, i4⟩ := h
  refine S_loop (x := kk18) (σ := (Option Addr) × Nat × Nat × Int) (fun s_ => [(8, vs s_.1 s_.2.1 s_.2.2.1), (19, vs g d e), (20, vi d), (21, vi s_.2.2.2)]) (fun s_ H => n s_.1 s_.2.1 s_.2.2.1 s_.2.2.2 H) (fun s_ H => m19 s_.1 s_.2.1 s_.2.2.1 s_.2.2.2 H) ((none, 0, 0, 0) : (Option Addr) × Nat × Nat × Int) (by kernel_rfl) i3 sk ?_
  rintro ⟨sB, sN, sC, s21⟩ H2 i5
  have h := i4 sB sN sC s21 H2 i5
  refine T_su [(8, vs sB sN sC), (19, vs g d e), (20, vi d), (21, vi s21)] ?_
  refine T_sr 6 kk19 kk20 ?_
  refine T_ne 1 [(8, vs sB sN sC), (19, vs g d e), (20, vi d), (21, vi s21), (22, .bool (decide (s21 < (d : Int))))] ?_
  refine T_s kk21 kk22 ?_
  by_cases c6 : s21 < (d : Int)
  ·rw [if_pos c6] at h
   have b7 : (decide (s21 < (d : Int))) = true := decide_eq_true c6
   refine S_env [(8, vs sB sN sC), (19, vs g d e), (20, vi d), (21, vi s21), (22, .bool true)] (by simp only [b7, Bool.not_true, Bool.not_false]) ?_
   clear b7
   refine T_t 22 kk23 kk24 ?_
   refine T_kt ?_
   refine T_s kk25 kk26 ?_
   refine T_b 1 kk27 ?_
   refine T_sr 7 kk28 kk29 ?_
   refine T_nu [(8, vs sB sN sC), (19, vs g d e), (20, vi d), (21, vi s21)] ?_
   obtain ⟨f, rfl, h⟩ := h
   obtain ⟨q8, h⟩ := h
   refine T_ix (some 23) 43 35 1 f d e .i64 s21 Tryz.underlying43 q8.1 q8.2 [(8, vs sB sN sC), (19, vs (some f) d e), (20, vi d), (21, vi s21), (23, vp (some (f.add (Int.toNat s21 * 1))))] ?_
   obtain ⟨x, q9, h⟩ := h
   refine T_l (some 24) 35 q9 [(8, vs sB sN sC), (19, vs (some f) d e), (20, vi d), (21, vi s21), (24, vu x)] ?_
   refine T_ne 1 [(8, vs sB sN sC), (10, vu x), (19, vs (some f) d e), (20, vi d), (21, vi s21)] ?_
   refine T_s kk30 kk31 ?_
   refine T_sr 8 kk32 kk33 ?_
   refine T_ne 2 [(8, vs sB sN sC), (10, vu x), (19, vs (some f) d e), (20, vi d), (21, vi s21), (26, .bool (decide (x > 1114111)))] ?_
   by_cases c10 : x > 1114111
   ·rw [if_pos c10] at h
    have b11 : (decide (x > 1114111)) = true := decide_eq_true c10
    refine S_env [(8, vs sB sN sC), (10, vu x), (19, vs (some f) d e), (20, vi d), (21, vi s21), (26, .bool true)] (by simp only [b11, Bool.not_true, Bool.not_false]) ?_
    clear b11
    refine T_t 26 kk34 kk35 ?_
    refine T_r 9 kk34 ?_
    refine T_ne 1 [(8, vs sB sN sC), (10, vu 65533), (19, vs (some f) d e), (20, vi d), (21, vi s21)] ?_
    refine T_r 10 kk31 ?_
    refine T_n 3 [(19, vs (some f) d e), (20, vi d), (21, vi s21), (27, vs sB sN sC), (29, .int .i32 (IntKind.wrap .i32 65533))] ?_
    refine N_new (some 30) (fun b => vs (pa b) 1 1) (.cells #[.int .i32 (IntKind.wrap .i32 65533)] 21) (fun _=>by kernel_rfl) ?_
    intro b H3 e12 e13
    replace h := h b H3 e12 e13
    refine ⟨[(19, vs (some f) d e), (20, vi d), (21, vi s21), (27, vs sB sN sC), (30, vs (pa b) 1 1)], pk, ?_⟩
    refine N_op (some 31) (appendN #[65, 65] 65 #[vs sB sN sC, vs (pa b) 1 1]) _ (fun _=>by kernel_rfl) (ss_append (T := 21) (sz := 1) (bytes := 4) (zero := (.int .i32 0 : Value)) Tryz.underlying65 Tryz.underlying65 rfl (show Tryz.prog.info? 21 = some Tryz.t21 from by kernel_rfl) (by kernel_rfl) (by kernel_rfl) (by decide) (by kernel_rfl) (by first | exact h | (simpa only [Value.cells, List.toList_toArray] using h))) ?_; clear h
    rintro _ H4 ⟨ap, m, rfl, h⟩
    refine ⟨[(19, vs (some f) d e), (20, vi d), (21, vi s21), (31, vs ap (sN + 1) m)], pk, ?_⟩
    refine T_n 1 [(8, vs ap (sN + 1) m), (19, vs (some f) d e), (20, vi d), (21, vi s21)] ?_
    refine N_end (by kernel_rfl) ?_
    refine S_blockEnd ?_
    refine S_then ?_
    refine T_r 11 kk26 ?_
    refine T_ne 2 [(8, vs ap (sN + 1) m), (19, vs (some f) d e), (20, vi d), (21, vi (IntKind.wrap .i64 (s21 + 1)))] ?_
    exact S_round ((ap, (sN + 1), m, (IntKind.wrap .i64 (s21 + 1))) : (Option Addr) × Nat × Nat × Int) sk h
   ·rw [if_neg c10] at h
    have b11 : (decide (x > 1114111)) = false := decide_eq_false c10
    refine S_env [(8, vs sB sN sC), (10, vu x), (19, vs (some f) d e), (20, vi d), (21, vi s21), (26, .bool false)] (by simp only [b11, Bool.not_true, Bool.not_false]) ?_
    clear b11
    refine T_f 26 kk34 kk35 ?_
    refine T_kt ?_
    refine T_r 10 kk31 ?_
    refine T_n 3 [(19, vs (some f) d e), (20, vi d), (21, vi s21), (27, vs sB sN sC), (29, .int .i32 (IntKind.wrap .i32 x))] ?_
    refine N_new (some 30) (fun b => vs (pa b) 1 1) (.cells #[.int .i32 (IntKind.wrap .i32 x)] 21) (fun _=>by kernel_rfl) ?_
    intro o H5 e14 e15
    replace h := h o H5 e14 e15
    refine ⟨[(19, vs (some f) d e), (20, vi d), (21, vi s21), (27, vs sB sN sC), (30, vs (pa o) 1 1)], pk, ?_⟩
    refine N_op (some 31) (appendN #[65, 65] 65 #[vs sB sN sC, vs (pa o) 1 1]) _ (fun _=>by kernel_rfl) (ss_append (T := 21) (sz := 1) (bytes := 4) (zero := (.int .i32 0 : Value)) Tryz.underlying65 Tryz.underlying65 rfl (show Tryz.prog.info? 21 = some Tryz.t21 from by kernel_rfl) (by kernel_rfl) (by kernel_rfl) (by decide) (by kernel_rfl) (by first | exact h | (simpa only [Value.cells, List.toList_toArray] using h))) ?_; clear h
    rintro _ H6 ⟨l, j, rfl, h⟩
    refine ⟨[(19, vs (some f) d e), (20, vi d), (21, vi s21), (31, vs l (sN + 1) j)], pk, ?_⟩
    refine T_n 1 [(8, vs l (sN + 1) j), (19, vs (some f) d e), (20, vi d), (21, vi s21)] ?_
    refine N_end (by kernel_rfl) ?_
    refine S_blockEnd ?_
    refine S_then ?_
    refine T_r 11 kk26 ?_
    refine T_ne 2 [(8, vs l (sN + 1) j), (19, vs (some f) d e), (20, vi d), (21, vi (IntKind.wrap .i64 (s21 + 1)))] ?_
    exact S_round ((l, (sN + 1), j, (IntKind.wrap .i64 (s21 + 1))) : (Option Addr) × Nat × Nat × Int) sk h
  ·rw [if_neg c6] at h
   have b7 : (decide (s21 < (d : Int))) = false := decide_eq_false c6
   refine S_env [(8, vs sB sN sC), (19, vs g d e), (20, vi d), (21, vi s21), (22, .bool false)] (by simp only [b7, Bool.not_true, Bool.not_false]) ?_
   clear b7
   refine T_f 22 kk23 kk24 ?_
   refine S_exit 0 (by kernel_rfl) ?_
   refine S_exitThen ?_
   refine S_exitThen ?_
   refine S_exitHere ?_
   refine S_then ?_
   refine T_sr 12 kk36 kk37 ?_
   refine T_n 1 [(33, vs sB sN sC)] ?_
   obtain ⟨rs, q16, h⟩ := h
   refine T_v (some 34) (convertN 65 9 (vs sB sN sC)) (.string (runesStr rs)) (fun w hw => convert_runes Tryz.underlying65 Tryz.underlying9 Tryz.underlying21 (by rw [hw]; exact q16.1) q16.2) [(34, .string (runesStr rs))] ?_
   refine T_ne 2 [(4, .string (runesStr rs)), (5, vi 0)] ?_
   refine S_ret (by kernel_rfl) ?_
   show At _ _ _ _ _ (Q .ret)
   exact S_done (fn := Tryz.f50) [.string (runesStr rs), vi 0] hQ (show ResOK _ _ _ [.tmp 4, .tmp 5] _ from .tmp (by kernel_rfl) (.tmp (by kernel_rfl) (.nil))) h
 ·rw [if_neg c1] at h
  have b2 : (!rb) = true := congrArg Bool.not (eq_false_of_ne_true c1)
  have b22 : rb = false := eq_false_of_ne_true c1
  refine S_env [(6, vs g d e), (18, .bool true)] (by simp only [b2, b22, Bool.not_true, Bool.not_false]) ?_
  clear b2 b22
  refine T_t 18 kk9 kk10 ?_
  refine T_sr 3 kk38 kk39 ?_
  refine T_ne 2 [(4, .string (ByteArray.mk #[])), (5, vi 3)] ?_
  refine S_ret (by kernel_rfl) ?_
  show At _ _ _ _ _ (Q .ret)
  exact S_done (fn := Tryz.f50) [.string (ByteArray.mk #[]), vi 3] hQ (show ResOK _ _ _ [.tmp 4, .tmp 5] _ from .tmp (by kernel_rfl) (.tmp (by kernel_rfl) (.nil))) h
end obj_Heap_Text

/-! (*moraine/obj.Heap).words -/
namespace obj_Heap_words
def kk0 := Func.code Tryz.f99
def kk1 := Code.fa kk0
def kk2 := Code.fb kk0
def kk3 := Code.fa kk2
def kk4 := Code.fb kk2
def kk5 := Code.fa kk4
def kk6 := Code.fb kk4
def kk7 := Code.fa kk5
def kk8 := Code.fb kk5
def kk9 := Code.fa kk8
def kk10 := Code.fb kk8
def kk11 := Code.fa kk9
def kk12 := Code.fb kk9
def kk13 := Code.fa kk6
def kk14 := Code.fb kk6
def kk15 := Code.fa kk14
def kk16 := Code.fb kk14
def kk17 := Code.fa kk15
def kk18 := Code.fb kk15
def kk19 := Code.fa kk18
def kk20 := Code.fa kk19
def kk21 := Code.fa kk20
def kk22 := Code.fb kk20
def kk23 := Code.fa kk22
def kk24 := Code.fb kk22
def kk25 := Code.fa kk23
def kk26 := Code.fb kk23
def kk27 := Code.fa kk24
def kk28 := Code.fb kk24
def kk29 := Code.fa kk27
def kk30 := Code.fa kk29
def kk31 := Code.fb kk29
def kk32 := Code.fa kk16
def kk33 := Code.fb kk16
end obj_Heap_words
def obj_Heap_words.pt (hv : Option Addr) (wv : Int) (kind : Int) (H : Array Obj) (R : Value → Array Obj → Prop) : Prop :=
 obj_Heap_object.C hv wv H (fun v H1 => ∃ ra : Int, ∃ rb : Int, ∃ rc : Int, ∃ rd : Int, ∃ re : Bool, v = .tuple #[.int .i64 ra, .int .i64 rb, .int .i64 rc, .int .u64 rd, .bool re] ∧ 
 if ((!re) || (rb != kind)) = true then (
 R (.tuple #[.slice none 0 0, .bool false]) H1)
 else
 0 ≤ rc ∧ rc ≤ rc ∧ 8 * rc ≤ 2 ^ 48 ∧ rc ≤ 9223372036854775807 ∧
 ∀ (b : Nat) (H2 : Array Obj), b = H1.size → H2 = H1.push (.cells (Builtin.zeroCells #[.int .u64 0] (Int.toNat rc)) 35) →
 ∃ (m : Int → Array Obj → Prop) (m21 : Int → Array Obj → Nat), m 0 H2 ∧ ∀ (d : Int) (H3 : Array Obj), m d H3 →
 if d < ((Int.toNat rc) : Int) then (
 ∃ e : Addr, hv = some e ∧
 ∃ x : Option Addr, hat H3 e = some (.pointer x) ∧
 ∃ xA : Addr, x = some xA ∧
 ∃ l : Option Addr, hat H3 xA = some (.pointer l) ∧
 ∃ j : Addr, l = some j ∧
 ∃ g : Option Addr, hat H3 j = some (.pointer g) ∧
 seg_Mem_Read.C g (IntKind.wrap .i64 ((IntKind.wrap .i64 (ra + 1)) + d)) H3 (fun o H4 => ∃ f : Int, ∃ n : Int, o = .tuple #[.int .u64 f, .int .i64 n] ∧ 
 ((0 : Int) ≤ d ∧ d < ((Int.toNat rc) : Int)) ∧
 (CanPuts H4 ((Addr.mk b 0 none).add (Int.toNat d * 1)) 0 1) ∧ ∀ H5 : Array Obj, H5 = hputs H4 ((Addr.mk b 0 none).add (Int.toNat d * 1)) [.int .u64 f] 0 →
 (m (IntKind.wrap .i64 (d + 1)) H5 ∧ m21 (IntKind.wrap .i64 (d + 1)) H5 < m21 d H3)))
 else
 R (.tuple #[.slice (some (Addr.mk b 0 none)) (Int.toNat rc) (Int.toNat rc), .bool true]) H3)
namespace obj_Heap_words
set_option maxRecDepth 100000 in
theorem link {hv : Option Addr} {wv : Int} {kind : Int} {H : Array Obj} {R : Value → Array Obj → Prop} (h : pt hv wv kind H R) : C hv wv kind H R := by
 refine S_enter (fn := Tryz.f99) (c := kk0) 61 Tryz.func99 (by kernel_rfl) (by kernel_rfl) (Nat.le_of_ble_eq_true (by kernel_rfl)) ?_
 intro w0 Q hQ
 unfold pt at h
 refine T_su [(0, vp hv), (1, vu wv), (2, vi kind)] ?_
 refine T_sr 0 kk1 kk2 ?_
 refine T_ne 2 [(0, vp hv), (1, vu wv), (2, vi kind)] ?_
 refine T_sr 1 kk3 kk4 ?_
 refine T_n 2 [(0, vp hv), (2, vi kind), (16, vp hv), (17, vu wv)] ?_
 refine N_call (some 18) 51 #[vp hv, vu wv] (fun _=>by kernel_rfl) h ?_; clear h
 rintro v H1 ⟨ra, rb, rc, rd, re, rfl, h⟩
 refine ⟨[(0, vp hv), (2, vi kind), (18, .tuple #[vi ra, vi rb, vi rc, vu rd, .bool re])], pk, ?_⟩
 refine T_ne 11 [(0, vp hv), (2, vi kind), (8, vi ra), (9, vi rb), (10, vi rc), (12, .bool re)] ?_
 refine T_s kk5 kk6 ?_
 refine T_sr 2 kk7 kk8 ?_
 refine N_cut [(0, vp hv), (8, vi ra), (10, vi rc), (30, .bool ((!re) || (rb != kind)))] ?_ ?_
 ·refine S_then ?_
  by_cases c3 : ((!re) || (rb != kind)) = true
  ·rw [if_pos c3] at h
   have b4 : ((!re) || (rb != kind)) = true := c3
   refine S_env [(0, vp hv), (8, vi ra), (10, vi rc), (30, .bool true)] (by simp only [b4, Bool.not_true, Bool.not_false]) ?_
   clear b4
   refine T_t 30 kk9 kk10 ?_
   refine T_sr 3 kk11 kk12 ?_
   refine T_ne 2 [(6, vs none 0 0), (7, .bool false)] ?_
   refine S_ret (by kernel_rfl) ?_
   show At _ _ _ _ _ (Q .ret)
   exact S_done (fn := Tryz.f99) [vs none 0 0, .bool false] hQ (show ResOK _ _ _ [.tmp 6, .tmp 7] _ from .tmp (by kernel_rfl) (.tmp (by kernel_rfl) (.nil))) h
  ·rw [if_neg c3] at h
   have b4 : ((!re) || (rb != kind)) = false := eq_false_of_ne_true c3
   refine S_env [(0, vp hv), (8, vi ra), (10, vi rc), (30, .bool false)] (by simp only [b4, Bool.not_true, Bool.not_false]) ?_
   clear b4
   refine T_f 30 kk9 kk10 ?_
   refine T_kt ?_
   refine T_sr 4 kk13 kk14 ?_
   refine T_n 1 [(0, vp hv), (8, vi ra), (31, vi rc)] ?_
   obtain ⟨q5, q6, q7, q8, h⟩ := h
   refine N_op (some 32) (makeSliceN 43 (vi rc) (vi rc)) (fun v Hz => v = Value.slice (some (Addr.mk H1.size 0 none)) (Int.toNat rc) (Int.toNat rc) ∧ Hz = H1.push (.cells (Builtin.zeroCells #[vu 0] (Int.toNat rc)) 35)) (fun _=>by kernel_rfl) (ss_make (T := 35) (zero := vu 0) Tryz.underlying43 (show Tryz.prog.info? 35 = some Tryz.t35 from by kernel_rfl) (by kernel_rfl) q5 q6 q7 q8 (by kernel_rfl) (by decide)) ?_
   rintro _ H2 ⟨rfl, e10⟩
   obtain ⟨b, e9⟩ : ∃ b, b = H1.size := ⟨_, rfl⟩
   replace h := h b H2 e9 e10
   rw [← e9]
   refine ⟨[(0, vp hv), (8, vi ra), (32, vs (pa b) (Int.toNat rc) (Int.toNat rc))], pk, ?_⟩
   refine T_ne 1 [(0, vp hv), (8, vi ra), (13, vs (pa b) (Int.toNat rc) (Int.toNat rc))] ?_
   refine T_s kk15 kk16 ?_
   refine T_sr 5 kk17 kk18 ?_
   refine T_ne 3 [(0, vp hv), (8, vi ra), (13, vs (pa b) (Int.toNat rc) (Int.toNat rc)), (34, vi ((Int.toNat rc) : Int)), (35, vi 0)] ?_
   refine T_b 0 kk19 ?_
   obtain ⟨m, m21, i11, i12⟩ := h
   refine S_loop (x := kk20) (σ := Int) (fun s_ => [(0, vp hv), (8, vi ra), (13, vs (pa b) (Int.toNat rc) (Int.toNat rc)), (34, vi ((Int.toNat rc) : Int)), (35, vi s_)]) (fun s_ H => m s_ H) (fun s_ H => m21 s_ H) (0 : Int) (by kernel_rfl) i11 sk ?_
   rintro d H3 i13
   have h := i12 d H3 i13
   refine T_su [(0, vp hv), (8, vi ra), (13, vs (pa b) (Int.toNat rc) (Int.toNat rc)), (34, vi ((Int.toNat rc) : Int)), (35, vi d)] ?_
   refine T_sr 6 kk21 kk22 ?_
   refine T_ne 1 [(0, vp hv), (8, vi ra), (13, vs (pa b) (Int.toNat rc) (Int.toNat rc)), (34, vi ((Int.toNat rc) : Int)), (35, vi d), (36, .bool (decide (d < ((Int.toNat rc) : Int))))] ?_
   refine T_s kk23 kk24 ?_
   by_cases c14 : d < ((Int.toNat rc) : Int)
   ·rw [if_pos c14] at h
    have b15 : (decide (d < ((Int.toNat rc) : Int))) = true := decide_eq_true c14
    refine S_env [(0, vp hv), (8, vi ra), (13, vs (pa b) (Int.toNat rc) (Int.toNat rc)), (34, vi ((Int.toNat rc) : Int)), (35, vi d), (36, .bool true)] (by simp only [b15, Bool.not_true, Bool.not_false]) ?_
    clear b15
    refine T_t 36 kk25 kk26 ?_
    refine T_kt ?_
    refine T_s kk27 kk28 ?_
    refine T_b 1 kk29 ?_
    refine T_sr 7 kk30 kk31 ?_
    refine T_ne 2 [(0, vp hv), (8, vi ra), (13, vs (pa b) (Int.toNat rc) (Int.toNat rc)), (14, vi d), (34, vi ((Int.toNat rc) : Int)), (35, vi d)] ?_
    refine T_r 8 kk31 ?_
    refine T_n 3 [(0, vp hv), (8, vi ra), (13, vs (pa b) (Int.toNat rc) (Int.toNat rc)), (14, vi d), (34, vi ((Int.toNat rc) : Int)), (35, vi d), (39, vs (pa b) (Int.toNat rc) (Int.toNat rc)), (40, vi d), (41, vp hv)] ?_
    obtain ⟨e, rfl, h⟩ := h
    refine T_n 2 [(0, vp (some e)), (8, vi ra), (13, vs (pa b) (Int.toNat rc) (Int.toNat rc)), (14, vi d), (34, vi ((Int.toNat rc) : Int)), (35, vi d), (39, vs (pa b) (Int.toNat rc) (Int.toNat rc)), (40, vi d), (43, vp (some e))] ?_
    obtain ⟨x, q16, h⟩ := h
    refine T_l (some 44) 48 q16 [(0, vp (some e)), (8, vi ra), (13, vs (pa b) (Int.toNat rc) (Int.toNat rc)), (14, vi d), (34, vi ((Int.toNat rc) : Int)), (35, vi d), (39, vs (pa b) (Int.toNat rc) (Int.toNat rc)), (40, vi d), (44, vp x)] ?_
    obtain ⟨xA, rfl, h⟩ := h
    refine T_n 2 [(0, vp (some e)), (8, vi ra), (13, vs (pa b) (Int.toNat rc) (Int.toNat rc)), (14, vi d), (34, vi ((Int.toNat rc) : Int)), (35, vi d), (39, vs (pa b) (Int.toNat rc) (Int.toNat rc)), (40, vi d), (46, vp (some xA))] ?_
    obtain ⟨l, q17, h⟩ := h
    refine T_l (some 47) 52 q17 [(0, vp (some e)), (8, vi ra), (13, vs (pa b) (Int.toNat rc) (Int.toNat rc)), (14, vi d), (34, vi ((Int.toNat rc) : Int)), (35, vi d), (39, vs (pa b) (Int.toNat rc) (Int.toNat rc)), (40, vi d), (47, vp l)] ?_
    obtain ⟨j, rfl, h⟩ := h
    refine T_n 2 [(0, vp (some e)), (8, vi ra), (13, vs (pa b) (Int.toNat rc) (Int.toNat rc)), (14, vi d), (34, vi ((Int.toNat rc) : Int)), (35, vi d), (39, vs (pa b) (Int.toNat rc) (Int.toNat rc)), (40, vi d), (49, vp (some j))] ?_
    obtain ⟨g, q18, h⟩ := h
    refine T_l (some 50) 55 q18 [(0, vp (some e)), (8, vi ra), (13, vs (pa b) (Int.toNat rc) (Int.toNat rc)), (14, vi d), (34, vi ((Int.toNat rc) : Int)), (35, vi d), (39, vs (pa b) (Int.toNat rc) (Int.toNat rc)), (40, vi d), (50, vp g)] ?_
    refine T_n 4 [(0, vp (some e)), (8, vi ra), (13, vs (pa b) (Int.toNat rc) (Int.toNat rc)), (34, vi ((Int.toNat rc) : Int)), (35, vi d), (39, vs (pa b) (Int.toNat rc) (Int.toNat rc)), (40, vi d), (50, vp g), (54, vi (IntKind.wrap .i64 ((IntKind.wrap .i64 (ra + 1)) + d)))] ?_
    refine N_call (some 55) 101 #[vp g, vi (IntKind.wrap .i64 ((IntKind.wrap .i64 (ra + 1)) + d))] (fun _=>by kernel_rfl) h ?_; clear h
    rintro o H4 ⟨f, n, rfl, h⟩
    refine ⟨[(0, vp (some e)), (8, vi ra), (13, vs (pa b) (Int.toNat rc) (Int.toNat rc)), (34, vi ((Int.toNat rc) : Int)), (35, vi d), (39, vs (pa b) (Int.toNat rc) (Int.toNat rc)), (40, vi d), (55, .tuple #[vu f, vi n])], pk, ?_⟩
    refine T_n 3 [(0, vp (some e)), (8, vi ra), (13, vs (pa b) (Int.toNat rc) (Int.toNat rc)), (34, vi ((Int.toNat rc) : Int)), (35, vi d), (39, vs (pa b) (Int.toNat rc) (Int.toNat rc)), (40, vi d), (56, vu f)] ?_
    obtain ⟨q19, h⟩ := h
    refine T_v (some 58) (indexAtN 43 (vs (pa b) (Int.toNat rc) (Int.toNat rc)) (vi d)) (vp (some ((Addr.mk b 0 none).add (Int.toNat d * 1)))) (fun w _ => indexAt_run (P := Tryz.prog) (t := 43) (elem := 35) (sz := 1) (a := (Addr.mk b 0 none)) (len := (Int.toNat rc)) (cap := (Int.toNat rc)) (k := .i64) (i := d) Tryz.underlying43 (fun _=>by kernel_rfl) q19.1 q19.2 w) [(0, vp (some e)), (8, vi ra), (13, vs (pa b) (Int.toNat rc) (Int.toNat rc)), (34, vi ((Int.toNat rc) : Int)), (35, vi d), (56, vu f), (58, vp (some ((Addr.mk b 0 none).add (Int.toNat d * 1))))] ?_
    obtain ⟨q21, h⟩ := h
    refine N_skipop none (storeN 35 (vp (some ((Addr.mk b 0 none).add (Int.toNat d * 1)))) (vu f)) (fun Hz => Hz = hputs H4 ((Addr.mk b 0 none).add (Int.toNat d * 1)) [vu f] 0) (fun _=>by kernel_rfl) (ss_store [vu f] 1 (by kernel_rfl) (by kernel_rfl) (fun _=>by kernel_rfl) (by kernel_rfl) q21) ?_
    intro H5 e20
    replace h := h H5 e20
    refine ⟨[(0, vp (some e)), (8, vi ra), (13, vs (pa b) (Int.toNat rc) (Int.toNat rc)), (34, vi ((Int.toNat rc) : Int)), (35, vi d)], pk, ?_⟩
    refine N_end (by kernel_rfl) ?_
    refine S_blockEnd ?_
    refine S_then ?_
    refine T_r 9 kk28 ?_
    refine T_ne 2 [(0, vp (some e)), (8, vi ra), (13, vs (pa b) (Int.toNat rc) (Int.toNat rc)), (34, vi ((Int.toNat rc) : Int)), (35, vi (IntKind.wrap .i64 (d + 1)))] ?_
    exact S_round ((IntKind.wrap .i64 (d + 1)) : Int) sk h
   ·rw [if_neg c14] at h
    have b15 : (decide (d < ((Int.toNat rc) : Int))) = false := decide_eq_false c14
    refine S_env [(0, vp hv), (8, vi ra), (13, vs (pa b) (Int.toNat rc) (Int.toNat rc)), (34, vi ((Int.toNat rc) : Int)), (35, vi d), (36, .bool false)] (by simp only [b15, Bool.not_true, Bool.not_false]) ?_
    clear b15
    refine T_f 36 kk25 kk26 ?_
    refine S_exit 0 (by kernel_rfl) ?_
    refine S_exitThen ?_
    refine S_exitThen ?_
    refine S_exitHere ?_
    refine S_then ?_
    refine T_sr 10 kk32 kk33 ?_
    refine T_ne 3 [(6, vs (pa b) (Int.toNat rc) (Int.toNat rc)), (7, .bool true)] ?_
    refine S_ret (by kernel_rfl) ?_
    show At _ _ _ _ _ (Q .ret)
    exact S_done (fn := Tryz.f99) [vs (pa b) (Int.toNat rc) (Int.toNat rc), .bool true] hQ (show ResOK _ _ _ [.tmp 6, .tmp 7] _ from .tmp (by kernel_rfl) (.tmp (by kernel_rfl) (.nil))) h
 ·intro hk
  refine T_n 3 [(0, vp hv), (2, vi kind), (8, vi ra), (9, vi rb), (10, vi rc), (26, .bool (!re))] ?_
  by_cases c1 : re = true
  ·have b2 : (!re) = false := congrArg Bool.not (c1)
   have b22 : re = true := c1
   refine N_env [(0, vp hv), (2, vi kind), (8, vi ra), (9, vi rb), (10, vi rc), (26, .bool false)] (by simp only [b2, b22, Bool.not_true, Bool.not_false]) ?_
   refine T_n 4 [(0, vp hv), (8, vi ra), (10, vi rc), (30, .bool (rb != kind))] ?_
   refine N_end (by kernel_rfl) ?_
   refine S_env [(0, vp hv), (8, vi ra), (10, vi rc), (30, .bool ((!re) || (rb != kind)))] (by simp only [b2, Bool.true_or, Bool.false_or, Bool.or_true, Bool.or_false, Bool.true_and, Bool.false_and, Bool.and_true, Bool.and_false, Bool.not_true, Bool.not_false, cond_true, cond_false]) ?_
   exact hk
  ·have b2 : (!re) = true := congrArg Bool.not (eq_false_of_ne_true c1)
   have b22 : re = false := eq_false_of_ne_true c1
   refine N_env [(0, vp hv), (2, vi kind), (8, vi ra), (9, vi rb), (10, vi rc), (26, .bool true)] (by simp only [b2, b22, Bool.not_true, Bool.not_false]) ?_
   refine T_n 4 [(0, vp hv), (8, vi ra), (10, vi rc), (30, .bool true)] ?_
   refine N_end (by kernel_rfl) ?_
   refine S_env [(0, vp hv), (8, vi ra), (10, vi rc), (30, .bool ((!re) || (rb != kind)))] (by simp only [b2, Bool.true_or, Bool.false_or, Bool.or_true, Bool.or_false, Bool.true_and, Bool.false_and, Bool.and_true, Bool.and_false, Bool.not_true, Bool.not_false, cond_true, cond_false]) ?_
   exact hk
end obj_Heap_words

end Go.Proofs.YthlohokmnajpoaaGreatDoor
