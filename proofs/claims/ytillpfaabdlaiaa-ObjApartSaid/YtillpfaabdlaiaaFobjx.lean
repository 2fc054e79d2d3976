/-
 Written by a program of mine (gen.py): for functions of this translation a predicate transformer over heaps (.pt), and the proof that it is sound for the call (.link).
-/
import Derived.Test.YtillpfaabdlaiaaFnsC
set_option linter.unusedSimpArgs false
set_option linter.unusedVariables false
set_option maxHeartbeats 1000000
noncomputable section
namespace Go.Proofs.Ytillpfaabdlaiaa
open Go
/-! (*moraine/obj.Heap).Vector -/
namespace obj_Heap_Vector
def kk0 := Func.code Try.f12
def kk1 := Code.fa kk0
def kk2 := Code.fb kk0
def kk3 := Code.fa kk2
def kk4 := Code.fb kk2
def kk5 := Code.fa kk3
def kk6 := Code.fa kk5
def kk7 := Code.fb kk5
def kk8 := Code.fa kk7
def kk9 := Code.fb kk7
def kk10 := Code.fa kk8
def kk11 := Code.fb kk8
def kk12 := Code.fa kk9
def kk13 := Code.fb kk9
def kk14 := Code.fa kk13
def kk15 := Code.fb kk13
def kk16 := Code.fa kk14
def kk17 := Code.fb kk14
def kk18 := Code.fa kk4
def kk19 := Code.fb kk4
end obj_Heap_Vector
def obj_Heap_Vector.pt (hv : Option Addr) (nv : Int) (fill : Int) (H : Array Obj) (R : Value → Array Obj → Prop) : Prop :=
 if nv < 0 then (
 R (.tuple #[.int .u64 0, .int .i64 4]) H)
 else
 if nv > 62 then (
 R (.tuple #[.int .u64 0, .int .i64 6]) H)
 else
 ∀ (b : Nat) (H1 : Array Obj), b = H.size → H1 = H.push (.cells #[.int .u64 fill] 32) →
 slices_Repeat_api_Word_api_Word.C (some (Addr.mk b 0 none)) 1 1 nv H1 (fun v H2 => ∃ xB : Option Addr, ∃ xN : Nat, ∃ xC : Nat, v = .slice xB xN xC ∧ 
 obj_Heap_Make.C hv 1 0 xB xN xC H2 (fun a H3 => ∃ ra : Int, ∃ rb : Int, a = .tuple #[.int .u64 ra, .int .i64 rb] ∧ 
 R (.tuple #[.int .u64 ra, .int .i64 rb]) H3))
namespace obj_Heap_Vector
set_option maxRecDepth 100000 in
theorem link {hv : Option Addr} {nv : Int} {fill : Int} {H : Array Obj} {R : Value → Array Obj → Prop} (h : pt hv nv fill H R) : C hv nv fill H R := by
 refine S_enter (fn := Try.f12) (c := kk0) 22 Try.func12 (by kernel_rfl) (by kernel_rfl) (Nat.le_of_ble_eq_true (by kernel_rfl)) ?_
 intro w0 Q hQ
 unfold pt at h
 refine T_su [(0, vp hv), (1, vi nv), (2, vu fill)] ?_
 refine T_sr 0 kk1 kk2 ?_
 refine T_ne 2 [(0, vp hv), (1, vi nv), (2, vu fill)] ?_
 refine T_s kk3 kk4 ?_
 refine T_b 0 kk5 ?_
 refine T_sr 1 kk6 kk7 ?_
 refine T_ne 3 [(0, vp hv), (1, vi nv), (2, vu fill), (8, .bool (decide (nv < 0)))] ?_
 by_cases c1 : nv < 0
 ·rw [if_pos c1] at h
  have b2 : (decide (nv < 0)) = true := decide_eq_true c1
  refine S_env [(0, vp hv), (1, vi nv), (2, vu fill), (8, .bool true)] (by simp only [b2, Bool.not_true, Bool.not_false]) ?_
  clear b2
  refine T_t 8 kk8 kk9 ?_
  refine T_sr 2 kk10 kk11 ?_
  refine T_ne 2 [(6, vu 0), (7, vi 4)] ?_
  refine S_ret (by kernel_rfl) ?_
  show At _ _ _ _ _ (Q .ret)
  exact S_done (fn := Try.f12) [vu 0, vi 4] hQ (show ResOK _ _ _ [.tmp 6, .tmp 7] _ from .tmp (by kernel_rfl) (.tmp (by kernel_rfl) (.nil))) h
 ·rw [if_neg c1] at h
  have b2 : (decide (nv < 0)) = false := decide_eq_false c1
  refine S_env [(0, vp hv), (1, vi nv), (2, vu fill), (8, .bool false)] (by simp only [b2, Bool.not_true, Bool.not_false]) ?_
  clear b2
  refine T_f 8 kk8 kk9 ?_
  refine T_sr 3 kk12 kk13 ?_
  refine T_ne 3 [(0, vp hv), (1, vi nv), (2, vu fill), (11, .bool (decide (nv > 62)))] ?_
  by_cases c3 : nv > 62
  ·rw [if_pos c3] at h
   have b4 : (decide (nv > 62)) = true := decide_eq_true c3
   refine S_env [(0, vp hv), (1, vi nv), (2, vu fill), (11, .bool true)] (by simp only [b4, Bool.not_true, Bool.not_false]) ?_
   clear b4
   refine T_t 11 kk14 kk15 ?_
   refine T_sr 4 kk16 kk17 ?_
   refine T_ne 2 [(6, vu 0), (7, vi 6)] ?_
   refine S_ret (by kernel_rfl) ?_
   show At _ _ _ _ _ (Q .ret)
   exact S_done (fn := Try.f12) [vu 0, vi 6] hQ (show ResOK _ _ _ [.tmp 6, .tmp 7] _ from .tmp (by kernel_rfl) (.tmp (by kernel_rfl) (.nil))) h
  ·rw [if_neg c3] at h
   have b4 : (decide (nv > 62)) = false := decide_eq_false c3
   refine S_env [(0, vp hv), (1, vi nv), (2, vu fill), (11, .bool false)] (by simp only [b4, Bool.not_true, Bool.not_false]) ?_
   clear b4
   refine T_f 11 kk14 kk15 ?_
   refine T_k ?_
   refine S_blockEnd ?_
   refine S_then ?_
   refine T_sr 5 kk18 kk19 ?_
   refine T_n 2 [(1, vi nv), (14, vp hv), (15, vu fill)] ?_
   refine N_new (some 16) (fun b => vs (pa b) 1 1) (.cells #[vu fill] 32) (fun _=>by kernel_rfl) ?_
   intro b H1 e5 e6
   replace h := h b H1 e5 e6
   refine ⟨[(1, vi nv), (14, vp hv), (16, vs (pa b) 1 1)], pk, ?_⟩
   refine T_n 1 [(14, vp hv), (16, vs (pa b) 1 1), (17, vi nv)] ?_
   refine N_call (some 18) 27 #[vs (pa b) 1 1, vi nv] (fun _=>by kernel_rfl) h ?_; clear h
   rintro v H2 ⟨xB, xN, xC, rfl, h⟩
   refine ⟨[(14, vp hv), (18, vs xB xN xC)], pk, ?_⟩
   refine N_call (some 19) 10 #[vp hv, vi 1, vu 0, vs xB xN xC] (fun _=>by kernel_rfl) h ?_; clear h
   rintro a H3 ⟨ra, rb, rfl, h⟩
   refine ⟨[(19, .tuple #[vu ra, vi rb])], pk, ?_⟩
   refine T_ne 4 [(6, vu ra), (7, vi rb)] ?_
   refine S_ret (by kernel_rfl) ?_
   show At _ _ _ _ _ (Q .ret)
   exact S_done (fn := Try.f12) [vu ra, vi rb] hQ (show ResOK _ _ _ [.tmp 6, .tmp 7] _ from .tmp (by kernel_rfl) (.tmp (by kernel_rfl) (.nil))) h
end obj_Heap_Vector

/-! (*moraine/obj.Heap).String -/
namespace obj_Heap_String
def kk0 := Func.code Try.f13
def kk1 := Code.fa kk0
def kk2 := Code.fb kk0
def kk3 := Code.fa kk2
def kk4 := Code.fb kk2
def kk5 := Code.fa kk4
def kk6 := Code.fb kk4
def kk7 := Code.fa kk5
def kk8 := Code.fb kk5
def kk9 := Code.fa kk8
def kk10 := Code.fa kk9
def kk11 := Code.fa kk10
def kk12 := Code.fb kk10
def kk13 := Code.fa kk12
def kk14 := Code.fb kk12
def kk15 := Code.fa kk13
def kk16 := Code.fb kk13
def kk17 := Code.fa kk14
def kk18 := Code.fa kk17
def kk19 := Code.fb kk17
def kk20 := Code.fa kk19
def kk21 := Code.fb kk19
def kk22 := Code.fa kk21
def kk23 := Code.fb kk21
def kk24 := Code.fa kk23
def kk25 := Code.fb kk23
def kk26 := Code.fa kk24
def kk27 := Code.fb kk24
def kk28 := Code.fa kk6
def kk29 := Code.fb kk6
end obj_Heap_String
def obj_Heap_String.pt (hv : Option Addr) (s : ByteArray) (H : Array Obj) (R : Value → Array Obj → Prop) : Prop :=
 ∀ (b : Nat) (H1 : Array Obj), b = H.size → H1 = H.push (.stringIter s 0) →
 ∃ (f : (Option Addr) → Nat → Nat → Array Obj → Prop) (m11 : (Option Addr) → Nat → Nat → Array Obj → Nat), f none 0 0 H1 ∧ ∀ (lB : Option Addr) (lN : Nat) (lC : Nat) (H2 : Array Obj), f lB lN lC H2 →
 ∃ (a : ByteArray) (pos : Nat), H2[b]? = some (.stringIter a pos) ∧
 if pos < a.size then (∀ H3 : Array Obj, H3 = setBlk H2 b (.stringIter a (pos + (Utf8.decode a pos).2)) →
 ∀ (e : Nat) (H4 : Array Obj), e = H3.size → H4 = H3.push (.cells #[.int .u64 (IntKind.wrap .u64 ((Utf8.decode a pos).1 : Int))] 32) →
 appendK 1 32 8 [.int .u64 0] lB lN lC (some (Addr.mk e 0 none)) 1 H4 (fun ap d H5 =>
 if ((lN + 1) : Int) > 62 then (
 R (.tuple #[.int .u64 0, .int .i64 6]) H5)
 else
 (f ap (lN + 1) d H5 ∧ m11 ap (lN + 1) d H5 < m11 lB lN lC H2)))
 else
 obj_Heap_Make.C hv 2 0 lB lN lC H2 (fun v H6 => ∃ ra : Int, ∃ rb : Int, v = .tuple #[.int .u64 ra, .int .i64 rb] ∧ 
 R (.tuple #[.int .u64 ra, .int .i64 rb]) H6)
namespace obj_Heap_String
set_option maxRecDepth 100000 in
theorem link {hv : Option Addr} {s : ByteArray} {H : Array Obj} {R : Value → Array Obj → Prop} (h : pt hv s H R) : C hv s H R := by
 refine S_enter (fn := Try.f13) (c := kk0) 27 Try.func13 (by kernel_rfl) (by kernel_rfl) (Nat.le_of_ble_eq_true (by kernel_rfl)) ?_
 intro w0 Q hQ
 unfold pt at h
 refine T_su [(0, vp hv), (1, .string s)] ?_
 refine T_sr 0 kk1 kk2 ?_
 refine T_ne 2 [(0, vp hv), (1, .string s)] ?_
 refine T_sr 1 kk3 kk4 ?_
 refine T_ne 1 [(0, vp hv), (1, .string s), (6, vs none 0 0)] ?_
 refine T_s kk5 kk6 ?_
 refine T_sr 2 kk7 kk8 ?_
 refine T_n 1 [(0, vp hv), (6, vs none 0 0), (9, .string s)] ?_
 refine N_new (some 10) (fun b => vp (pa b)) (.stringIter s 0) (fun _=>by kernel_rfl) ?_
 intro b H1 e1 e2
 replace h := h b H1 e1 e2
 refine ⟨[(0, vp hv), (6, vs none 0 0), (10, vp (pa b))], pk, ?_⟩
 refine T_e ?_
 refine T_b 0 kk9 ?_
 obtain ⟨f, m11, i3, i4⟩ := h
 refine S_loop (x := kk10) (σ := (Option Addr) × Nat × Nat) (fun s_ => [(0, vp hv), (6, vs s_.1 s_.2.1 s_.2.2), (10, vp (pa b))]) (fun s_ H => f s_.1 s_.2.1 s_.2.2 H) (fun s_ H => m11 s_.1 s_.2.1 s_.2.2 H) ((none, 0, 0) : (Option Addr) × Nat × Nat) (by kernel_rfl) i3 sk ?_
 rintro ⟨lB, lN, lC⟩ H2 i5
 have h := i4 lB lN lC H2 i5
 refine T_su [(0, vp hv), (6, vs lB lN lC), (10, vp (pa b))] ?_
 refine T_sr 3 kk11 kk12 ?_
 obtain ⟨a, pos, q6, h⟩ := h
 by_cases c7 : pos < a.size
 ·rw [if_pos c7] at h
  refine N_op (some 11) (nextN (vp (pa b)) true 0) _ (fun _=>by kernel_rfl) (next_go q6 c7) ?_
  rintro _ H3 ⟨rfl, e12⟩
  replace h := h H3 (by assumption)
  refine ⟨[(0, vp hv), (6, vs lB lN lC), (10, vp (pa b)), (11, .tuple #[.bool true, vi pos, .int .i32 ((Utf8.decode a pos).1 : Int)])], pk, ?_⟩
  refine T_ne 1 [(0, vp hv), (6, vs lB lN lC), (10, vp (pa b)), (11, .tuple #[.bool true, vi pos, .int .i32 ((Utf8.decode a pos).1 : Int)]), (12, .bool true)] ?_
  refine T_s kk13 kk14 ?_
  refine T_t 12 kk15 kk16 ?_
  refine T_kt ?_
  refine T_b 1 kk17 ?_
  refine T_sr 4 kk18 kk19 ?_
  refine T_ne 2 [(0, vp hv), (6, vs lB lN lC), (8, .int .i32 ((Utf8.decode a pos).1 : Int)), (10, vp (pa b))] ?_
  refine T_sr 5 kk20 kk21 ?_
  refine T_n 3 [(0, vp hv), (10, vp (pa b)), (14, vs lB lN lC), (16, vu (IntKind.wrap .u64 ((Utf8.decode a pos).1 : Int)))] ?_
  refine N_new (some 17) (fun b => vs (pa b) 1 1) (.cells #[vu (IntKind.wrap .u64 ((Utf8.decode a pos).1 : Int))] 32) (fun _=>by kernel_rfl) ?_
  intro e H4 e8 e9
  replace h := h e H4 e8 e9
  refine ⟨[(0, vp hv), (10, vp (pa b)), (14, vs lB lN lC), (17, vs (pa e) 1 1)], pk, ?_⟩
  refine N_op (some 18) (appendN #[29, 29] 29 #[vs lB lN lC, vs (pa e) 1 1]) _ (fun _=>by kernel_rfl) (ss_append (T := 32) (sz := 1) (bytes := 8) (zero := (vu 0 : Value)) Try.underlying29 Try.underlying29 rfl (show Try.prog.info? 32 = some Try.t32 from by kernel_rfl) (by kernel_rfl) (by kernel_rfl) (by decide) (by kernel_rfl) (by first | exact h | (simpa only [Value.cells, List.toList_toArray] using h))) ?_; clear h
  rintro _ H5 ⟨ap, d, rfl, h⟩
  refine ⟨[(0, vp hv), (10, vp (pa b)), (18, vs ap (lN + 1) d)], pk, ?_⟩
  refine T_ne 1 [(0, vp hv), (6, vs ap (lN + 1) d), (10, vp (pa b))] ?_
  refine T_sr 6 kk22 kk23 ?_
  refine T_ne 3 [(0, vp hv), (6, vs ap (lN + 1) d), (10, vp (pa b)), (21, .bool (decide (((lN + 1) : Int) > 62)))] ?_
  by_cases c10 : ((lN + 1) : Int) > 62
  ·rw [if_pos c10] at h
   have b11 : (decide (((lN + 1) : Int) > 62)) = true := decide_eq_true c10
   refine S_env [(0, vp hv), (6, vs ap (lN + 1) d), (10, vp (pa b)), (21, .bool true)] (by simp only [b11, Bool.not_true, Bool.not_false]) ?_
   clear b11
   refine T_t 21 kk24 kk25 ?_
   refine T_sr 7 kk26 kk27 ?_
   refine T_ne 2 [(4, vu 0), (5, vi 6)] ?_
   refine S_ret (by kernel_rfl) ?_
   show At _ _ _ _ _ (Q .ret)
   exact S_done (fn := Try.f13) [vu 0, vi 6] hQ (show ResOK _ _ _ [.tmp 4, .tmp 5] _ from .tmp (by kernel_rfl) (.tmp (by kernel_rfl) (.nil))) h
  ·rw [if_neg c10] at h
   have b11 : (decide (((lN + 1) : Int) > 62)) = false := decide_eq_false c10
   refine S_env [(0, vp hv), (6, vs ap (lN + 1) d), (10, vp (pa b)), (21, .bool false)] (by simp only [b11, Bool.not_true, Bool.not_false]) ?_
   clear b11
   refine T_f 21 kk24 kk25 ?_
   refine T_k ?_
   refine S_blockEnd ?_
   refine S_then ?_
   exact S_round ((ap, (lN + 1), d) : (Option Addr) × Nat × Nat) sk h
 ·rw [if_neg c7] at h
  refine N_op (some 11) (nextN (vp (pa b)) true 0) _ (fun _=>by kernel_rfl) (next_end q6 c7) ?_
  rintro _ _ ⟨rfl, rfl⟩
  refine ⟨[(0, vp hv), (6, vs lB lN lC), (10, vp (pa b)), (11, .tuple #[.bool false])], pk, ?_⟩
  refine T_ne 1 [(0, vp hv), (6, vs lB lN lC), (10, vp (pa b)), (11, .tuple #[.bool false]), (12, .bool false)] ?_
  refine T_s kk13 kk14 ?_
  refine T_f 12 kk15 kk16 ?_
  refine S_exit 0 (by kernel_rfl) ?_
  refine S_exitThen ?_
  refine S_exitThen ?_
  refine S_exitHere ?_
  refine S_then ?_
  refine T_sr 8 kk28 kk29 ?_
  refine T_n 2 [(22, vp hv), (23, vs lB lN lC)] ?_
  refine N_call (some 24) 10 #[vp hv, vi 2, vu 0, vs lB lN lC] (fun _=>by kernel_rfl) h ?_; clear h
  rintro v H6 ⟨ra, rb, rfl, h⟩
  refine ⟨[(24, .tuple #[vu ra, vi rb])], pk, ?_⟩
  refine T_ne 4 [(4, vu ra), (5, vi rb)] ?_
  refine S_ret (by kernel_rfl) ?_
  show At _ _ _ _ _ (Q .ret)
  exact S_done (fn := Try.f13) [vu ra, vi rb] hQ (show ResOK _ _ _ [.tmp 4, .tmp 5] _ from .tmp (by kernel_rfl) (.tmp (by kernel_rfl) (.nil))) h
end obj_Heap_String

/-! (*moraine/obj.Heap).Int -/
namespace obj_Heap_Int
def kk0 := Func.code Try.f14
def kk1 := Code.fa kk0
def kk2 := Code.fb kk0
def kk3 := Code.fa kk2
def kk4 := Code.fb kk2
def kk5 := Code.fa kk4
def kk6 := Code.fb kk4
def kk7 := Code.fa kk5
def kk8 := Code.fb kk5
def kk9 := Code.fa kk8
def kk10 := Code.fb kk8
def kk11 := Code.fa kk6
def kk12 := Code.fb kk6
def kk13 := Code.fa kk11
def kk14 := Code.fb kk11
def kk15 := Code.fa kk14
def kk16 := Code.fb kk14
def kk17 := Code.fa kk16
def kk18 := Code.fb kk16
def kk19 := Code.fa kk17
def kk20 := Code.fb kk17
def kk21 := Code.fa kk12
def kk22 := Code.fb kk12
def kk23 := Code.fa kk22
def kk24 := Code.fb kk22
def kk25 := Code.fa kk23
def kk26 := Code.fb kk23
def kk27 := Code.fa kk26
def kk28 := Code.fa kk27
def kk29 := Code.fa kk28
def kk30 := Code.fb kk28
def kk31 := Code.fa kk30
def kk32 := Code.fb kk30
def kk33 := Code.fa kk31
def kk34 := Code.fb kk31
def kk35 := Code.fa kk32
def kk36 := Code.fb kk32
def kk37 := Code.fa kk35
def kk38 := Code.fa kk37
def kk39 := Code.fb kk37
def kk40 := Code.fa kk24
def kk41 := Code.fb kk24
def kk42 := Code.fa kk41
def kk43 := Code.fb kk41
def kk44 := Code.fa kk42
def kk45 := Code.fb kk42
def kk46 := Code.fa kk45
def kk47 := Code.fb kk45
def kk48 := Code.fa kk43
def kk49 := Code.fb kk43
def kk50 := Code.fa kk9
def kk51 := Code.fb kk9
end obj_Heap_Int
def obj_Heap_Int.pt (hv : Option Addr) (nNeg : Bool) (nMagB : Option Addr) (nMagN : Nat) (nMagC : Nat) (H : Array Obj) (R : Value → Array Obj → Prop) : Prop :=
 ∀ (b : Nat) (H1 : Array Obj), b = H.size → H1 = H.push (.cells #[.bool nNeg, .slice nMagB nMagN nMagC] 38) →
 ∃ ae : Bool, ∃ r : Option Addr, ∃ u : Nat, ∃ s : Nat, RowAt H1 (Addr.mk b 0 none) 0 [.bool ae, .slice r u s] ∧
 num_Norm.C ae r u s H1 (fun v H2 => ∃ l : Bool, ∃ e : Option Addr, ∃ g : Nat, ∃ f : Nat, ∃ rb : Int, v = .tuple #[.agg #[.bool l, .slice e g f], .int .i64 rb] ∧ 
 ∀ (d : Nat) (H3 : Array Obj), d = H2.size → H3 = H2.push (.cells #[.bool false, .slice none 0 0] 38) →
 (CanPuts H3 (Addr.mk d 0 none) 0 2) ∧ ∀ H4 : Array Obj, H4 = hputs H3 (Addr.mk d 0 none) [.bool l, .slice e g f] 0 →
 if rb = 0 then (
 ∃ p : Bool, ∃ o : Option Addr, ∃ m : Nat, ∃ n : Nat, RowAt H4 (Addr.mk d 0 none) 0 [.bool p, .slice o m n] ∧
 num_Fix.C p o m n H4 (fun al H5 => ∃ ra : Int, ∃ q : Bool, al = .tuple #[.int .i64 ra, .bool q] ∧ 
 if q = true then (
 word_Fix.C ra H5 (fun ao H6 => ∃ aa : Int, ∃ ad : Int, ao = .tuple #[.int .u64 aa, .int .i64 ad] ∧ 
 R (.tuple #[.int .u64 aa, .int .i64 ad]) H6))
 else
 ∃ xB : Option Addr, ∃ xN : Nat, ∃ xC : Nat, hat H5 ((Addr.mk d 0 none).add 1) = some (.slice xB xN xC) ∧
 ∃ (ai : (Option Addr) → Nat → Nat → Int → Array Obj → Prop) (m29 : (Option Addr) → Nat → Nat → Int → Array Obj → Nat), ai none 0 0 0 H5 ∧ ∀ (lB : Option Addr) (lN : Nat) (lC : Nat) (s35 : Int) (H7 : Array Obj), ai lB lN lC s35 H7 →
 if s35 < (xN : Int) then (
 ∃ j : Addr, xB = some j ∧
 ((0 : Int) ≤ s35 ∧ s35 < (xN : Int)) ∧
 ∃ x : Int, hat H7 (j.add (Int.toNat s35 * 1)) = some (.int .u32 x) ∧
 ∀ (ah : Nat) (H8 : Array Obj), ah = H7.size → H8 = H7.push (.cells #[.int .u64 (IntKind.wrap .u64 x)] 32) →
 appendK 1 32 8 [.int .u64 0] lB lN lC (some (Addr.mk ah 0 none)) 1 H8 (fun ap ag H9 =>
 (ai ap (lN + 1) ag (IntKind.wrap .i64 (s35 + 1)) H9 ∧ m29 ap (lN + 1) ag (IntKind.wrap .i64 (s35 + 1)) H9 < m29 lB lN lC s35 H7)))
 else
 ∃ af : Bool, hat H7 (Addr.mk d 0 none) = some (.bool af) ∧
 if af = true then (
 obj_Heap_Make.C hv 3 1 lB lN lC H7 (fun ak am => ∃ y : Int, ∃ ac : Int, ak = .tuple #[.int .u64 y, .int .i64 ac] ∧ 
 R (.tuple #[.int .u64 y, .int .i64 ac]) am))
 else
 obj_Heap_Make.C hv 3 0 lB lN lC H7 (fun aj an => ∃ z : Int, ∃ ab : Int, aj = .tuple #[.int .u64 z, .int .i64 ab] ∧ 
 R (.tuple #[.int .u64 z, .int .i64 ab]) an)))
 else
 R (.tuple #[.int .u64 0, .int .i64 rb]) H4)
namespace obj_Heap_Int
set_option maxRecDepth 100000 in
theorem link {hv : Option Addr} {nNeg : Bool} {nMagB : Option Addr} {nMagN : Nat} {nMagC : Nat} {H : Array Obj} {R : Value → Array Obj → Prop} (h : pt hv nNeg nMagB nMagN nMagC H R) : C hv nNeg nMagB nMagN nMagC H R := by
 refine S_enter (fn := Try.f14) (c := kk0) 53 Try.func14 (by kernel_rfl) (by kernel_rfl) (Nat.le_of_ble_eq_true (by kernel_rfl)) ?_
 intro w0 Q hQ
 unfold pt at h
 refine T_su [(0, vp hv), (1, .agg #[.bool nNeg, vs nMagB nMagN nMagC])] ?_
 refine T_sr 0 kk1 kk2 ?_
 refine N_new (some 3) (fun b => vp (pa b)) (.cells #[.bool nNeg, vs nMagB nMagN nMagC] 38) (fun _=>by kernel_rfl) ?_
 intro b H1 e1 e2
 replace h := h b H1 e1 e2
 refine ⟨[(0, vp hv), (3, vp (pa b))], pk, ?_⟩
 refine T_ne 2 [(0, vp hv), (3, vp (pa b))] ?_
 refine T_sr 1 kk3 kk4 ?_
 obtain ⟨ae, r, u, s, q3, h⟩ := h
 refine T_v (some 15) (loadN 38 (vp (pa b))) (.agg #[.bool ae, vs r u s]) (loadN_run (loadOK_row (fun _=>by kernel_rfl) (fun _=>by kernel_rfl) q3)) [(0, vp hv), (15, .agg #[.bool ae, vs r u s])] ?_
 refine N_call (some 16) 28 #[.agg #[.bool ae, vs r u s]] (fun _=>by kernel_rfl) h ?_; clear h
 rintro v H2 ⟨l, e, g, f, rb, rfl, h⟩
 refine ⟨[(0, vp hv), (16, .tuple #[.agg #[.bool l, vs e g f], vi rb])], pk, ?_⟩
 refine T_n 3 [(0, vp hv), (17, .agg #[.bool l, vs e g f]), (18, vi rb)] ?_
 refine N_new (some 6) (fun b => vp (pa b)) (.cells #[.bool false, vs none 0 0] 38) (fun _=>by kernel_rfl) ?_
 intro d H3 e4 e5
 replace h := h d H3 e4 e5
 refine ⟨[(0, vp hv), (6, vp (pa d)), (17, .agg #[.bool l, vs e g f]), (18, vi rb)], pk, ?_⟩
 obtain ⟨q7, h⟩ := h
 refine N_skipop none (storeN 38 (vp (pa d)) (.agg #[.bool l, vs e g f])) (fun Hz => Hz = hputs H3 (Addr.mk d 0 none) [.bool l, vs e g f] 0) (fun _=>by kernel_rfl) (ss_store [.bool l, vs e g f] 2 (by kernel_rfl) (by kernel_rfl) (fun _=>by kernel_rfl) (by kernel_rfl) q7) ?_
 intro H4 e6
 replace h := h H4 e6
 refine ⟨[(0, vp hv), (6, vp (pa d)), (18, vi rb)], pk, ?_⟩
 refine T_ne 1 [(0, vp hv), (6, vp (pa d)), (7, vi rb)] ?_
 refine T_s kk5 kk6 ?_
 refine T_sr 2 kk7 kk8 ?_
 refine T_ne 2 [(0, vp hv), (6, vp (pa d)), (7, vi rb), (20, .bool (rb != 0))] ?_
 by_cases c8 : rb = 0
 ·rw [if_pos c8] at h
  have b9 : (rb != 0) = false := bne_eq_false_iff_eq.mpr c8
  refine S_env [(0, vp hv), (6, vp (pa d)), (7, vi rb), (20, .bool false)] (by simp only [b9, Bool.not_true, Bool.not_false]) ?_
  clear b9
  refine T_f 20 kk9 kk10 ?_
  refine T_kt ?_
  refine T_s kk11 kk12 ?_
  refine T_sr 4 kk13 kk14 ?_
  refine T_nu [(0, vp hv), (6, vp (pa d))] ?_
  obtain ⟨p, o, m, n, q10, h⟩ := h
  refine T_v (some 23) (loadN 38 (vp (pa d))) (.agg #[.bool p, vs o m n]) (loadN_run (loadOK_row (fun _=>by kernel_rfl) (fun _=>by kernel_rfl) q10)) [(0, vp hv), (6, vp (pa d)), (23, .agg #[.bool p, vs o m n])] ?_
  refine N_call (some 24) 29 #[.agg #[.bool p, vs o m n]] (fun _=>by kernel_rfl) h ?_; clear h
  rintro al H5 ⟨ra, q, rfl, h⟩
  refine ⟨[(0, vp hv), (6, vp (pa d)), (24, .tuple #[vi ra, .bool q])], pk, ?_⟩
  refine T_ne 5 [(0, vp hv), (6, vp (pa d)), (8, vi ra), (9, .bool q)] ?_
  refine T_sr 5 kk15 kk16 ?_
  refine T_ne 1 [(0, vp hv), (6, vp (pa d)), (8, vi ra), (27, .bool q)] ?_
  by_cases c11 : q = true
  ·rw [if_pos c11] at h
   have b12 : q = true := c11
   refine S_env [(0, vp hv), (6, vp (pa d)), (8, vi ra), (27, .bool true)] (by simp only [b12, Bool.not_true, Bool.not_false]) ?_
   clear b12
   refine T_t 27 kk17 kk18 ?_
   refine T_sr 6 kk19 kk20 ?_
   refine T_n 1 [(28, vi ra)] ?_
   refine N_call (some 29) 30 #[vi ra] (fun _=>by kernel_rfl) h ?_; clear h
   rintro ao H6 ⟨aa, ad, rfl, h⟩
   refine ⟨[(29, .tuple #[vu aa, vi ad])], pk, ?_⟩
   refine T_ne 4 [(4, vu aa), (5, vi ad)] ?_
   refine S_ret (by kernel_rfl) ?_
   show At _ _ _ _ _ (Q .ret)
   exact S_done (fn := Try.f14) [vu aa, vi ad] hQ (show ResOK _ _ _ [.tmp 4, .tmp 5] _ from .tmp (by kernel_rfl) (.tmp (by kernel_rfl) (.nil))) h
  ·rw [if_neg c11] at h
   have b12 : q = false := eq_false_of_ne_true c11
   refine S_env [(0, vp hv), (6, vp (pa d)), (8, vi ra), (27, .bool false)] (by simp only [b12, Bool.not_true, Bool.not_false]) ?_
   clear b12
   refine T_f 27 kk17 kk18 ?_
   refine T_kt ?_
   refine T_sr 7 kk21 kk22 ?_
   refine T_ne 1 [(0, vp hv), (6, vp (pa d)), (10, vs none 0 0)] ?_
   refine T_s kk23 kk24 ?_
   refine T_sr 8 kk25 kk26 ?_
   refine T_n 1 [(0, vp hv), (6, vp (pa d)), (10, vs none 0 0), (32, vp (some ((Addr.mk d 0 none).add 1)))] ?_
   obtain ⟨xB, xN, xC, q13, h⟩ := h
   refine T_l (some 33) 36 q13 [(0, vp hv), (6, vp (pa d)), (10, vs none 0 0), (33, vs xB xN xC)] ?_
   refine T_ne 2 [(0, vp hv), (6, vp (pa d)), (10, vs none 0 0), (33, vs xB xN xC), (34, vi xN), (35, vi 0)] ?_
   refine T_b 0 kk27 ?_
   obtain ⟨ai, m29, i14, i15⟩ := h
   refine S_loop (x := kk28) (σ := (Option Addr) × Nat × Nat × Int) (fun s_ => [(0, vp hv), (6, vp (pa d)), (10, vs s_.1 s_.2.1 s_.2.2.1), (33, vs xB xN xC), (34, vi xN), (35, vi s_.2.2.2)]) (fun s_ H => ai s_.1 s_.2.1 s_.2.2.1 s_.2.2.2 H) (fun s_ H => m29 s_.1 s_.2.1 s_.2.2.1 s_.2.2.2 H) ((none, 0, 0, 0) : (Option Addr) × Nat × Nat × Int) (by kernel_rfl) i14 sk ?_
   rintro ⟨lB, lN, lC, s35⟩ H7 i16
   have h := i15 lB lN lC s35 H7 i16
   refine T_su [(0, vp hv), (6, vp (pa d)), (10, vs lB lN lC), (33, vs xB xN xC), (34, vi xN), (35, vi s35)] ?_
   refine T_sr 9 kk29 kk30 ?_
   refine T_ne 1 [(0, vp hv), (6, vp (pa d)), (10, vs lB lN lC), (33, vs xB xN xC), (34, vi xN), (35, vi s35), (36, .bool (decide (s35 < (xN : Int))))] ?_
   refine T_s kk31 kk32 ?_
   by_cases c17 : s35 < (xN : Int)
   ·rw [if_pos c17] at h
    have b18 : (decide (s35 < (xN : Int))) = true := decide_eq_true c17
    refine S_env [(0, vp hv), (6, vp (pa d)), (10, vs lB lN lC), (33, vs xB xN xC), (34, vi xN), (35, vi s35), (36, .bool true)] (by simp only [b18, Bool.not_true, Bool.not_false]) ?_
    clear b18
    refine T_t 36 kk33 kk34 ?_
    refine T_kt ?_
    refine T_s kk35 kk36 ?_
    refine T_b 1 kk37 ?_
    refine T_sr 10 kk38 kk39 ?_
    refine T_nu [(0, vp hv), (6, vp (pa d)), (10, vs lB lN lC), (33, vs xB xN xC), (34, vi xN), (35, vi s35)] ?_
    obtain ⟨j, rfl, h⟩ := h
    obtain ⟨q19, h⟩ := h
    refine T_ix (some 37) 36 77 1 j xN xC .i64 s35 Try.underlying36 q19.1 q19.2 [(0, vp hv), (6, vp (pa d)), (10, vs lB lN lC), (33, vs (some j) xN xC), (34, vi xN), (35, vi s35), (37, vp (some (j.add (Int.toNat s35 * 1))))] ?_
    obtain ⟨x, q20, h⟩ := h
    refine T_l (some 38) 77 q20 [(0, vp hv), (6, vp (pa d)), (10, vs lB lN lC), (33, vs (some j) xN xC), (34, vi xN), (35, vi s35), (38, .int .u32 x)] ?_
    refine T_ne 1 [(0, vp hv), (6, vp (pa d)), (10, vs lB lN lC), (12, .int .u32 x), (33, vs (some j) xN xC), (34, vi xN), (35, vi s35)] ?_
    refine T_r 11 kk39 ?_
    refine T_n 3 [(0, vp hv), (6, vp (pa d)), (33, vs (some j) xN xC), (34, vi xN), (35, vi s35), (39, vs lB lN lC), (41, vu (IntKind.wrap .u64 x))] ?_
    refine N_new (some 42) (fun b => vs (pa b) 1 1) (.cells #[vu (IntKind.wrap .u64 x)] 32) (fun _=>by kernel_rfl) ?_
    intro ah H8 e21 e22
    replace h := h ah H8 e21 e22
    refine ⟨[(0, vp hv), (6, vp (pa d)), (33, vs (some j) xN xC), (34, vi xN), (35, vi s35), (39, vs lB lN lC), (42, vs (pa ah) 1 1)], pk, ?_⟩
    refine N_op (some 43) (appendN #[29, 29] 29 #[vs lB lN lC, vs (pa ah) 1 1]) _ (fun _=>by kernel_rfl) (ss_append (T := 32) (sz := 1) (bytes := 8) (zero := (vu 0 : Value)) Try.underlying29 Try.underlying29 rfl (show Try.prog.info? 32 = some Try.t32 from by kernel_rfl) (by kernel_rfl) (by kernel_rfl) (by decide) (by kernel_rfl) (by first | exact h | (simpa only [Value.cells, List.toList_toArray] using h))) ?_; clear h
    rintro _ H9 ⟨ap, ag, rfl, h⟩
    refine ⟨[(0, vp hv), (6, vp (pa d)), (33, vs (some j) xN xC), (34, vi xN), (35, vi s35), (43, vs ap (lN + 1) ag)], pk, ?_⟩
    refine T_n 1 [(0, vp hv), (6, vp (pa d)), (10, vs ap (lN + 1) ag), (33, vs (some j) xN xC), (34, vi xN), (35, vi s35)] ?_
    refine N_end (by kernel_rfl) ?_
    refine S_blockEnd ?_
    refine S_then ?_
    refine T_r 12 kk36 ?_
    refine T_ne 2 [(0, vp hv), (6, vp (pa d)), (10, vs ap (lN + 1) ag), (33, vs (some j) xN xC), (34, vi xN), (35, vi (IntKind.wrap .i64 (s35 + 1)))] ?_
    exact S_round ((ap, (lN + 1), ag, (IntKind.wrap .i64 (s35 + 1))) : (Option Addr) × Nat × Nat × Int) sk h
   ·rw [if_neg c17] at h
    have b18 : (decide (s35 < (xN : Int))) = false := decide_eq_false c17
    refine S_env [(0, vp hv), (6, vp (pa d)), (10, vs lB lN lC), (33, vs xB xN xC), (34, vi xN), (35, vi s35), (36, .bool false)] (by simp only [b18, Bool.not_true, Bool.not_false]) ?_
    clear b18
    refine T_f 36 kk33 kk34 ?_
    refine S_exit 0 (by kernel_rfl) ?_
    refine S_exitThen ?_
    refine S_exitThen ?_
    refine S_exitHere ?_
    refine S_then ?_
    refine T_sr 13 kk40 kk41 ?_
    refine T_ne 1 [(0, vp hv), (6, vp (pa d)), (10, vs lB lN lC), (13, vu 0)] ?_
    refine T_s kk42 kk43 ?_
    refine T_sr 14 kk44 kk45 ?_
    refine T_n 1 [(0, vp hv), (10, vs lB lN lC), (13, vu 0), (45, vp (pa d))] ?_
    obtain ⟨af, q23, h⟩ := h
    refine T_l (some 46) 4 q23 [(0, vp hv), (10, vs lB lN lC), (13, vu 0), (46, .bool af)] ?_
    refine T_e ?_
    by_cases c24 : af = true
    ·rw [if_pos c24] at h
     have b25 : af = true := c24
     refine S_env [(0, vp hv), (10, vs lB lN lC), (13, vu 0), (46, .bool true)] (by simp only [b25, Bool.not_true, Bool.not_false]) ?_
     clear b25
     refine T_t 46 kk46 kk47 ?_
     refine T_r 15 kk46 ?_
     refine T_ne 1 [(0, vp hv), (10, vs lB lN lC), (13, vu 1)] ?_
     refine T_sr 16 kk48 kk49 ?_
     refine T_n 3 [(47, vp hv), (48, vu 1), (49, vs lB lN lC)] ?_
     refine N_call (some 50) 10 #[vp hv, vi 3, vu 1, vs lB lN lC] (fun _=>by kernel_rfl) h ?_; clear h
     rintro ak am ⟨y, ac, rfl, h⟩
     refine ⟨[(50, .tuple #[vu y, vi ac])], pk, ?_⟩
     refine T_ne 4 [(4, vu y), (5, vi ac)] ?_
     refine S_ret (by kernel_rfl) ?_
     show At _ _ _ _ _ (Q .ret)
     exact S_done (fn := Try.f14) [vu y, vi ac] hQ (show ResOK _ _ _ [.tmp 4, .tmp 5] _ from .tmp (by kernel_rfl) (.tmp (by kernel_rfl) (.nil))) h
    ·rw [if_neg c24] at h
     have b25 : af = false := eq_false_of_ne_true c24
     refine S_env [(0, vp hv), (10, vs lB lN lC), (13, vu 0), (46, .bool false)] (by simp only [b25, Bool.not_true, Bool.not_false]) ?_
     clear b25
     refine T_f 46 kk46 kk47 ?_
     refine T_kt ?_
     refine T_sr 16 kk48 kk49 ?_
     refine T_n 3 [(47, vp hv), (48, vu 0), (49, vs lB lN lC)] ?_
     refine N_call (some 50) 10 #[vp hv, vi 3, vu 0, vs lB lN lC] (fun _=>by kernel_rfl) h ?_; clear h
     rintro aj an ⟨z, ab, rfl, h⟩
     refine ⟨[(50, .tuple #[vu z, vi ab])], pk, ?_⟩
     refine T_ne 4 [(4, vu z), (5, vi ab)] ?_
     refine S_ret (by kernel_rfl) ?_
     show At _ _ _ _ _ (Q .ret)
     exact S_done (fn := Try.f14) [vu z, vi ab] hQ (show ResOK _ _ _ [.tmp 4, .tmp 5] _ from .tmp (by kernel_rfl) (.tmp (by kernel_rfl) (.nil))) h
 ·rw [if_neg c8] at h
  have b9 : (rb != 0) = true := bne_iff_ne.mpr c8
  refine S_env [(0, vp hv), (6, vp (pa d)), (7, vi rb), (20, .bool true)] (by simp only [b9, Bool.not_true, Bool.not_false]) ?_
  clear b9
  refine T_t 20 kk9 kk10 ?_
  refine T_sr 3 kk50 kk51 ?_
  refine T_ne 3 [(4, vu 0), (5, vi rb)] ?_
  refine S_ret (by kernel_rfl) ?_
  show At _ _ _ _ _ (Q .ret)
  exact S_done (fn := Try.f14) [vu 0, vi rb] hQ (show ResOK _ _ _ [.tmp 4, .tmp 5] _ from .tmp (by kernel_rfl) (.tmp (by kernel_rfl) (.nil))) h
end obj_Heap_Int

/-! (*moraine/obj.Heap).Text -/
namespace obj_Heap_Text
def kk0 := Func.code Try.f22
def kk1 := Code.fa kk0
def kk2 := Code.fb kk0
def kk3 := Code.fa kk2
def kk4 := Code.fb kk2
def kk5 := Code.fa kk4
def kk6 := Code.fb kk4
def kk7 := Code.fa kk5
def kk8 := Code.fb kk5
def kk9 := Code.fa kk8
def kk10 := Code.fb kk8
def kk11 := Code.fa kk6
def kk12 := Code.fb kk6
def kk13 := Code.fa kk12
def kk14 := Code.fb kk12
def kk15 := Code.fa kk13
def kk16 := Code.fb kk13
def kk17 := Code.fa kk16
def kk18 := Code.fa kk17
def kk19 := Code.fa kk18
def kk20 := Code.fb kk18
def kk21 := Code.fa kk20
def kk22 := Code.fb kk20
def kk23 := Code.fa kk21
def kk24 := Code.fb kk21
def kk25 := Code.fa kk22
def kk26 := Code.fb kk22
def kk27 := Code.fa kk25
def kk28 := Code.fa kk27
def kk29 := Code.fb kk27
def kk30 := Code.fa kk29
def kk31 := Code.fb kk29
def kk32 := Code.fa kk30
def kk33 := Code.fb kk30
def kk34 := Code.fa kk33
def kk35 := Code.fb kk33
def kk36 := Code.fa kk14
def kk37 := Code.fb kk14
def kk38 := Code.fa kk9
def kk39 := Code.fb kk9
end obj_Heap_Text
def obj_Heap_Text.pt (hv : Option Addr) (wv : Int) (H : Array Obj) (R : Value → Array Obj → Prop) : Prop :=
 obj_Heap_words.C hv wv 2 H (fun v H1 => ∃ g : Option Addr, ∃ d : Nat, ∃ e : Nat, ∃ rb : Bool, v = .tuple #[.slice g d e, .bool rb] ∧ 
 if rb = true then (
 ∃ (n : (Option Addr) → Nat → Nat → Int → Array Obj → Prop) (m19 : (Option Addr) → Nat → Nat → Int → Array Obj → Nat), n none 0 0 0 H1 ∧ ∀ (sB : Option Addr) (sN : Nat) (sC : Nat) (s21 : Int) (H2 : Array Obj), n sB sN sC s21 H2 →
 if s21 < (d : Int) then (
 ∃ f : Addr, g = some f ∧
 ((0 : Int) ≤ s21 ∧ s21 < (d : Int)) ∧
 ∃ x : Int, hat H2 (f.add (Int.toNat s21 * 1)) = some (.int .u64 x) ∧
 if x > 1114111 then (
 ∀ (b : Nat) (H3 : Array Obj), b = H2.size → H3 = H2.push (.cells #[.int .i32 (IntKind.wrap .i32 65533)] 21) →
 appendK 1 21 4 [.int .i32 0] sB sN sC (some (Addr.mk b 0 none)) 1 H3 (fun ap m H4 =>
 (n ap (sN + 1) m (IntKind.wrap .i64 (s21 + 1)) H4 ∧ m19 ap (sN + 1) m (IntKind.wrap .i64 (s21 + 1)) H4 < m19 sB sN sC s21 H2)))
 else
 ∀ (o : Nat) (H5 : Array Obj), o = H2.size → H5 = H2.push (.cells #[.int .i32 (IntKind.wrap .i32 x)] 21) →
 appendK 1 21 4 [.int .i32 0] sB sN sC (some (Addr.mk o 0 none)) 1 H5 (fun l j H6 =>
 (n l (sN + 1) j (IntKind.wrap .i64 (s21 + 1)) H6 ∧ m19 l (sN + 1) j (IntKind.wrap .i64 (s21 + 1)) H6 < m19 sB sN sC s21 H2)))
 else
 ∃ rs : List Int, (SrcAt H2 sB (rs.map (Value.int .i32)) ∧ (sB ≠ none → rs.length = sN)) ∧
 R (.tuple #[.string (runesStr rs), .int .i64 0]) H2)
 else
 R (.tuple #[.string (ByteArray.mk #[]), .int .i64 3]) H1)
namespace obj_Heap_Text
set_option maxRecDepth 100000 in
theorem link {hv : Option Addr} {wv : Int} {H : Array Obj} {R : Value → Array Obj → Prop} (h : pt hv wv H R) : C hv wv H R := by
 refine S_enter (fn := Try.f22) (c := kk0) 35 Try.func22 (by kernel_rfl) (by kernel_rfl) (Nat.le_of_ble_eq_true (by kernel_rfl)) ?_
 intro w0 Q hQ
 unfold pt at h
 refine T_su [(0, vp hv), (1, vu wv)] ?_
 refine T_sr 0 kk1 kk2 ?_
 refine T_ne 2 [(0, vp hv), (1, vu wv)] ?_
 refine T_sr 1 kk3 kk4 ?_
 refine T_n 2 [(12, vp hv), (13, vu wv)] ?_
 refine N_call (some 14) 43 #[vp hv, vu wv, vi 2] (fun _=>by kernel_rfl) h ?_; clear h
 rintro v H1 ⟨g, d, e, rb, rfl, h⟩
 refine ⟨[(14, .tuple #[vs g d e, .bool rb])], pk, ?_⟩
 refine T_ne 5 [(6, vs g d e), (7, .bool rb)] ?_
 refine T_s kk5 kk6 ?_
 refine T_sr 2 kk7 kk8 ?_
 refine T_ne 2 [(6, vs g d e), (18, .bool (!rb))] ?_
 by_cases c1 : rb = true
 ·rw [if_pos c1] at h
  have b2 : (!rb) = false := congrArg Bool.not (c1)
  have b22 : rb = true := c1
  refine S_env [(6, vs g d e), (18, .bool false)] (by simp only [b2, b22, Bool.not_true, Bool.not_false]) ?_
  clear b2 b22
  refine T_f 18 kk9 kk10 ?_
  refine T_kt ?_
  refine T_sr 4 kk11 kk12 ?_
  refine T_ne 1 [(6, vs g d e), (8, vs none 0 0)] ?_
  refine T_s kk13 kk14 ?_
  refine T_sr 5 kk15 kk16 ?_
  refine T_ne 3 [(8, vs none 0 0), (19, vs g d e), (20, vi d), (21, vi 0)] ?_
  refine T_b 0 kk17 ?_
  obtain ⟨n, m19, i3, i4⟩ := h
  refine S_loop (x := kk18) (σ := (Option Addr) × Nat × Nat × Int) (fun s_ => [(8, vs s_.1 s_.2.1 s_.2.2.1), (19, vs g d e), (20, vi d), (21, vi s_.2.2.2)]) (fun s_ H => n s_.1 s_.2.1 s_.2.2.1 s_.2.2.2 H) (fun s_ H => m19 s_.1 s_.2.1 s_.2.2.1 s_.2.2.2 H) ((none, 0, 0, 0) : (Option Addr) × Nat × Nat × Int) (by kernel_rfl) i3 sk ?_
  rintro ⟨sB, sN, sC, s21⟩ H2 i5
  have h := i4 sB sN sC s21 H2 i5
  refine T_su [(8, vs sB sN sC), (19, vs g d e), (20, vi d), (21, vi s21)] ?_
  refine T_sr 6 kk19 kk20 ?_
  refine T_ne 1 [(8, vs sB sN sC), (19, vs g d e), (20, vi d), (21, vi s21), (22, .bool (decide (s21 < (d : Int))))] ?_
  refine T_s kk21 kk22 ?_
  by_cases c6 : s21 < (d : Int)
  ·rw [if_pos c6] at h
   have b7 : (decide (s21 < (d : Int))) = true := decide_eq_true c6
   refine S_env [(8, vs sB sN sC), (19, vs g d e), (20, vi d), (21, vi s21), (22, .bool true)] (by simp only [b7, Bool.not_true, Bool.not_false]) ?_
   clear b7
   refine T_t 22 kk23 kk24 ?_
   refine T_kt ?_
   refine T_s kk25 kk26 ?_
   refine T_b 1 kk27 ?_
   refine T_sr 7 kk28 kk29 ?_
   refine T_nu [(8, vs sB sN sC), (19, vs g d e), (20, vi d), (21, vi s21)] ?_
   obtain ⟨f, rfl, h⟩ := h
   obtain ⟨q8, h⟩ := h
   refine T_ix (some 23) 29 32 1 f d e .i64 s21 Try.underlying29 q8.1 q8.2 [(8, vs sB sN sC), (19, vs (some f) d e), (20, vi d), (21, vi s21), (23, vp (some (f.add (Int.toNat s21 * 1))))] ?_
   obtain ⟨x, q9, h⟩ := h
   refine T_l (some 24) 32 q9 [(8, vs sB sN sC), (19, vs (some f) d e), (20, vi d), (21, vi s21), (24, vu x)] ?_
   refine T_ne 1 [(8, vs sB sN sC), (10, vu x), (19, vs (some f) d e), (20, vi d), (21, vi s21)] ?_
   refine T_s kk30 kk31 ?_
   refine T_sr 8 kk32 kk33 ?_
   refine T_ne 2 [(8, vs sB sN sC), (10, vu x), (19, vs (some f) d e), (20, vi d), (21, vi s21), (26, .bool (decide (x > 1114111)))] ?_
   by_cases c10 : x > 1114111
   ·rw [if_pos c10] at h
    have b11 : (decide (x > 1114111)) = true := decide_eq_true c10
    refine S_env [(8, vs sB sN sC), (10, vu x), (19, vs (some f) d e), (20, vi d), (21, vi s21), (26, .bool true)] (by simp only [b11, Bool.not_true, Bool.not_false]) ?_
    clear b11
    refine T_t 26 kk34 kk35 ?_
    refine T_r 9 kk34 ?_
    refine T_ne 1 [(8, vs sB sN sC), (10, vu 65533), (19, vs (some f) d e), (20, vi d), (21, vi s21)] ?_
    refine T_r 10 kk31 ?_
    refine T_n 3 [(19, vs (some f) d e), (20, vi d), (21, vi s21), (27, vs sB sN sC), (29, .int .i32 (IntKind.wrap .i32 65533))] ?_
    refine N_new (some 30) (fun b => vs (pa b) 1 1) (.cells #[.int .i32 (IntKind.wrap .i32 65533)] 21) (fun _=>by kernel_rfl) ?_
    intro b H3 e12 e13
    replace h := h b H3 e12 e13
    refine ⟨[(19, vs (some f) d e), (20, vi d), (21, vi s21), (27, vs sB sN sC), (30, vs (pa b) 1 1)], pk, ?_⟩
    refine N_op (some 31) (appendN #[100, 100] 100 #[vs sB sN sC, vs (pa b) 1 1]) _ (fun _=>by kernel_rfl) (ss_append (T := 21) (sz := 1) (bytes := 4) (zero := (.int .i32 0 : Value)) Try.underlying100 Try.underlying100 rfl (show Try.prog.info? 21 = some Try.t21 from by kernel_rfl) (by kernel_rfl) (by kernel_rfl) (by decide) (by kernel_rfl) (by first | exact h | (simpa only [Value.cells, List.toList_toArray] using h))) ?_; clear h
    rintro _ H4 ⟨ap, m, rfl, h⟩
    refine ⟨[(19, vs (some f) d e), (20, vi d), (21, vi s21), (31, vs ap (sN + 1) m)], pk, ?_⟩
    refine T_n 1 [(8, vs ap (sN + 1) m), (19, vs (some f) d e), (20, vi d), (21, vi s21)] ?_
    refine N_end (by kernel_rfl) ?_
    refine S_blockEnd ?_
    refine S_then ?_
    refine T_r 11 kk26 ?_
    refine T_ne 2 [(8, vs ap (sN + 1) m), (19, vs (some f) d e), (20, vi d), (21, vi (IntKind.wrap .i64 (s21 + 1)))] ?_
    exact S_round ((ap, (sN + 1), m, (IntKind.wrap .i64 (s21 + 1))) : (Option Addr) × Nat × Nat × Int) sk h
   ·rw [if_neg c10] at h
    have b11 : (decide (x > 1114111)) = false := decide_eq_false c10
    refine S_env [(8, vs sB sN sC), (10, vu x), (19, vs (some f) d e), (20, vi d), (21, vi s21), (26, .bool false)] (by simp only [b11, Bool.not_true, Bool.not_false]) ?_
    clear b11
    refine T_f 26 kk34 kk35 ?_
    refine T_kt ?_
    refine T_r 10 kk31 ?_
    refine T_n 3 [(19, vs (some f) d e), (20, vi d), (21, vi s21), (27, vs sB sN sC), (29, .int .i32 (IntKind.wrap .i32 x))] ?_
    refine N_new (some 30) (fun b => vs (pa b) 1 1) (.cells #[.int .i32 (IntKind.wrap .i32 x)] 21) (fun _=>by kernel_rfl) ?_
    intro o H5 e14 e15
    replace h := h o H5 e14 e15
    refine ⟨[(19, vs (some f) d e), (20, vi d), (21, vi s21), (27, vs sB sN sC), (30, vs (pa o) 1 1)], pk, ?_⟩
    refine N_op (some 31) (appendN #[100, 100] 100 #[vs sB sN sC, vs (pa o) 1 1]) _ (fun _=>by kernel_rfl) (ss_append (T := 21) (sz := 1) (bytes := 4) (zero := (.int .i32 0 : Value)) Try.underlying100 Try.underlying100 rfl (show Try.prog.info? 21 = some Try.t21 from by kernel_rfl) (by kernel_rfl) (by kernel_rfl) (by decide) (by kernel_rfl) (by first | exact h | (simpa only [Value.cells, List.toList_toArray] using h))) ?_; clear h
    rintro _ H6 ⟨l, j, rfl, h⟩
    refine ⟨[(19, vs (some f) d e), (20, vi d), (21, vi s21), (31, vs l (sN + 1) j)], pk, ?_⟩
    refine T_n 1 [(8, vs l (sN + 1) j), (19, vs (some f) d e), (20, vi d), (21, vi s21)] ?_
    refine N_end (by kernel_rfl) ?_
    refine S_blockEnd ?_
    refine S_then ?_
    refine T_r 11 kk26 ?_
    refine T_ne 2 [(8, vs l (sN + 1) j), (19, vs (some f) d e), (20, vi d), (21, vi (IntKind.wrap .i64 (s21 + 1)))] ?_
    exact S_round ((l, (sN + 1), j, (IntKind.wrap .i64 (s21 + 1))) : (Option Addr) × Nat × Nat × Int) sk h
  ·rw [if_neg c6] at h
   have b7 : (decide (s21 < (d : Int))) = false := decide_eq_false c6
   refine S_env [(8, vs sB sN sC), (19, vs g d e), (20, vi d), (21, vi s21), (22, .bool false)] (by simp only [b7, Bool.not_true, Bool.not_false]) ?_
   clear b7
   refine T_f 22 kk23 kk24 ?_
   refine S_exit 0 (by kernel_rfl) ?_
   refine S_exitThen ?_
   refine S_exitThen ?_
   refine S_exitHere ?_
   refine S_then ?_
   refine T_sr 12 kk36 kk37 ?_
   refine T_n 1 [(33, vs sB sN sC)] ?_
   obtain ⟨rs, q16, h⟩ := h
   refine T_v (some 34) (convertN 100 9 (vs sB sN sC)) (.string (runesStr rs)) (fun w hw => convert_runes Try.underlying100 Try.underlying9 Try.underlying21 (by rw [hw]; exact q16.1) q16.2) [(34, .string (runesStr rs))] ?_
   refine T_ne 2 [(4, .string (runesStr rs)), (5, vi 0)] ?_
   refine S_ret (by kernel_rfl) ?_
   show At _ _ _ _ _ (Q .ret)
   exact S_done (fn := Try.f22) [.string (runesStr rs), vi 0] hQ (show ResOK _ _ _ [.tmp 4, .tmp 5] _ from .tmp (by kernel_rfl) (.tmp (by kernel_rfl) (.nil))) h
 ·rw [if_neg c1] at h
  have b2 : (!rb) = true := congrArg Bool.not (eq_false_of_ne_true c1)
  have b22 : rb = false := eq_false_of_ne_true c1
  refine S_env [(6, vs g d e), (18, .bool true)] (by simp only [b2, b22, Bool.not_true, Bool.not_false]) ?_
  clear b2 b22
  refine T_t 18 kk9 kk10 ?_
  refine T_sr 3 kk38 kk39 ?_
  refine T_ne 2 [(4, .string (ByteArray.mk #[])), (5, vi 3)] ?_
  refine S_ret (by kernel_rfl) ?_
  show At _ _ _ _ _ (Q .ret)
  exact S_done (fn := Try.f22) [.string (ByteArray.mk #[]), vi 3] hQ (show ResOK _ _ _ [.tmp 4, .tmp 5] _ from .tmp (by kernel_rfl) (.tmp (by kernel_rfl) (.nil))) h
end obj_Heap_Text

/-! (*moraine/obj.Heap).words -/
namespace obj_Heap_words
def kk0 := Func.code Try.f43
def kk1 := Code.fa kk0
def kk2 := Code.fb kk0
def kk3 := Code.fa kk2
def kk4 := Code.fb kk2
def kk5 := Code.fa kk4
def kk6 := Code.fb kk4
def kk7 := Code.fa kk5
def kk8 := Code.fb kk5
def kk9 := Code.fa kk8
def kk10 := Code.fb kk8
def kk11 := Code.fa kk9
def kk12 := Code.fb kk9
def kk13 := Code.fa kk6
def kk14 := Code.fb kk6
def kk15 := Code.fa kk14
def kk16 := Code.fb kk14
def kk17 := Code.fa kk15
def kk18 := Code.fb kk15
def kk19 := Code.fa kk18
def kk20 := Code.fa kk19
def kk21 := Code.fa kk20
def kk22 := Code.fb kk20
def kk23 := Code.fa kk22
def kk24 := Code.fb kk22
def kk25 := Code.fa kk23
def kk26 := Code.fb kk23
def kk27 := Code.fa kk24
def kk28 := Code.fb kk24
def kk29 := Code.fa kk27
def kk30 := Code.fa kk29
def kk31 := Code.fb kk29
def kk32 := Code.fa kk16
def kk33 := Code.fb kk16
end obj_Heap_words
def obj_Heap_words.pt (hv : Option Addr) (wv : Int) (kind : Int) (H : Array Obj) (R : Value → Array Obj → Prop) : Prop :=
 obj_Heap_object.C hv wv H (fun v H1 => ∃ ra : Int, ∃ rb : Int, ∃ rc : Int, ∃ rd : Int, ∃ re : Bool, v = .tuple #[.int .i64 ra, .int .i64 rb, .int .i64 rc, .int .u64 rd, .bool re] ∧ 
 if ((!re) || (rb != kind)) = true then (
 R (.tuple #[.slice none 0 0, .bool false]) H1)
 else
 0 ≤ rc ∧ rc ≤ rc ∧ 8 * rc ≤ 2 ^ 48 ∧ rc ≤ 9223372036854775807 ∧
 ∀ (b : Nat) (H2 : Array Obj), b = H1.size → H2 = H1.push (.cells (Builtin.zeroCells #[.int .u64 0] (Int.toNat rc)) 32) →
 ∃ (m : Int → Array Obj → Prop) (m21 : Int → Array Obj → Nat), m 0 H2 ∧ ∀ (d : Int) (H3 : Array Obj), m d H3 →
 if d < ((Int.toNat rc) : Int) then (
 ∃ e : Addr, hv = some e ∧
 ∃ x : Option Addr, hat H3 e = some (.pointer x) ∧
 ∃ xA : Addr, x = some xA ∧
 ∃ l : Option Addr, hat H3 xA = some (.pointer l) ∧
 ∃ j : Addr, l = some j ∧
 ∃ g : Option Addr, hat H3 j = some (.pointer g) ∧
 seg_Mem_Read.C g (IntKind.wrap .i64 ((IntKind.wrap .i64 (ra + 1)) + d)) H3 (fun o H4 => ∃ f : Int, ∃ n : Int, o = .tuple #[.int .u64 f, .int .i64 n] ∧ 
 ((0 : Int) ≤ d ∧ d < ((Int.toNat rc) : Int)) ∧
 (CanPuts H4 ((Addr.mk b 0 none).add (Int.toNat d * 1)) 0 1) ∧ ∀ H5 : Array Obj, H5 = hputs H4 ((Addr.mk b 0 none).add (Int.toNat d * 1)) [.int .u64 f] 0 →
 (m (IntKind.wrap .i64 (d + 1)) H5 ∧ m21 (IntKind.wrap .i64 (d + 1)) H5 < m21 d H3)))
 else
 R (.tuple #[.slice (some (Addr.mk b 0 none)) (Int.toNat rc) (Int.toNat rc), .bool true]) H3)
namespace obj_Heap_words
set_option maxRecDepth 100000 in
theorem link {hv : Option Addr} {wv : Int} {kind : Int} {H : Array Obj} {R : Value → Array Obj → Prop} (h : pt hv wv kind H R) : C hv wv kind H R := by
 refine S_enter (fn := Try.f43) (c := kk0) 61 Try.func43 (by kernel_rfl) (by kernel_rfl) (Nat.le_of_ble_eq_true (by kernel_rfl)) ?_
 intro w0 Q hQ
 unfold pt at h
 refine T_su [(0, vp hv), (1, vu wv), (2, vi kind)] ?_
 refine T_sr 0 kk1 kk2 ?_
 refine T_ne 2 [(0, vp hv), (1, vu wv), (2, vi kind)] ?_
 refine T_sr 1 kk3 kk4 ?_
 refine T_n 2 [(0, vp hv), (2, vi kind), (16, vp hv), (17, vu wv)] ?_
 refine N_call (some 18) 32 #[vp hv, vu wv] (fun _=>by kernel_rfl) h ?_; clear h
 rintro v H1 ⟨ra, rb, rc, rd, re, rfl, h⟩
 refine ⟨[(0, vp hv), (2, vi kind), (18, .tuple #[vi ra, vi rb, vi rc, vu rd, .bool re])], pk, ?_⟩
 refine T_ne 11 [(0, vp hv), (2, vi kind), (8, vi ra), (9, vi rb), (10, vi rc), (12, .bool re)] ?_
 refine T_s kk5 kk6 ?_
 refine T_sr 2 kk7 kk8 ?_
 refine N_cut [(0, vp hv), (8, vi ra), (10, vi rc), (30, .bool ((!re) || (rb != kind)))] ?_ ?_
 ·refine S_then ?_
  by_cases c3 : ((!re) || (rb != kind)) = true
  ·rw [if_pos c3] at h
   have b4 : ((!re) || (rb != kind)) = true := c3
   refine S_env [(0, vp hv), (8, vi ra), (10, vi rc), (30, .bool true)] (by simp only [b4, Bool.not_true, Bool.not_false]) ?_
   clear b4
   refine T_t 30 kk9 kk10 ?_
   refine T_sr 3 kk11 kk12 ?_
   refine T_ne 2 [(6, vs none 0 0), (7, .bool false)] ?_
   refine S_ret (by kernel_rfl) ?_
   show At _ _ _ _ _ (Q .ret)
   exact S_done (fn := Try.f43) [vs none 0 0, .bool false] hQ (show ResOK _ _ _ [.tmp 6, .tmp 7] _ from .tmp (by kernel_rfl) (.tmp (by kernel_rfl) (.nil))) h
  ·rw [if_neg c3] at h
   have b4 : ((!re) || (rb != kind)) = false := eq_false_of_ne_true c3
   refine S_env [(0, vp hv), (8, vi ra), (10, vi rc), (30, .bool false)] (by simp only [b4, Bool.not_true, Bool.not_false]) ?_
   clear b4
   refine T_f 30 kk9 kk10 ?_
   refine T_kt ?_
   refine T_sr 4 kk13 kk14 ?_
   refine T_n 1 [(0, vp hv), (8, vi ra), (31, vi rc)] ?_
   obtain ⟨q5, q6, q7, q8, h⟩ := h
   refine N_op (some 32) (makeSliceN 29 (vi rc) (vi rc)) (fun v Hz => v = Value.slice (some (Addr.mk H1.size 0 none)) (Int.toNat rc) (Int.toNat rc) ∧ Hz = H1.push (.cells (Builtin.zeroCells #[vu 0] (Int.toNat rc)) 32)) (fun _=>by kernel_rfl) (ss_make (T := 32) (zero := vu 0) Try.underlying29 (show Try.prog.info? 32 = some Try.t32 from by kernel_rfl) (by kernel_rfl) q5 q6 q7 q8 (by kernel_rfl) (by decide)) ?_
   rintro _ H2 ⟨rfl, e10⟩
   obtain ⟨b, e9⟩ : ∃ b, b = H1.size := ⟨_, rfl⟩
   replace h := h b H2 e9 e10
   rw [← e9]
   refine ⟨[(0, vp hv), (8, vi ra), (32, vs (pa b) (Int.toNat rc) (Int.toNat rc))], pk, ?_⟩
   refine T_ne 1 [(0, vp hv), (8, vi ra), (13, vs (pa b) (Int.toNat rc) (Int.toNat rc))] ?_
   refine T_s kk15 kk16 ?_
   refine T_sr 5 kk17 kk18 ?_
   refine T_ne 3 [(0, vp hv), (8, vi ra), (13, vs (pa b) (Int.toNat rc) (Int.toNat rc)), (34, vi ((Int.toNat rc) : Int)), (35, vi 0)] ?_
   refine T_b 0 kk19 ?_
   obtain ⟨m, m21, i11, i12⟩ := h
   refine S_loop (x := kk20) (σ := Int) (fun s_ => [(0, vp hv), (8, vi ra), (13, vs (pa b) (Int.toNat rc) (Int.toNat rc)), (34, vi ((Int.toNat rc) : Int)), (35, vi s_)]) (fun s_ H => m s_ H) (fun s_ H => m21 s_ H) (0 : Int) (by kernel_rfl) i11 sk ?_
   rintro d H3 i13
   have h := i12 d H3 i13
   refine T_su [(0, vp hv), (8, vi ra), (13, vs (pa b) (Int.toNat rc) (Int.toNat rc)), (34, vi ((Int.toNat rc) : Int)), (35, vi d)] ?_
   refine T_sr 6 kk21 kk22 ?_
   refine T_ne 1 [(0, vp hv), (8, vi ra), (13, vs (pa b) (Int.toNat rc) (Int.toNat rc)), (34, vi ((Int.toNat rc) : Int)), (35, vi d), (36, .bool (decide (d < ((Int.toNat rc) : Int))))] ?_
   refine T_s kk23 kk24 ?_
   by_cases c14 : d < ((Int.toNat rc) : Int)
   ·rw [if_pos c14] at h
    have b15 : (decide (d < ((Int.toNat rc) : Int))) = true := decide_eq_true c14
    refine S_env [(0, vp hv), (8, vi ra), (13, vs (pa b) (Int.toNat rc) (Int.toNat rc)), (34, vi ((Int.toNat rc) : Int)), (35, vi d), (36, .bool true)] (by simp only [b15, Bool.not_true, Bool.not_false]) ?_
    clear b15
    refine T_t 36 kk25 kk26 ?_
    refine T_kt ?_
    refine T_s kk27 kk28 ?_
    refine T_b 1 kk29 ?_
    refine T_sr 7 kk30 kk31 ?_
    refine T_ne 2 [(0, vp hv), (8, vi ra), (13, vs (pa b) (Int.toNat rc) (Int.toNat rc)), (14, vi d), (34, vi ((Int.toNat rc) : Int)), (35, vi d)] ?_
    refine T_r 8 kk31 ?_
    refine T_n 3 [(0, vp hv), (8, vi ra), (13, vs (pa b) (Int.toNat rc) (Int.toNat rc)), (14, vi d), (34, vi ((Int.toNat rc) : Int)), (35, vi d), (39, vs (pa b) (Int.toNat rc) (Int.toNat rc)), (40, vi d), (41, vp hv)] ?_
    obtain ⟨e, rfl, h⟩ := h
    refine T_n 2 [(0, vp (some e)), (8, vi ra), (13, vs (pa b) (Int.toNat rc) (Int.toNat rc)), (14, vi d), (34, vi ((Int.toNat rc) : Int)), (35, vi d), (39, vs (pa b) (Int.toNat rc) (Int.toNat rc)), (40, vi d), (43, vp (some e))] ?_
    obtain ⟨x, q16, h⟩ := h
    refine T_l (some 44) 53 q16 [(0, vp (some e)), (8, vi ra), (13, vs (pa b) (Int.toNat rc) (Int.toNat rc)), (14, vi d), (34, vi ((Int.toNat rc) : Int)), (35, vi d), (39, vs (pa b) (Int.toNat rc) (Int.toNat rc)), (40, vi d), (44, vp x)] ?_
    obtain ⟨xA, rfl, h⟩ := h
    refine T_n 2 [(0, vp (some e)), (8, vi ra), (13, vs (pa b) (Int.toNat rc) (Int.toNat rc)), (14, vi d), (34, vi ((Int.toNat rc) : Int)), (35, vi d), (39, vs (pa b) (Int.toNat rc) (Int.toNat rc)), (40, vi d), (46, vp (some xA))] ?_
    obtain ⟨l, q17, h⟩ := h
    refine T_l (some 47) 58 q17 [(0, vp (some e)), (8, vi ra), (13, vs (pa b) (Int.toNat rc) (Int.toNat rc)), (14, vi d), (34, vi ((Int.toNat rc) : Int)), (35, vi d), (39, vs (pa b) (Int.toNat rc) (Int.toNat rc)), (40, vi d), (47, vp l)] ?_
    obtain ⟨j, rfl, h⟩ := h
    refine T_n 2 [(0, vp (some e)), (8, vi ra), (13, vs (pa b) (Int.toNat rc) (Int.toNat rc)), (14, vi d), (34, vi ((Int.toNat rc) : Int)), (35, vi d), (39, vs (pa b) (Int.toNat rc) (Int.toNat rc)), (40, vi d), (49, vp (some j))] ?_
    obtain ⟨g, q18, h⟩ := h
    refine T_l (some 50) 86 q18 [(0, vp (some e)), (8, vi ra), (13, vs (pa b) (Int.toNat rc) (Int.toNat rc)), (14, vi d), (34, vi ((Int.toNat rc) : Int)), (35, vi d), (39, vs (pa b) (Int.toNat rc) (Int.toNat rc)), (40, vi d), (50, vp g)] ?_
    refine T_n 4 [(0, vp (some e)), (8, vi ra), (13, vs (pa b) (Int.toNat rc) (Int.toNat rc)), (34, vi ((Int.toNat rc) : Int)), (35, vi d), (39, vs (pa b) (Int.toNat rc) (Int.toNat rc)), (40, vi d), (50, vp g), (54, vi (IntKind.wrap .i64 ((IntKind.wrap .i64 (ra + 1)) + d)))] ?_
    refine N_call (some 55) 42 #[vp g, vi (IntKind.wrap .i64 ((IntKind.wrap .i64 (ra + 1)) + d))] (fun _=>by kernel_rfl) h ?_; clear h
    rintro o H4 ⟨f, n, rfl, h⟩
    refine ⟨[(0, vp (some e)), (8, vi ra), (13, vs (pa b) (Int.toNat rc) (Int.toNat rc)), (34, vi ((Int.toNat rc) : Int)), (35, vi d), (39, vs (pa b) (Int.toNat rc) (Int.toNat rc)), (40, vi d), (55, .tuple #[vu f, vi n])], pk, ?_⟩
    refine T_n 3 [(0, vp (some e)), (8, vi ra), (13, vs (pa b) (Int.toNat rc) (Int.toNat rc)), (34, vi ((Int.toNat rc) : Int)), (35, vi d), (39, vs (pa b) (Int.toNat rc) (Int.toNat rc)), (40, vi d), (56, vu f)] ?_
    obtain ⟨q19, h⟩ := h
    refine T_v (some 58) (indexAtN 29 (vs (pa b) (Int.toNat rc) (Int.toNat rc)) (vi d)) (vp (some ((Addr.mk b 0 none).add (Int.toNat d * 1)))) (fun w _ => indexAt_run (P := Try.prog) (t := 29) (elem := 32) (sz := 1) (a := (Addr.mk b 0 none)) (len := (Int.toNat rc)) (cap := (Int.toNat rc)) (k := .i64) (i := d) Try.underlying29 (fun _=>by kernel_rfl) q19.1 q19.2 w) [(0, vp (some e)), (8, vi ra), (13, vs (pa b) (Int.toNat rc) (Int.toNat rc)), (34, vi ((Int.toNat rc) : Int)), (35, vi d), (56, vu f), (58, vp (some ((Addr.mk b 0 none).add (Int.toNat d * 1))))] ?_
    obtain ⟨q21, h⟩ := h
    refine N_skipop none (storeN 32 (vp (some ((Addr.mk b 0 none).add (Int.toNat d * 1)))) (vu f)) (fun Hz => Hz = hputs H4 ((Addr.mk b 0 none).add (Int.toNat d * 1)) [vu f] 0) (fun _=>by kernel_rfl) (ss_store [vu f] 1 (by kernel_rfl) (by kernel_rfl) (fun _=>by kernel_rfl) (by kernel_rfl) q21) ?_
    intro H5 e20
    replace h := h H5 e20
    refine ⟨[(0, vp (some e)), (8, vi ra), (13, vs (pa b) (Int.toNat rc) (Int.toNat rc)), (34, vi ((Int.toNat rc) : Int)), (35, vi d)], pk, ?_⟩
    refine N_end (by kernel_rfl) ?_
    refine S_blockEnd ?_
    refine S_then ?_
    refine T_r 9 kk28 ?_
    refine T_ne 2 [(0, vp (some e)), (8, vi ra), (13, vs (pa b) (Int.toNat rc) (Int.toNat rc)), (34, vi ((Int.toNat rc) : Int)), (35, vi (IntKind.wrap .i64 (d + 1)))] ?_
    exact S_round ((IntKind.wrap .i64 (d + 1)) : Int) sk h
   ·rw [if_neg c14] at h
    have b15 : (decide (d < ((Int.toNat rc) : Int))) = false := decide_eq_false c14
    refine S_env [(0, vp hv), (8, vi ra), (13, vs (pa b) (Int.toNat rc) (Int.toNat rc)), (34, vi ((Int.toNat rc) : Int)), (35, vi d), (36, .bool false)] (by simp only [b15, Bool.not_true, Bool.not_false]) ?_
    clear b15
    refine T_f 36 kk25 kk26 ?_
    refine S_exit 0 (by kernel_rfl) ?_
    refine S_exitThen ?_
    refine S_exitThen ?_
    refine S_exitHere ?_
    refine S_then ?_
    refine T_sr 10 kk32 kk33 ?_
    refine T_ne 3 [(6, vs (pa b) (Int.toNat rc) (Int.toNat rc)), (7, .bool true)] ?_
    refine S_ret (by kernel_rfl) ?_
    show At _ _ _ _ _ (Q .ret)
    exact S_done (fn := Try.f43) [vs (pa b) (Int.toNat rc) (Int.toNat rc), .bool true] hQ (show ResOK _ _ _ [.tmp 6, .tmp 7] _ from .tmp (by kernel_rfl) (.tmp (by kernel_rfl) (.nil))) h
 ·intro hk
  refine T_n 3 [(0, vp hv), (2, vi kind), (8, vi ra), (9, vi rb), (10, vi rc), (26, .bool (!re))] ?_
  by_cases c1 : re = true
  ·have b2 : (!re) = false := congrArg Bool.not (c1)
   have b22 : re = true := c1
   refine N_env [(0, vp hv), (2, vi kind), (8, vi ra), (9, vi rb), (10, vi rc), (26, .bool false)] (by simp only [b2, b22, Bool.not_true, Bool.not_false]) ?_
   refine T_n 4 [(0, vp hv), (8, vi ra), (10, vi rc), (30, .bool (rb != kind))] ?_
   refine N_end (by kernel_rfl) ?_
   refine S_env [(0, vp hv), (8, vi ra), (10, vi rc), (30, .bool ((!re) || (rb != kind)))] (by simp only [b2, Bool.true_or, Bool.false_or, Bool.or_true, Bool.or_false, Bool.true_and, Bool.false_and, Bool.and_true, Bool.and_false, Bool.not_true, Bool.not_false, cond_true, cond_false]) ?_
   exact hk
  ·have b2 : (!re) = true := congrArg Bool.not (eq_false_of_ne_true c1)
   have b22 : re = false := eq_false_of_ne_true c1
   refine N_env [(0, vp hv), (2, vi kind), (8, vi ra), (9, vi rb), (10, vi rc), (26, .bool true)] (by simp only [b2, b22, Bool.not_true, Bool.not_false]) ?_
   refine T_n 4 [(0, vp hv), (8, vi ra), (10, vi rc), (30, .bool true)] ?_
   refine N_end (by kernel_rfl) ?_
   refine S_env [(0, vp hv), (8, vi ra), (10, vi rc), (30, .bool ((!re) || (rb != kind)))] (by simp only [b2, Bool.true_or, Bool.false_or, Bool.or_true, Bool.or_false, Bool.true_and, Bool.false_and, Bool.and_true, Bool.and_false, Bool.not_true, Bool.not_false, cond_true, cond_false]) ?_
   exact hk
end obj_Heap_words

end Go.Proofs.Ytillpfaabdlaiaa
