/-
 Written by a program of mine (gen.py): for functions of this translation a predicate transformer over heaps (.pt), and the proof that it is sound for the call (.link).
-/
import Derived.Test.YtillpfaabdlaiaaFnsC
set_option linter.unusedSimpArgs false
set_option linter.unusedVariables false
set_option maxHeartbeats 1000000
noncomputable section
namespace Go.Proofs.Ytillpfaabdlaiaa
open Go
/-! moraine/obj.New -/
namespace obj_New
def kk0 := Func.code Try.f4
def kk1 := Code.fa kk0
def kk2 := Code.fb kk0
def kk3 := Code.fa kk2
def kk4 := Code.fb kk2
def kk5 := Code.fa kk4
def kk6 := Code.fb kk4
def kk7 := Code.fa kk5
def kk8 := Code.fb kk5
def kk9 := Code.fa kk8
def kk10 := Code.fb kk8
def kk11 := Code.fa kk6
def kk12 := Code.fb kk6
def kk13 := Code.fa kk9
def kk14 := Code.fb kk9
end obj_New
def obj_New.pt (limit : Int) (H : Array Obj) (R : Value → Array Obj → Prop) : Prop :=
 card_New.C limit H (fun v H1 => ∃ ra : Option Addr, ∃ rb : Int, v = .tuple #[.pointer ra, .int .i64 rb] ∧ 
 if rb = 0 then (
 ∀ (b : Nat) (H2 : Array Obj), b = H1.size → H2 = H1.push (.cells #[.pointer ra, .slice none 0 0, .slice none 0 0, .int .u64 0] 56) →
 R (.tuple #[.pointer (some (Addr.mk b 0 none)), .int .i64 0]) H2)
 else
 R (.tuple #[.pointer none, .int .i64 rb]) H1)
namespace obj_New
set_option maxRecDepth 100000 in
theorem link {limit : Int} {H : Array Obj} {R : Value → Array Obj → Prop} (h : pt limit H R) : C limit H R := by
 refine S_enter (fn := Try.f4) (c := kk0) 17 Try.func4 (by kernel_rfl) (by kernel_rfl) (Nat.le_of_ble_eq_true (by kernel_rfl)) ?_
 intro w0 Q hQ
 unfold pt at h
 refine T_su [(0, vi limit)] ?_
 refine T_sr 0 kk1 kk2 ?_
 refine T_ne 2 [(0, vi limit)] ?_
 refine T_sr 1 kk3 kk4 ?_
 refine T_n 1 [(7, vi limit)] ?_
 refine N_call (some 8) 18 #[vi limit] (fun _=>by kernel_rfl) h ?_; clear h
 rintro v H1 ⟨ra, rb, rfl, h⟩
 refine ⟨[(8, .tuple #[vp ra, vi rb])], pk, ?_⟩
 refine T_ne 5 [(4, vp ra), (5, vi rb)] ?_
 refine T_s kk5 kk6 ?_
 refine T_sr 2 kk7 kk8 ?_
 refine T_ne 2 [(4, vp ra), (5, vi rb), (12, .bool (rb != 0))] ?_
 by_cases c1 : rb = 0
 ·rw [if_pos c1] at h
  have b2 : (rb != 0) = false := bne_eq_false_iff_eq.mpr c1
  refine S_env [(4, vp ra), (5, vi rb), (12, .bool false)] (by simp only [b2, Bool.not_true, Bool.not_false]) ?_
  clear b2
  refine T_f 12 kk9 kk10 ?_
  refine T_kt ?_
  refine T_sr 4 kk11 kk12 ?_
  refine T_n 2 [(15, .agg #[vp ra, vs none 0 0, vs none 0 0, vu 0])] ?_
  refine N_new (some 16) (fun b => vp (pa b)) (.cells #[vp ra, vs none 0 0, vs none 0 0, vu 0] 56) (fun _=>by kernel_rfl) ?_
  intro b H2 e3 e4
  replace h := h b H2 e3 e4
  refine ⟨[(16, vp (pa b))], pk, ?_⟩
  refine T_ne 2 [(2, vp (pa b)), (3, vi 0)] ?_
  refine S_ret (by kernel_rfl) ?_
  show At _ _ _ _ _ (Q .ret)
  exact S_done (fn := Try.f4) [vp (pa b), vi 0] hQ (show ResOK _ _ _ [.tmp 2, .tmp 3] _ from .tmp (by kernel_rfl) (.tmp (by kernel_rfl) (.nil))) h
 ·rw [if_neg c1] at h
  have b2 : (rb != 0) = true := bne_iff_ne.mpr c1
  refine S_env [(4, vp ra), (5, vi rb), (12, .bool true)] (by simp only [b2, Bool.not_true, Bool.not_false]) ?_
  clear b2
  refine T_t 12 kk9 kk10 ?_
  refine T_sr 3 kk13 kk14 ?_
  refine T_ne 3 [(2, vp none), (3, vi rb)] ?_
  refine S_ret (by kernel_rfl) ?_
  show At _ _ _ _ _ (Q .ret)
  exact S_done (fn := Try.f4) [vp none, vi rb] hQ (show ResOK _ _ _ [.tmp 2, .tmp 3] _ from .tmp (by kernel_rfl) (.tmp (by kernel_rfl) (.nil))) h
end obj_New

/-! (*moraine/obj.Heap).Make -/
namespace obj_Heap_Make
def kk0 := Func.code Try.f10
def kk1 := Code.fa kk0
def kk2 := Code.fb kk0
def kk3 := Code.fa kk2
def kk4 := Code.fb kk2
def kk5 := Code.fa kk3
def kk6 := Code.fb kk3
def kk7 := Code.fa kk6
def kk8 := Code.fb kk6
def kk9 := Code.fa kk8
def kk10 := Code.fb kk8
def kk11 := Code.fa kk4
def kk12 := Code.fb kk4
def kk13 := Code.fa kk11
def kk14 := Code.fb kk11
def kk15 := Code.fa kk14
def kk16 := Code.fb kk14
def kk17 := Code.fa kk15
def kk18 := Code.fb kk15
def kk19 := Code.fa kk12
def kk20 := Code.fb kk12
def kk21 := Code.fa kk20
def kk22 := Code.fb kk20
def kk23 := Code.fa kk9
def kk24 := Code.fb kk9
end obj_Heap_Make
def obj_Heap_Make.pt (hv : Option Addr) (kind : Int) (more : Int) (lB : Option Addr) (lN : Nat) (lC : Nat) (H : Array Obj) (R : Value → Array Obj → Prop) : Prop :=
 word_Header.C kind 0 more H (fun v H1 => ∃ ra : Int, ∃ rb : Int, v = .tuple #[.int .u64 ra, .int .i64 rb] ∧ 
 if rb = 0 then (
 if (lN : Int) > 62 then (
 R (.tuple #[.int .u64 0, .int .i64 6]) H1)
 else
 word_Header.C kind (lN : Int) more H1 (fun j H2 => ∃ a : Int, ∃ f : Int, j = .tuple #[.int .u64 a, .int .i64 f] ∧ 
 obj_raw.C kind H2 (fun k H3 => ∃ x : Int, k = .int .i64 x ∧ 
 ∀ (b : Nat) (H4 : Array Obj), b = H3.size → H4 = H3.push (.cells #[.int .u64 a] 32) →
 appendK 1 32 8 [.int .u64 0] (some (Addr.mk b 0 none)) 1 1 lB lN H4 (fun ap g H5 =>
 obj_Heap_put.C hv x 3 ap (1 + lN) g H5 (fun i H6 => ∃ d : Int, ∃ e : Int, i = .tuple #[.int .u64 d, .int .i64 e] ∧ 
 R (.tuple #[.int .u64 d, .int .i64 e]) H6)))))
 else
 R (.tuple #[.int .u64 0, .int .i64 rb]) H1)
namespace obj_Heap_Make
set_option maxRecDepth 100000 in
theorem link {hv : Option Addr} {kind : Int} {more : Int} {lB : Option Addr} {lN : Nat} {lC : Nat} {H : Array Obj} {R : Value → Array Obj → Prop} (h : pt hv kind more lB lN lC H R) : C hv kind more lB lN lC H R := by
 refine S_enter (fn := Try.f10) (c := kk0) 44 Try.func10 (by kernel_rfl) (by kernel_rfl) (Nat.le_of_ble_eq_true (by kernel_rfl)) ?_
 intro w0 Q hQ
 unfold pt at h
 refine T_su [(0, vp hv), (1, vi kind), (2, vu more), (3, vs lB lN lC)] ?_
 refine T_sr 0 kk1 kk2 ?_
 refine T_ne 2 [(0, vp hv), (1, vi kind), (2, vu more), (3, vs lB lN lC)] ?_
 refine T_s kk3 kk4 ?_
 refine T_sr 1 kk5 kk6 ?_
 refine T_n 2 [(0, vp hv), (1, vi kind), (2, vu more), (3, vs lB lN lC), (15, vi kind), (16, vu more)] ?_
 refine N_call (some 17) 25 #[vi kind, vi 0, vu more] (fun _=>by kernel_rfl) h ?_; clear h
 rintro v H1 ⟨ra, rb, rfl, h⟩
 refine ⟨[(0, vp hv), (1, vi kind), (2, vu more), (3, vs lB lN lC), (17, .tuple #[vu ra, vi rb])], pk, ?_⟩
 refine T_ne 5 [(0, vp hv), (1, vi kind), (2, vu more), (3, vs lB lN lC), (11, vi rb)] ?_
 refine T_sr 2 kk7 kk8 ?_
 refine T_ne 2 [(0, vp hv), (1, vi kind), (2, vu more), (3, vs lB lN lC), (11, vi rb), (21, .bool (rb != 0))] ?_
 by_cases c1 : rb = 0
 ·rw [if_pos c1] at h
  have b2 : (rb != 0) = false := bne_eq_false_iff_eq.mpr c1
  refine S_env [(0, vp hv), (1, vi kind), (2, vu more), (3, vs lB lN lC), (11, vi rb), (21, .bool false)] (by simp only [b2, Bool.not_true, Bool.not_false]) ?_
  clear b2
  refine T_f 21 kk9 kk10 ?_
  refine T_kt ?_
  refine T_s kk11 kk12 ?_
  refine T_sr 4 kk13 kk14 ?_
  refine T_ne 3 [(0, vp hv), (1, vi kind), (2, vu more), (3, vs lB lN lC), (25, .bool (decide ((lN : Int) > 62)))] ?_
  by_cases c3 : (lN : Int) > 62
  ·rw [if_pos c3] at h
   have b4 : (decide ((lN : Int) > 62)) = true := decide_eq_true c3
   refine S_env [(0, vp hv), (1, vi kind), (2, vu more), (3, vs lB lN lC), (25, .bool true)] (by simp only [b4, Bool.not_true, Bool.not_false]) ?_
   clear b4
   refine T_t 25 kk15 kk16 ?_
   refine T_sr 5 kk17 kk18 ?_
   refine T_ne 2 [(8, vu 0), (9, vi 6)] ?_
   refine S_ret (by kernel_rfl) ?_
   show At _ _ _ _ _ (Q .ret)
   exact S_done (fn := Try.f10) [vu 0, vi 6] hQ (show ResOK _ _ _ [.tmp 8, .tmp 9] _ from .tmp (by kernel_rfl) (.tmp (by kernel_rfl) (.nil))) h
  ·rw [if_neg c3] at h
   have b4 : (decide ((lN : Int) > 62)) = false := decide_eq_false c3
   refine S_env [(0, vp hv), (1, vi kind), (2, vu more), (3, vs lB lN lC), (25, .bool false)] (by simp only [b4, Bool.not_true, Bool.not_false]) ?_
   clear b4
   refine T_f 25 kk15 kk16 ?_
   refine T_kt ?_
   refine T_sr 6 kk19 kk20 ?_
   refine T_n 4 [(0, vp hv), (1, vi kind), (3, vs lB lN lC), (27, vi kind), (29, vi lN), (30, vu more)] ?_
   refine N_call (some 31) 25 #[vi kind, vi lN, vu more] (fun _=>by kernel_rfl) h ?_; clear h
   rintro j H2 ⟨a, f, rfl, h⟩
   refine ⟨[(0, vp hv), (1, vi kind), (3, vs lB lN lC), (31, .tuple #[vu a, vi f])], pk, ?_⟩
   refine T_ne 5 [(0, vp hv), (1, vi kind), (3, vs lB lN lC), (12, vu a)] ?_
   refine T_sr 7 kk21 kk22 ?_
   refine T_n 2 [(3, vs lB lN lC), (12, vu a), (34, vp hv), (35, vi kind)] ?_
   refine N_call (some 36) 26 #[vi kind] (fun _=>by kernel_rfl) h ?_; clear h
   rintro k H3 ⟨x, rfl, h⟩
   refine ⟨[(3, vs lB lN lC), (12, vu a), (34, vp hv), (36, vi x)], pk, ?_⟩
   refine T_n 1 [(3, vs lB lN lC), (34, vp hv), (36, vi x), (37, vu a)] ?_
   refine N_new (some 38) (fun b => vs (pa b) 1 1) (.cells #[vu a] 32) (fun _=>by kernel_rfl) ?_
   intro b H4 e5 e6
   replace h := h b H4 e5 e6
   refine ⟨[(3, vs lB lN lC), (34, vp hv), (36, vi x), (38, vs (pa b) 1 1)], pk, ?_⟩
   refine T_n 1 [(34, vp hv), (36, vi x), (38, vs (pa b) 1 1), (39, vs lB lN lC)] ?_
   refine N_op (some 40) (appendN #[29, 29] 29 #[vs (pa b) 1 1, vs lB lN lC]) _ (fun _=>by kernel_rfl) (ss_append (T := 32) (sz := 1) (bytes := 8) (zero := (vu 0 : Value)) Try.underlying29 Try.underlying29 rfl (show Try.prog.info? 32 = some Try.t32 from by kernel_rfl) (by kernel_rfl) (by kernel_rfl) (by decide) (by kernel_rfl) (by first | exact h | (simpa only [Value.cells, List.toList_toArray] using h))) ?_; clear h
   rintro _ H5 ⟨ap, g, rfl, h⟩
   refine ⟨[(34, vp hv), (36, vi x), (40, vs ap (1 + lN) g)], pk, ?_⟩
   refine N_call (some 41) 24 #[vp hv, vi x, vi 3, vs ap (1 + lN) g] (fun _=>by kernel_rfl) h ?_; clear h
   rintro i H6 ⟨d, e, rfl, h⟩
   refine ⟨[(41, .tuple #[vu d, vi e])], pk, ?_⟩
   refine T_ne 4 [(8, vu d), (9, vi e)] ?_
   refine S_ret (by kernel_rfl) ?_
   show At _ _ _ _ _ (Q .ret)
   exact S_done (fn := Try.f10) [vu d, vi e] hQ (show ResOK _ _ _ [.tmp 8, .tmp 9] _ from .tmp (by kernel_rfl) (.tmp (by kernel_rfl) (.nil))) h
 ·rw [if_neg c1] at h
  have b2 : (rb != 0) = true := bne_iff_ne.mpr c1
  refine S_env [(0, vp hv), (1, vi kind), (2, vu more), (3, vs lB lN lC), (11, vi rb), (21, .bool true)] (by simp only [b2, Bool.not_true, Bool.not_false]) ?_
  clear b2
  refine T_t 21 kk9 kk10 ?_
  refine T_sr 3 kk23 kk24 ?_
  refine T_ne 3 [(8, vu 0), (9, vi rb)] ?_
  refine S_ret (by kernel_rfl) ?_
  show At _ _ _ _ _ (Q .ret)
  exact S_done (fn := Try.f10) [vu 0, vi rb] hQ (show ResOK _ _ _ [.tmp 8, .tmp 9] _ from .tmp (by kernel_rfl) (.tmp (by kernel_rfl) (.nil))) h
end obj_Heap_Make

/-! (*moraine/obj.Heap).Get -/
namespace obj_Heap_Get
def kk0 := Func.code Try.f21
def kk1 := Code.fa kk0
def kk2 := Code.fb kk0
def kk3 := Code.fa kk2
def kk4 := Code.fb kk2
def kk5 := Code.fa kk4
def kk6 := Code.fb kk4
def kk7 := Code.fa kk5
def kk8 := Code.fb kk5
def kk9 := Code.fa kk8
def kk10 := Code.fb kk8
def kk11 := Code.fa kk6
def kk12 := Code.fb kk6
def kk13 := Code.fa kk9
def kk14 := Code.fb kk9
end obj_Heap_Get
def obj_Heap_Get.pt (hv : Option Addr) (wv : Int) (kind : Int) (i : Int) (H : Array Obj) (R : Value → Array Obj → Prop) : Prop :=
 obj_Heap_field.C hv wv kind i H (fun v H1 => ∃ ra : Int, ∃ rb : Int, v = .tuple #[.int .i64 ra, .int .i64 rb] ∧ 
 if rb = 0 then (
 ∃ e : Addr, hv = some e ∧
 ∃ x : Option Addr, hat H1 e = some (.pointer x) ∧
 ∃ xA : Addr, x = some xA ∧
 ∃ f : Option Addr, hat H1 xA = some (.pointer f) ∧
 ∃ g : Addr, f = some g ∧
 ∃ d : Option Addr, hat H1 g = some (.pointer d) ∧
 seg_Mem_Read.C d ra H1 (fun j H2 => ∃ a : Int, ∃ b : Int, j = .tuple #[.int .u64 a, .int .i64 b] ∧ 
 R (.tuple #[.int .u64 a, .int .i64 b]) H2))
 else
 R (.tuple #[.int .u64 0, .int .i64 rb]) H1)
namespace obj_Heap_Get
set_option maxRecDepth 100000 in
theorem link {hv : Option Addr} {wv : Int} {kind : Int} {i : Int} {H : Array Obj} {R : Value → Array Obj → Prop} (h : pt hv wv kind i H R) : C hv wv kind i H R := by
 refine S_enter (fn := Try.f21) (c := kk0) 37 Try.func21 (by kernel_rfl) (by kernel_rfl) (Nat.le_of_ble_eq_true (by kernel_rfl)) ?_
 intro w0 Q hQ
 unfold pt at h
 refine T_su [(0, vp hv), (1, vu wv), (2, vi kind), (3, vi i)] ?_
 refine T_sr 0 kk1 kk2 ?_
 refine T_ne 2 [(0, vp hv), (1, vu wv), (2, vi kind), (3, vi i)] ?_
 refine T_sr 1 kk3 kk4 ?_
 refine T_n 4 [(0, vp hv), (13, vp hv), (14, vu wv), (15, vi kind), (16, vi i)] ?_
 refine N_call (some 17) 41 #[vp hv, vu wv, vi kind, vi i] (fun _=>by kernel_rfl) h ?_; clear h
 rintro v H1 ⟨ra, rb, rfl, h⟩
 refine ⟨[(0, vp hv), (17, .tuple #[vi ra, vi rb])], pk, ?_⟩
 refine T_ne 5 [(0, vp hv), (10, vi ra), (11, vi rb)] ?_
 refine T_s kk5 kk6 ?_
 refine T_sr 2 kk7 kk8 ?_
 refine T_ne 2 [(0, vp hv), (10, vi ra), (11, vi rb), (21, .bool (rb != 0))] ?_
 by_cases c1 : rb = 0
 ·rw [if_pos c1] at h
  have b2 : (rb != 0) = false := bne_eq_false_iff_eq.mpr c1
  refine S_env [(0, vp hv), (10, vi ra), (11, vi rb), (21, .bool false)] (by simp only [b2, Bool.not_true, Bool.not_false]) ?_
  clear b2
  refine T_f 21 kk9 kk10 ?_
  refine T_kt ?_
  refine T_sr 4 kk11 kk12 ?_
  refine T_n 1 [(10, vi ra), (23, vp hv)] ?_
  obtain ⟨e, rfl, h⟩ := h
  refine T_n 2 [(10, vi ra), (25, vp (some e))] ?_
  obtain ⟨x, q3, h⟩ := h
  refine T_l (some 26) 53 q3 [(10, vi ra), (26, vp x)] ?_
  obtain ⟨xA, rfl, h⟩ := h
  refine T_n 2 [(10, vi ra), (28, vp (some xA))] ?_
  obtain ⟨f, q4, h⟩ := h
  refine T_l (some 29) 58 q4 [(10, vi ra), (29, vp f)] ?_
  obtain ⟨g, rfl, h⟩ := h
  refine T_n 2 [(10, vi ra), (31, vp (some g))] ?_
  obtain ⟨d, q5, h⟩ := h
  refine T_l (some 32) 86 q5 [(10, vi ra), (32, vp d)] ?_
  refine T_n 1 [(32, vp d), (33, vi ra)] ?_
  refine N_call (some 34) 42 #[vp d, vi ra] (fun _=>by kernel_rfl) h ?_; clear h
  rintro j H2 ⟨a, b, rfl, h⟩
  refine ⟨[(34, .tuple #[vu a, vi b])], pk, ?_⟩
  refine T_ne 4 [(8, vu a), (9, vi b)] ?_
  refine S_ret (by kernel_rfl) ?_
  show At _ _ _ _ _ (Q .ret)
  exact S_done (fn := Try.f21) [vu a, vi b] hQ (show ResOK _ _ _ [.tmp 8, .tmp 9] _ from .tmp (by kernel_rfl) (.tmp (by kernel_rfl) (.nil))) h
 ·rw [if_neg c1] at h
  have b2 : (rb != 0) = true := bne_iff_ne.mpr c1
  refine S_env [(0, vp hv), (10, vi ra), (11, vi rb), (21, .bool true)] (by simp only [b2, Bool.not_true, Bool.not_false]) ?_
  clear b2
  refine T_t 21 kk9 kk10 ?_
  refine T_sr 3 kk13 kk14 ?_
  refine T_ne 3 [(8, vu 0), (9, vi rb)] ?_
  refine S_ret (by kernel_rfl) ?_
  show At _ _ _ _ _ (Q .ret)
  exact S_done (fn := Try.f21) [vu 0, vi rb] hQ (show ResOK _ _ _ [.tmp 8, .tmp 9] _ from .tmp (by kernel_rfl) (.tmp (by kernel_rfl) (.nil))) h
end obj_Heap_Get

/-! (*moraine/obj.Heap).Len -/
namespace obj_Heap_Len
def kk0 := Func.code Try.f23
def kk1 := Code.fa kk0
def kk2 := Code.fb kk0
def kk3 := Code.fa kk2
def kk4 := Code.fb kk2
def kk5 := Code.fa kk4
def kk6 := Code.fb kk4
end obj_Heap_Len
def obj_Heap_Len.pt (hv : Option Addr) (wv : Int) (H : Array Obj) (R : Value → Array Obj → Prop) : Prop :=
 obj_Heap_object.C hv wv H (fun v H1 => ∃ ra : Int, ∃ rb : Int, ∃ rc : Int, ∃ rd : Int, ∃ re : Bool, v = .tuple #[.int .i64 ra, .int .i64 rb, .int .i64 rc, .int .u64 rd, .bool re] ∧ 
 R (.int .i64 rc) H1)
namespace obj_Heap_Len
set_option maxRecDepth 100000 in
theorem link {hv : Option Addr} {wv : Int} {H : Array Obj} {R : Value → Array Obj → Prop} (h : pt hv wv H R) : C hv wv H R := by
 refine S_enter (fn := Try.f23) (c := kk0) 20 Try.func23 (by kernel_rfl) (by kernel_rfl) (Nat.le_of_ble_eq_true (by kernel_rfl)) ?_
 intro w0 Q hQ
 unfold pt at h
 refine T_su [(0, vp hv), (1, vu wv)] ?_
 refine T_sr 0 kk1 kk2 ?_
 refine T_ne 1 [(0, vp hv), (1, vu wv)] ?_
 refine T_sr 1 kk3 kk4 ?_
 refine T_n 2 [(11, vp hv), (12, vu wv)] ?_
 refine N_call (some 13) 32 #[vp hv, vu wv] (fun _=>by kernel_rfl) h ?_; clear h
 rintro v H1 ⟨ra, rb, rc, rd, re, rfl, h⟩
 refine ⟨[(13, .tuple #[vi ra, vi rb, vi rc, vu rd, .bool re])], pk, ?_⟩
 refine T_ne 11 [(7, vi rc)] ?_
 refine T_sr 2 kk5 kk6 ?_
 refine T_ne 2 [(4, vi rc)] ?_
 refine S_ret (by kernel_rfl) ?_
 show At _ _ _ _ _ (Q .ret)
 exact S_done (fn := Try.f23) [vi rc] hQ (show ResOK _ _ _ [.tmp 4] _ from .tmp (by kernel_rfl) (.nil)) h
end obj_Heap_Len

/-! (*moraine/obj.Heap).put -/
namespace obj_Heap_put
def kk0 := Func.code Try.f24
def kk1 := Code.fa kk0
def kk2 := Code.fb kk0
def kk3 := Code.fa kk2
def kk4 := Code.fb kk2
def kk5 := Code.fa kk3
def kk6 := Code.fb kk3
def kk7 := Code.fa kk6
def kk8 := Code.fb kk6
def kk9 := Code.fa kk7
def kk10 := Code.fb kk7
def kk11 := Code.fa kk4
def kk12 := Code.fb kk4
def kk13 := Code.fa kk12
def kk14 := Code.fb kk12
def kk15 := Code.fa kk13
def kk16 := Code.fb kk13
def kk17 := Code.fa kk16
def kk18 := Code.fb kk16
def kk19 := Code.fa kk14
def kk20 := Code.fb kk14
def kk21 := Code.fa kk19
def kk22 := Code.fb kk19
def kk23 := Code.fa kk22
def kk24 := Code.fa kk23
def kk25 := Code.fa kk24
def kk26 := Code.fb kk24
def kk27 := Code.fa kk26
def kk28 := Code.fb kk26
def kk29 := Code.fa kk27
def kk30 := Code.fb kk27
def kk31 := Code.fa kk28
def kk32 := Code.fb kk28
def kk33 := Code.fa kk31
def kk34 := Code.fa kk33
def kk35 := Code.fb kk33
def kk36 := Code.fa kk20
def kk37 := Code.fb kk20
def kk38 := Code.fa kk17
def kk39 := Code.fb kk17
end obj_Heap_put
def obj_Heap_put.pt (hv : Option Addr) (kind : Int) (tag : Int) (lB : Option Addr) (lN : Nat) (lC : Nat) (H : Array Obj) (R : Value → Array Obj → Prop) : Prop :=
 obj_Heap_none.C hv H (fun v H1 => ∃ x : Bool, v = .bool x ∧ 
 if x = true then (
 R (.tuple #[.int .u64 0, .int .i64 2]) H1)
 else
 ∃ d : Addr, hv = some d ∧
 ∃ s : Option Addr, hat H1 d = some (.pointer s) ∧
 ∃ q : Addr, s = some q ∧
 ∃ l : Option Addr, hat H1 q = some (.pointer l) ∧
 space_Space_Alloc.C l 0 kind (lN : Int) H1 (fun z H2 => ∃ ra : Int, ∃ rb : Int, z = .tuple #[.int .i64 ra, .int .i64 rb] ∧ 
 if rb = 0 then (
 ∃ (n : Int → Array Obj → Prop) (m25 : Int → Array Obj → Nat), n 0 H2 ∧ ∀ (b : Int) (H3 : Array Obj), n b H3 →
 if b < (lN : Int) then (
 ∃ e : Addr, lB = some e ∧
 ((0 : Int) ≤ b ∧ b < (lN : Int)) ∧
 ∃ f : Int, hat H3 (e.add (Int.toNat b * 1)) = some (.int .u64 f) ∧
 ∃ o : Option Addr, hat H3 d = some (.pointer o) ∧
 ∃ u : Addr, o = some u ∧
 ∃ p : Option Addr, hat H3 u = some (.pointer p) ∧
 ∃ r : Addr, p = some r ∧
 ∃ m : Option Addr, hat H3 r = some (.pointer m) ∧
 seg_Mem_Write.C m (IntKind.wrap .i64 (ra + b)) f H3 (fun ab H4 => ∃ aa : Int, ab = .int .i64 aa ∧ 
 (n (IntKind.wrap .i64 (b + 1)) H4 ∧ m25 (IntKind.wrap .i64 (b + 1)) H4 < m25 b H3)))
 else
 word_At.C tag ra H3 (fun y H5 => ∃ g : Int, ∃ j : Int, y = .tuple #[.int .u64 g, .int .i64 j] ∧ 
 R (.tuple #[.int .u64 g, .int .i64 j]) H5))
 else
 R (.tuple #[.int .u64 0, .int .i64 rb]) H2))
namespace obj_Heap_put
set_option maxRecDepth 100000 in
theorem link {hv : Option Addr} {kind : Int} {tag : Int} {lB : Option Addr} {lN : Nat} {lC : Nat} {H : Array Obj} {R : Value → Array Obj → Prop} (h : pt hv kind tag lB lN lC H R) : C hv kind tag lB lN lC H R := by
 refine S_enter (fn := Try.f24) (c := kk0) 61 Try.func24 (by kernel_rfl) (by kernel_rfl) (Nat.le_of_ble_eq_true (by kernel_rfl)) ?_
 intro w0 Q hQ
 unfold pt at h
 refine T_su [(0, vp hv), (1, vi kind), (2, vi tag), (3, vs lB lN lC)] ?_
 refine T_sr 0 kk1 kk2 ?_
 refine T_ne 2 [(0, vp hv), (1, vi kind), (2, vi tag), (3, vs lB lN lC)] ?_
 refine T_s kk3 kk4 ?_
 refine T_sr 1 kk5 kk6 ?_
 refine T_n 1 [(0, vp hv), (1, vi kind), (2, vi tag), (3, vs lB lN lC), (14, vp hv)] ?_
 refine N_call (some 15) 44 #[vp hv] (fun _=>by kernel_rfl) h ?_; clear h
 rintro v H1 ⟨x, rfl, h⟩
 refine ⟨[(0, vp hv), (1, vi kind), (2, vi tag), (3, vs lB lN lC), (15, .bool x)], pk, ?_⟩
 refine T_e ?_
 by_cases c1 : x = true
 ·rw [if_pos c1] at h
  have b2 : x = true := c1
  refine S_env [(0, vp hv), (1, vi kind), (2, vi tag), (3, vs lB lN lC), (15, .bool true)] (by simp only [b2, Bool.not_true, Bool.not_false]) ?_
  clear b2
  refine T_t 15 kk7 kk8 ?_
  refine T_sr 2 kk9 kk10 ?_
  refine T_ne 2 [(8, vu 0), (9, vi 2)] ?_
  refine S_ret (by kernel_rfl) ?_
  show At _ _ _ _ _ (Q .ret)
  exact S_done (fn := Try.f24) [vu 0, vi 2] hQ (show ResOK _ _ _ [.tmp 8, .tmp 9] _ from .tmp (by kernel_rfl) (.tmp (by kernel_rfl) (.nil))) h
 ·rw [if_neg c1] at h
  have b2 : x = false := eq_false_of_ne_true c1
  refine S_env [(0, vp hv), (1, vi kind), (2, vi tag), (3, vs lB lN lC), (15, .bool false)] (by simp only [b2, Bool.not_true, Bool.not_false]) ?_
  clear b2
  refine T_f 15 kk7 kk8 ?_
  refine T_kt ?_
  refine T_sr 3 kk11 kk12 ?_
  refine T_n 1 [(0, vp hv), (1, vi kind), (2, vi tag), (3, vs lB lN lC), (17, vp hv)] ?_
  obtain ⟨d, rfl, h⟩ := h
  refine T_n 2 [(0, vp (some d)), (1, vi kind), (2, vi tag), (3, vs lB lN lC), (19, vp (some d))] ?_
  obtain ⟨s, q3, h⟩ := h
  refine T_l (some 20) 53 q3 [(0, vp (some d)), (1, vi kind), (2, vi tag), (3, vs lB lN lC), (20, vp s)] ?_
  obtain ⟨q, rfl, h⟩ := h
  refine T_n 2 [(0, vp (some d)), (1, vi kind), (2, vi tag), (3, vs lB lN lC), (22, vp (some q))] ?_
  obtain ⟨l, q4, h⟩ := h
  refine T_l (some 23) 58 q4 [(0, vp (some d)), (1, vi kind), (2, vi tag), (3, vs lB lN lC), (23, vp l)] ?_
  refine T_n 3 [(0, vp (some d)), (2, vi tag), (3, vs lB lN lC), (23, vp l), (24, vi kind), (26, vi lN)] ?_
  refine N_call (some 27) 45 #[vp l, vi 0, vi kind, vi lN] (fun _=>by kernel_rfl) h ?_; clear h
  rintro z H2 ⟨ra, rb, rfl, h⟩
  refine ⟨[(0, vp (some d)), (2, vi tag), (3, vs lB lN lC), (27, .tuple #[vi ra, vi rb])], pk, ?_⟩
  refine T_ne 5 [(0, vp (some d)), (2, vi tag), (3, vs lB lN lC), (10, vi ra), (11, vi rb)] ?_
  refine T_s kk13 kk14 ?_
  refine T_sr 4 kk15 kk16 ?_
  refine T_ne 2 [(0, vp (some d)), (2, vi tag), (3, vs lB lN lC), (10, vi ra), (11, vi rb), (31, .bool (rb != 0))] ?_
  by_cases c5 : rb = 0
  ·rw [if_pos c5] at h
   have b6 : (rb != 0) = false := bne_eq_false_iff_eq.mpr c5
   refine S_env [(0, vp (some d)), (2, vi tag), (3, vs lB lN lC), (10, vi ra), (11, vi rb), (31, .bool false)] (by simp only [b6, Bool.not_true, Bool.not_false]) ?_
   clear b6
   refine T_f 31 kk17 kk18 ?_
   refine T_kt ?_
   refine T_s kk19 kk20 ?_
   refine T_sr 6 kk21 kk22 ?_
   refine T_ne 3 [(0, vp (some d)), (2, vi tag), (10, vi ra), (33, vs lB lN lC), (34, vi lN), (35, vi 0)] ?_
   refine T_b 0 kk23 ?_
   obtain ⟨n, m25, i7, i8⟩ := h
   refine S_loop (x := kk24) (σ := Int) (fun s_ => [(0, vp (some d)), (2, vi tag), (10, vi ra), (33, vs lB lN lC), (34, vi lN), (35, vi s_)]) (fun s_ H => n s_ H) (fun s_ H => m25 s_ H) (0 : Int) (by kernel_rfl) i7 sk ?_
   rintro b H3 i9
   have h := i8 b H3 i9
   refine T_su [(0, vp (some d)), (2, vi tag), (10, vi ra), (33, vs lB lN lC), (34, vi lN), (35, vi b)] ?_
   refine T_sr 7 kk25 kk26 ?_
   refine T_ne 1 [(0, vp (some d)), (2, vi tag), (10, vi ra), (33, vs lB lN lC), (34, vi lN), (35, vi b), (36, .bool (decide (b < (lN : Int))))] ?_
   refine T_s kk27 kk28 ?_
   by_cases c10 : b < (lN : Int)
   ·rw [if_pos c10] at h
    have b11 : (decide (b < (lN : Int))) = true := decide_eq_true c10
    refine S_env [(0, vp (some d)), (2, vi tag), (10, vi ra), (33, vs lB lN lC), (34, vi lN), (35, vi b), (36, .bool true)] (by simp only [b11, Bool.not_true, Bool.not_false]) ?_
    clear b11
    refine T_t 36 kk29 kk30 ?_
    refine T_kt ?_
    refine T_s kk31 kk32 ?_
    refine T_b 1 kk33 ?_
    refine T_sr 8 kk34 kk35 ?_
    refine T_n 1 [(0, vp (some d)), (2, vi tag), (10, vi ra), (33, vs lB lN lC), (34, vi lN), (35, vi b), (37, vi b)] ?_
    obtain ⟨e, rfl, h⟩ := h
    obtain ⟨q12, h⟩ := h
    refine T_ix (some 38) 29 32 1 e lN lC .i64 b Try.underlying29 q12.1 q12.2 [(0, vp (some d)), (2, vi tag), (10, vi ra), (33, vs (some e) lN lC), (34, vi lN), (35, vi b), (37, vi b), (38, vp (some (e.add (Int.toNat b * 1))))] ?_
    obtain ⟨f, q13, h⟩ := h
    refine T_l (some 39) 32 q13 [(0, vp (some d)), (2, vi tag), (10, vi ra), (33, vs (some e) lN lC), (34, vi lN), (35, vi b), (37, vi b), (39, vu f)] ?_
    refine T_ne 2 [(0, vp (some d)), (2, vi tag), (10, vi ra), (12, vi b), (13, vu f), (33, vs (some e) lN lC), (34, vi lN), (35, vi b)] ?_
    refine T_r 9 kk35 ?_
    refine T_n 3 [(0, vp (some d)), (2, vi tag), (10, vi ra), (12, vi b), (13, vu f), (33, vs (some e) lN lC), (34, vi lN), (35, vi b), (42, vp (some d))] ?_
    obtain ⟨o, q14, h⟩ := h
    refine T_l (some 43) 53 q14 [(0, vp (some d)), (2, vi tag), (10, vi ra), (12, vi b), (13, vu f), (33, vs (some e) lN lC), (34, vi lN), (35, vi b), (43, vp o)] ?_
    obtain ⟨u, rfl, h⟩ := h
    refine T_n 2 [(0, vp (some d)), (2, vi tag), (10, vi ra), (12, vi b), (13, vu f), (33, vs (some e) lN lC), (34, vi lN), (35, vi b), (45, vp (some u))] ?_
    obtain ⟨p, q15, h⟩ := h
    refine T_l (some 46) 58 q15 [(0, vp (some d)), (2, vi tag), (10, vi ra), (12, vi b), (13, vu f), (33, vs (some e) lN lC), (34, vi lN), (35, vi b), (46, vp p)] ?_
    obtain ⟨r, rfl, h⟩ := h
    refine T_n 2 [(0, vp (some d)), (2, vi tag), (10, vi ra), (12, vi b), (13, vu f), (33, vs (some e) lN lC), (34, vi lN), (35, vi b), (48, vp (some r))] ?_
    obtain ⟨m, q16, h⟩ := h
    refine T_l (some 49) 86 q16 [(0, vp (some d)), (2, vi tag), (10, vi ra), (12, vi b), (13, vu f), (33, vs (some e) lN lC), (34, vi lN), (35, vi b), (49, vp m)] ?_
    refine T_n 4 [(0, vp (some d)), (2, vi tag), (10, vi ra), (33, vs (some e) lN lC), (34, vi lN), (35, vi b), (49, vp m), (52, vi (IntKind.wrap .i64 (ra + b))), (53, vu f)] ?_
    refine N_call (some 54) 46 #[vp m, vi (IntKind.wrap .i64 (ra + b)), vu f] (fun _=>by kernel_rfl) h ?_; clear h
    rintro ab H4 ⟨aa, rfl, h⟩
    refine ⟨[(0, vp (some d)), (2, vi tag), (10, vi ra), (33, vs (some e) lN lC), (34, vi lN), (35, vi b)], pk, ?_⟩
    refine N_end (by kernel_rfl) ?_
    refine S_blockEnd ?_
    refine S_then ?_
    refine T_r 10 kk32 ?_
    refine T_ne 2 [(0, vp (some d)), (2, vi tag), (10, vi ra), (33, vs (some e) lN lC), (34, vi lN), (35, vi (IntKind.wrap .i64 (b + 1)))] ?_
    exact S_round ((IntKind.wrap .i64 (b + 1)) : Int) sk h
   ·rw [if_neg c10] at h
    have b11 : (decide (b < (lN : Int))) = false := decide_eq_false c10
    refine S_env [(0, vp (some d)), (2, vi tag), (10, vi ra), (33, vs lB lN lC), (34, vi lN), (35, vi b), (36, .bool false)] (by simp only [b11, Bool.not_true, Bool.not_false]) ?_
    clear b11
    refine T_f 36 kk29 kk30 ?_
    refine S_exit 0 (by kernel_rfl) ?_
    refine S_exitThen ?_
    refine S_exitThen ?_
    refine S_exitHere ?_
    refine S_then ?_
    refine T_sr 11 kk36 kk37 ?_
    refine T_n 2 [(56, vi tag), (57, vi ra)] ?_
    refine N_call (some 58) 47 #[vi tag, vi ra] (fun _=>by kernel_rfl) h ?_; clear h
    rintro y H5 ⟨g, j, rfl, h⟩
    refine ⟨[(58, .tuple #[vu g, vi j])], pk, ?_⟩
    refine T_ne 4 [(8, vu g), (9, vi j)] ?_
    refine S_ret (by kernel_rfl) ?_
    show At _ _ _ _ _ (Q .ret)
    exact S_done (fn := Try.f24) [vu g, vi j] hQ (show ResOK _ _ _ [.tmp 8, .tmp 9] _ from .tmp (by kernel_rfl) (.tmp (by kernel_rfl) (.nil))) h
  ·rw [if_neg c5] at h
   have b6 : (rb != 0) = true := bne_iff_ne.mpr c5
   refine S_env [(0, vp (some d)), (2, vi tag), (3, vs lB lN lC), (10, vi ra), (11, vi rb), (31, .bool true)] (by simp only [b6, Bool.not_true, Bool.not_false]) ?_
   clear b6
   refine T_t 31 kk17 kk18 ?_
   refine T_sr 5 kk38 kk39 ?_
   refine T_ne 3 [(8, vu 0), (9, vi rb)] ?_
   refine S_ret (by kernel_rfl) ?_
   show At _ _ _ _ _ (Q .ret)
   exact S_done (fn := Try.f24) [vu 0, vi rb] hQ (show ResOK _ _ _ [.tmp 8, .tmp 9] _ from .tmp (by kernel_rfl) (.tmp (by kernel_rfl) (.nil))) h
end obj_Heap_put

/-! moraine/obj.raw -/
namespace obj_raw
def kk0 := Func.code Try.f26
def kk1 := Code.fa kk0
def kk2 := Code.fb kk0
def kk3 := Code.fa kk2
def kk4 := Code.fb kk2
def kk5 := Code.fa kk3
def kk6 := Code.fb kk3
def kk7 := Code.fa kk6
def kk8 := Code.fb kk6
def kk9 := Code.fa kk7
def kk10 := Code.fb kk7
def kk11 := Code.fa kk4
def kk12 := Code.fb kk4
end obj_raw
def obj_raw.pt (kind : Int) (H : Array Obj) (R : Value → Array Obj → Prop) : Prop :=
 if ((kind == 2) || (kind == 3)) = true then (
 R (.int .i64 3) H)
 else
 R (.int .i64 2) H
namespace obj_raw
set_option maxRecDepth 100000 in
theorem link {kind : Int} {H : Array Obj} {R : Value → Array Obj → Prop} (h : pt kind H R) : C kind H R := by
 refine S_enter (fn := Try.f26) (c := kk0) 9 Try.func26 (by kernel_rfl) (by kernel_rfl) (Nat.le_of_ble_eq_true (by kernel_rfl)) ?_
 intro w0 Q hQ
 unfold pt at h
 refine T_su [(0, vi kind)] ?_
 refine T_sr 0 kk1 kk2 ?_
 refine T_ne 1 [(0, vi kind)] ?_
 refine T_s kk3 kk4 ?_
 refine T_sr 1 kk5 kk6 ?_
 refine N_cut [(8, .bool ((kind == 2) || (kind == 3)))] ?_ ?_
 ·refine S_then ?_
  by_cases c3 : ((kind == 2) || (kind == 3)) = true
  ·rw [if_pos c3] at h
   have b4 : ((kind == 2) || (kind == 3)) = true := c3
   refine T_cT 8 kk7 kk8 b4 ?_
   refine T_sr 2 kk9 kk10 ?_
   refine T_ne 1 [(2, vi 3)] ?_
   refine S_ret (by kernel_rfl) ?_
   show At _ _ _ _ _ (Q .ret)
   exact S_done (fn := Try.f26) [vi 3] hQ (show ResOK _ _ _ [.tmp 2] _ from .tmp (by kernel_rfl) (.nil)) h
  ·rw [if_neg c3] at h
   have b4 : ((kind == 2) || (kind == 3)) = false := eq_false_of_ne_true c3
   refine S_env [(8, .bool false)] (by simp only [b4, Bool.not_true, Bool.not_false]) ?_
   clear b4
   refine T_f 8 kk7 kk8 ?_
   refine T_kt ?_
   refine T_sr 3 kk11 kk12 ?_
   refine T_ne 1 [(2, vi 2)] ?_
   refine S_ret (by kernel_rfl) ?_
   show At _ _ _ _ _ (Q .ret)
   exact S_done (fn := Try.f26) [vi 2] hQ (show ResOK _ _ _ [.tmp 2] _ from .tmp (by kernel_rfl) (.nil)) h
 ·intro hk
  refine T_n 3 [(0, vi kind), (5, .bool (kind == 2))] ?_
  by_cases c1 : kind = 2
  ·have b2 : (kind == 2) = true := beq_iff_eq.mpr c1
   refine N_env [(0, vi kind), (5, .bool true)] (by simp only [b2, Bool.not_true, Bool.not_false]) ?_
   refine T_n 3 [(8, .bool true)] ?_
   refine N_end (by kernel_rfl) ?_
   refine S_env [(8, .bool ((kind == 2) || (kind == 3)))] (by simp only [b2, Bool.true_or, Bool.false_or, Bool.or_true, Bool.or_false, Bool.true_and, Bool.false_and, Bool.and_true, Bool.and_false, Bool.not_true, Bool.not_false, cond_true, cond_false]) ?_
   exact hk
  ·have b2 : (kind == 2) = false := beq_eq_false_iff_ne.mpr c1
   refine N_env [(0, vi kind), (5, .bool false)] (by simp only [b2, Bool.not_true, Bool.not_false]) ?_
   refine T_n 3 [(8, .bool (kind == 3))] ?_
   refine N_end (by kernel_rfl) ?_
   refine S_env [(8, .bool ((kind == 2) || (kind == 3)))] (by simp only [b2, Bool.true_or, Bool.false_or, Bool.or_true, Bool.or_false, Bool.true_and, Bool.false_and, Bool.and_true, Bool.and_false, Bool.not_true, Bool.not_false, cond_true, cond_false]) ?_
   exact hk
end obj_raw

/-! (*moraine/obj.Heap).object -/
namespace obj_Heap_object
def kk0 := Func.code Try.f32
def kk1 := Code.fa kk0
def kk2 := Code.fb kk0
def kk3 := Code.fa kk2
def kk4 := Code.fb kk2
def kk5 := Code.fa kk3
def kk6 := Code.fb kk3
def kk7 := Code.fa kk6
def kk8 := Code.fa kk7
def kk9 := Code.fa kk8
def kk10 := Code.fb kk8
def kk11 := Code.fa kk10
def kk12 := Code.fb kk10
def kk13 := Code.fa kk11
def kk14 := Code.fb kk11
def kk15 := Code.fa kk12
def kk16 := Code.fb kk12
def kk17 := Code.fa kk15
def kk18 := Code.fa kk17
def kk19 := Code.fb kk17
def kk20 := Code.fa kk19
def kk21 := Code.fb kk19
def kk22 := Code.fa kk20
def kk23 := Code.fb kk20
def kk24 := Code.fa kk23
def kk25 := Code.fb kk23
def kk26 := Code.fa kk25
def kk27 := Code.fb kk25
def kk28 := Code.fa kk21
def kk29 := Code.fb kk21
def kk30 := Code.fa kk29
def kk31 := Code.fb kk29
def kk32 := Code.fa kk31
def kk33 := Code.fb kk31
def kk34 := Code.fa kk33
def kk35 := Code.fb kk33
def kk36 := Code.fa kk35
def kk37 := Code.fb kk35
def kk38 := Code.fa kk36
def kk39 := Code.fb kk36
def kk40 := Code.fa kk4
def kk41 := Code.fb kk4
end obj_Heap_object
def obj_Heap_object.pt (hv : Option Addr) (wv : Int) (H : Array Obj) (R : Value → Array Obj → Prop) : Prop :=
 ∃ (I9 : Int → Array Obj → Prop) (m9 : Int → Array Obj → Nat), I9 0 H ∧ ∀ (a : Int) (H1 : Array Obj), I9 a H1 →
 if a < 2 then (
 ∃ x : Int, ((0 ≤ a ∧ a < (2 : Int)) ∧ (#[.int .i64 2, .int .i64 3] : Array Value)[Int.toNat a]? = some (.int .i64 x)) ∧
 obj_Heap_at.C hv wv 3 x H1 (fun v H2 => ∃ ra : Int, ∃ rb : Bool, v = .tuple #[.int .i64 ra, .bool rb] ∧ 
 if rb = true then (
 ∃ e : Addr, hv = some e ∧
 ∃ ae : Option Addr, hat H2 e = some (.pointer ae) ∧
 ∃ ac : Addr, ae = some ac ∧
 ∃ z : Option Addr, hat H2 ac = some (.pointer z) ∧
 ∃ af : Addr, z = some af ∧
 ∃ y : Option Addr, hat H2 af = some (.pointer y) ∧
 seg_Mem_Read.C y ra H2 (fun ak H3 => ∃ o : Int, ∃ ah : Int, ak = .tuple #[.int .u64 o, .int .i64 ah] ∧ 
 word_Head.C o H3 (fun al H4 => ∃ f : Int, ∃ d : Int, ∃ rc : Int, ∃ rd : Bool, al = .tuple #[.int .i64 f, .int .i64 d, .int .u64 rc, .bool rd] ∧ 
 ∃ aa : Option Addr, hat H4 e = some (.pointer aa) ∧
 ∃ ag : Addr, aa = some ag ∧
 ∃ ab : Option Addr, hat H4 ag = some (.pointer ab) ∧
 ∃ ad : Addr, ab = some ad ∧
 ∃ u : Option Addr, hat H4 ad = some (.pointer u) ∧
 seg_Mem_Seg.C u (IntKind.wrap .i64 (Int.tdiv ra 64)) H4 (fun aj H5 => ∃ m : Int, ∃ l : Int, ∃ p : Int, ∃ i : Int, ∃ g : Int, ∃ j : Int, ∃ k : Int, ∃ r : Bool, aj = .tuple #[.agg #[.int .i64 m, .int .i64 l, .int .i64 p, .int .i64 i, .int .i64 g, .int .i64 j, .int .i64 k], .bool r] ∧ 
 ∀ (b : Nat) (H6 : Array Obj), b = H5.size → H6 = H5.push (.cells #[.int .i64 0, .int .i64 0, .int .i64 0, .int .i64 0, .int .i64 0, .int .i64 0, .int .i64 0] 83) →
 (CanPuts H6 (Addr.mk b 0 none) 0 7) ∧ ∀ H7 : Array Obj, H7 = hputs H6 (Addr.mk b 0 none) [.int .i64 m, .int .i64 l, .int .i64 p, .int .i64 i, .int .i64 g, .int .i64 j, .int .i64 k] 0 →
 if rd = true then (
 obj_raw.C f H7 (fun ai H8 => ∃ s : Int, ai = .int .i64 s ∧ 
 if s = x then (
 ∃ q : Int, hat H8 ((Addr.mk b 0 none).add 2) = some (.int .i64 q) ∧
 if (IntKind.wrap .i64 ((Int.tmod ra 64) + d)) < q then (
 R (.tuple #[.int .i64 ra, .int .i64 f, .int .i64 d, .int .u64 rc, .bool true]) H8)
 else
 (I9 (IntKind.wrap .i64 (a + 1)) H8 ∧ m9 (IntKind.wrap .i64 (a + 1)) H8 < m9 a H1))
 else
 (I9 (IntKind.wrap .i64 (a + 1)) H8 ∧ m9 (IntKind.wrap .i64 (a + 1)) H8 < m9 a H1)))
 else
 (I9 (IntKind.wrap .i64 (a + 1)) H7 ∧ m9 (IntKind.wrap .i64 (a + 1)) H7 < m9 a H1)))))
 else
 (I9 (IntKind.wrap .i64 (a + 1)) H2 ∧ m9 (IntKind.wrap .i64 (a + 1)) H2 < m9 a H1)))
 else
 R (.tuple #[.int .i64 0, .int .i64 0, .int .i64 0, .int .u64 0, .bool false]) H1
namespace obj_Heap_object
set_option maxRecDepth 100000 in
theorem link {hv : Option Addr} {wv : Int} {H : Array Obj} {R : Value → Array Obj → Prop} (h : pt hv wv H R) : C hv wv H R := by
 refine S_enter (fn := Try.f32) (c := kk0) 87 Try.func32 (by kernel_rfl) (by kernel_rfl) (Nat.le_of_ble_eq_true (by kernel_rfl)) ?_
 intro w0 Q hQ
 unfold pt at h
 refine T_su [(0, vp hv), (1, vu wv)] ?_
 refine T_sr 0 kk1 kk2 ?_
 refine T_ne 5 [(0, vp hv), (1, vu wv)] ?_
 refine T_s kk3 kk4 ?_
 refine T_sr 1 kk5 kk6 ?_
 refine T_ne 2 [(0, vp hv), (1, vu wv), (15, .agg #[vi 2, vi 3]), (16, vi 0)] ?_
 refine T_b 0 kk7 ?_
 obtain ⟨I9, m9, i1, i2⟩ := h
 refine S_loop (x := kk8) (σ := Int) (fun s_ => [(0, vp hv), (1, vu wv), (15, .agg #[vi 2, vi 3]), (16, vi s_)]) (fun s_ H => I9 s_ H) (fun s_ H => m9 s_ H) (0 : Int) (by kernel_rfl) i1 sk ?_
 rintro a H1 i3
 have h := i2 a H1 i3
 refine T_su [(0, vp hv), (1, vu wv), (15, .agg #[vi 2, vi 3]), (16, vi a)] ?_
 refine T_sr 2 kk9 kk10 ?_
 refine T_ne 1 [(0, vp hv), (1, vu wv), (15, .agg #[vi 2, vi 3]), (16, vi a), (17, .bool (decide (a < 2)))] ?_
 refine T_s kk11 kk12 ?_
 by_cases c4 : a < 2
 ·rw [if_pos c4] at h
  have b5 : (decide (a < 2)) = true := decide_eq_true c4
  refine S_env [(0, vp hv), (1, vu wv), (15, .agg #[vi 2, vi 3]), (16, vi a), (17, .bool true)] (by simp only [b5, Bool.not_true, Bool.not_false]) ?_
  clear b5
  refine T_t 17 kk13 kk14 ?_
  refine T_kt ?_
  refine T_s kk15 kk16 ?_
  refine T_b 1 kk17 ?_
  refine T_sr 3 kk18 kk19 ?_
  refine T_nu [(0, vp hv), (1, vu wv), (15, .agg #[vi 2, vi 3]), (16, vi a)] ?_
  obtain ⟨x, q6, h⟩ := h
  refine T_v (some 18) (indexN 108 (.agg #[vi 2, vi 3]) (vi a)) (vi x) (fun w _ => indexAgg_run (P := Try.prog) (t := 108) (elem := 3) (n := 2) Try.underlying108 (fun _=>by kernel_rfl) (fun _=>by kernel_rfl) q6.1.1 q6.1.2 q6.2 w) [(0, vp hv), (1, vu wv), (15, .agg #[vi 2, vi 3]), (16, vi a), (18, vi x)] ?_
  refine T_ne 1 [(0, vp hv), (1, vu wv), (10, vi x), (15, .agg #[vi 2, vi 3]), (16, vi a)] ?_
  refine T_s kk20 kk21 ?_
  refine T_sr 4 kk22 kk23 ?_
  refine T_n 3 [(0, vp hv), (1, vu wv), (10, vi x), (15, .agg #[vi 2, vi 3]), (16, vi a), (20, vp hv), (21, vu wv), (22, vi x)] ?_
  refine N_call (some 23) 52 #[vp hv, vu wv, vi 3, vi x] (fun _=>by kernel_rfl) h ?_; clear h
  rintro v H2 ⟨ra, rb, rfl, h⟩
  refine ⟨[(0, vp hv), (1, vu wv), (10, vi x), (15, .agg #[vi 2, vi 3]), (16, vi a), (23, .tuple #[vi ra, .bool rb])], pk, ?_⟩
  refine T_ne 5 [(0, vp hv), (1, vu wv), (4, vi ra), (8, .bool rb), (10, vi x), (15, .agg #[vi 2, vi 3]), (16, vi a)] ?_
  refine T_sr 5 kk24 kk25 ?_
  refine T_ne 2 [(0, vp hv), (1, vu wv), (4, vi ra), (10, vi x), (15, .agg #[vi 2, vi 3]), (16, vi a), (27, .bool (!rb))] ?_
  by_cases c7 : rb = true
  ·rw [if_pos c7] at h
   have b8 : (!rb) = false := congrArg Bool.not (c7)
   have b82 : rb = true := c7
   refine S_env [(0, vp hv), (1, vu wv), (4, vi ra), (10, vi x), (15, .agg #[vi 2, vi 3]), (16, vi a), (27, .bool false)] (by simp only [b8, b82, Bool.not_true, Bool.not_false]) ?_
   clear b8 b82
   refine T_f 27 kk26 kk27 ?_
   refine T_kt ?_
   refine T_sr 6 kk28 kk29 ?_
   refine T_n 1 [(0, vp hv), (1, vu wv), (4, vi ra), (10, vi x), (15, .agg #[vi 2, vi 3]), (16, vi a), (29, vp hv)] ?_
   obtain ⟨e, rfl, h⟩ := h
   refine T_n 2 [(0, vp (some e)), (1, vu wv), (4, vi ra), (10, vi x), (15, .agg #[vi 2, vi 3]), (16, vi a), (31, vp (some e))] ?_
   obtain ⟨ae, q9, h⟩ := h
   refine T_l (some 32) 53 q9 [(0, vp (some e)), (1, vu wv), (4, vi ra), (10, vi x), (15, .agg #[vi 2, vi 3]), (16, vi a), (32, vp ae)] ?_
   obtain ⟨ac, rfl, h⟩ := h
   refine T_n 2 [(0, vp (some e)), (1, vu wv), (4, vi ra), (10, vi x), (15, .agg #[vi 2, vi 3]), (16, vi a), (34, vp (some ac))] ?_
   obtain ⟨z, q10, h⟩ := h
   refine T_l (some 35) 58 q10 [(0, vp (some e)), (1, vu wv), (4, vi ra), (10, vi x), (15, .agg #[vi 2, vi 3]), (16, vi a), (35, vp z)] ?_
   obtain ⟨af, rfl, h⟩ := h
   refine T_n 2 [(0, vp (some e)), (1, vu wv), (4, vi ra), (10, vi x), (15, .agg #[vi 2, vi 3]), (16, vi a), (37, vp (some af))] ?_
   obtain ⟨y, q11, h⟩ := h
   refine T_l (some 38) 86 q11 [(0, vp (some e)), (1, vu wv), (4, vi ra), (10, vi x), (15, .agg #[vi 2, vi 3]), (16, vi a), (38, vp y)] ?_
   refine T_n 1 [(0, vp (some e)), (1, vu wv), (4, vi ra), (10, vi x), (15, .agg #[vi 2, vi 3]), (16, vi a), (38, vp y), (39, vi ra)] ?_
   refine N_call (some 40) 42 #[vp y, vi ra] (fun _=>by kernel_rfl) h ?_; clear h
   rintro ak H3 ⟨o, ah, rfl, h⟩
   refine ⟨[(0, vp (some e)), (1, vu wv), (4, vi ra), (10, vi x), (15, .agg #[vi 2, vi 3]), (16, vi a), (40, .tuple #[vu o, vi ah])], pk, ?_⟩
   refine T_ne 5 [(0, vp (some e)), (1, vu wv), (4, vi ra), (10, vi x), (11, vu o), (15, .agg #[vi 2, vi 3]), (16, vi a)] ?_
   refine T_sr 7 kk30 kk31 ?_
   refine T_n 1 [(0, vp (some e)), (1, vu wv), (4, vi ra), (10, vi x), (15, .agg #[vi 2, vi 3]), (16, vi a), (44, vu o)] ?_
   refine N_call (some 45) 53 #[vu o] (fun _=>by kernel_rfl) h ?_; clear h
   rintro al H4 ⟨f, d, rc, rd, rfl, h⟩
   refine ⟨[(0, vp (some e)), (1, vu wv), (4, vi ra), (10, vi x), (15, .agg #[vi 2, vi 3]), (16, vi a), (45, .tuple #[vi f, vi d, vu rc, .bool rd])], pk, ?_⟩
   refine T_ne 9 [(0, vp (some e)), (1, vu wv), (4, vi ra), (5, vi f), (6, vi d), (7, vu rc), (8, .bool rd), (10, vi x), (15, .agg #[vi 2, vi 3]), (16, vi a)] ?_
   refine T_sr 8 kk32 kk33 ?_
   refine T_n 3 [(0, vp (some e)), (1, vu wv), (4, vi ra), (5, vi f), (6, vi d), (7, vu rc), (8, .bool rd), (10, vi x), (15, .agg #[vi 2, vi 3]), (16, vi a), (53, vp (some e))] ?_
   obtain ⟨aa, q12, h⟩ := h
   refine T_l (some 54) 53 q12 [(0, vp (some e)), (1, vu wv), (4, vi ra), (5, vi f), (6, vi d), (7, vu rc), (8, .bool rd), (10, vi x), (15, .agg #[vi 2, vi 3]), (16, vi a), (54, vp aa)] ?_
   obtain ⟨ag, rfl, h⟩ := h
   refine T_n 2 [(0, vp (some e)), (1, vu wv), (4, vi ra), (5, vi f), (6, vi d), (7, vu rc), (8, .bool rd), (10, vi x), (15, .agg #[vi 2, vi 3]), (16, vi a), (56, vp (some ag))] ?_
   obtain ⟨ab, q13, h⟩ := h
   refine T_l (some 57) 58 q13 [(0, vp (some e)), (1, vu wv), (4, vi ra), (5, vi f), (6, vi d), (7, vu rc), (8, .bool rd), (10, vi x), (15, .agg #[vi 2, vi 3]), (16, vi a), (57, vp ab)] ?_
   obtain ⟨ad, rfl, h⟩ := h
   refine T_n 2 [(0, vp (some e)), (1, vu wv), (4, vi ra), (5, vi f), (6, vi d), (7, vu rc), (8, .bool rd), (10, vi x), (15, .agg #[vi 2, vi 3]), (16, vi a), (59, vp (some ad))] ?_
   obtain ⟨u, q14, h⟩ := h
   refine T_l (some 60) 86 q14 [(0, vp (some e)), (1, vu wv), (4, vi ra), (5, vi f), (6, vi d), (7, vu rc), (8, .bool rd), (10, vi x), (15, .agg #[vi 2, vi 3]), (16, vi a), (60, vp u)] ?_
   refine T_n 2 [(0, vp (some e)), (1, vu wv), (4, vi ra), (5, vi f), (6, vi d), (7, vu rc), (8, .bool rd), (10, vi x), (15, .agg #[vi 2, vi 3]), (16, vi a), (60, vp u), (62, vi (IntKind.wrap .i64 (Int.tdiv ra 64)))] ?_
   refine N_call (some 63) 36 #[vp u, vi (IntKind.wrap .i64 (Int.tdiv ra 64))] (fun _=>by kernel_rfl) h ?_; clear h
   rintro aj H5 ⟨m, l, p, i, g, j, k, r, rfl, h⟩
   refine ⟨[(0, vp (some e)), (1, vu wv), (4, vi ra), (5, vi f), (6, vi d), (7, vu rc), (8, .bool rd), (10, vi x), (15, .agg #[vi 2, vi 3]), (16, vi a), (63, .tuple #[.agg #[vi m, vi l, vi p, vi i, vi g, vi j, vi k], .bool r])], pk, ?_⟩
   refine T_n 3 [(0, vp (some e)), (1, vu wv), (4, vi ra), (5, vi f), (6, vi d), (7, vu rc), (8, .bool rd), (10, vi x), (15, .agg #[vi 2, vi 3]), (16, vi a), (64, .agg #[vi m, vi l, vi p, vi i, vi g, vi j, vi k]), (65, .bool r)] ?_
   refine N_new (some 13) (fun b => vp (pa b)) (.cells #[vi 0, vi 0, vi 0, vi 0, vi 0, vi 0, vi 0] 83) (fun _=>by kernel_rfl) ?_
   intro b H6 e15 e16
   replace h := h b H6 e15 e16
   refine ⟨[(0, vp (some e)), (1, vu wv), (4, vi ra), (5, vi f), (6, vi d), (7, vu rc), (8, .bool rd), (10, vi x), (13, vp (pa b)), (15, .agg #[vi 2, vi 3]), (16, vi a), (64, .agg #[vi m, vi l, vi p, vi i, vi g, vi j, vi k]), (65, .bool r)], pk, ?_⟩
   obtain ⟨q18, h⟩ := h
   refine N_skipop none (storeN 83 (vp (pa b)) (.agg #[vi m, vi l, vi p, vi i, vi g, vi j, vi k])) (fun Hz => Hz = hputs H6 (Addr.mk b 0 none) [vi m, vi l, vi p, vi i, vi g, vi j, vi k] 0) (fun _=>by kernel_rfl) (ss_store [vi m, vi l, vi p, vi i, vi g, vi j, vi k] 7 (by kernel_rfl) (by kernel_rfl) (fun _=>by kernel_rfl) (by kernel_rfl) q18) ?_
   intro H7 e17
   replace h := h H7 e17
   refine ⟨[(0, vp (some e)), (1, vu wv), (4, vi ra), (5, vi f), (6, vi d), (7, vu rc), (8, .bool rd), (10, vi x), (13, vp (pa b)), (15, .agg #[vi 2, vi 3]), (16, vi a), (65, .bool r)], pk, ?_⟩
   refine T_ne 1 [(0, vp (some e)), (1, vu wv), (4, vi ra), (5, vi f), (6, vi d), (7, vu rc), (8, .bool rd), (10, vi x), (13, vp (pa b)), (15, .agg #[vi 2, vi 3]), (16, vi a)] ?_
   refine T_sr 9 kk34 kk35 ?_
   refine T_n 2 [(0, vp (some e)), (1, vu wv), (4, vi ra), (5, vi f), (6, vi d), (7, vu rc), (10, vi x), (13, vp (pa b)), (15, .agg #[vi 2, vi 3]), (16, vi a), (67, .bool rd)] ?_
   by_cases c19 : rd = true
   ·rw [if_pos c19] at h
    have b20 : rd = true := c19
    refine N_env [(0, vp (some e)), (1, vu wv), (4, vi ra), (5, vi f), (6, vi d), (7, vu rc), (10, vi x), (13, vp (pa b)), (15, .agg #[vi 2, vi 3]), (16, vi a), (67, .bool true)] (by simp only [b20, Bool.not_true, Bool.not_false]) ?_
    clear b20
    refine T_n 1 [(0, vp (some e)), (1, vu wv), (4, vi ra), (5, vi f), (6, vi d), (7, vu rc), (10, vi x), (13, vp (pa b)), (15, .agg #[vi 2, vi 3]), (16, vi a), (67, .bool true), (68, vi f)] ?_
    refine N_call (some 69) 26 #[vi f] (fun _=>by kernel_rfl) h ?_; clear h
    rintro ai H8 ⟨s, rfl, h⟩
    refine ⟨[(0, vp (some e)), (1, vu wv), (4, vi ra), (5, vi f), (6, vi d), (7, vu rc), (10, vi x), (13, vp (pa b)), (15, .agg #[vi 2, vi 3]), (16, vi a), (67, .bool true), (69, vi s)], pk, ?_⟩
    refine T_n 4 [(0, vp (some e)), (1, vu wv), (4, vi ra), (5, vi f), (6, vi d), (7, vu rc), (13, vp (pa b)), (15, .agg #[vi 2, vi 3]), (16, vi a), (73, .bool (s == x))] ?_
    by_cases c21 : s = x
    ·rw [if_pos c21] at h
     have b22 : (s == x) = true := beq_iff_eq.mpr c21
     refine N_env [(0, vp (some e)), (1, vu wv), (4, vi ra), (5, vi f), (6, vi d), (7, vu rc), (13, vp (pa b)), (15, .agg #[vi 2, vi 3]), (16, vi a), (73, .bool true)] (by simp only [b22, Bool.not_true, Bool.not_false]) ?_
     clear b22
     refine T_n 5 [(0, vp (some e)), (1, vu wv), (4, vi ra), (5, vi f), (6, vi d), (7, vu rc), (15, .agg #[vi 2, vi 3]), (16, vi a), (73, .bool true), (77, vi (IntKind.wrap .i64 ((Int.tmod ra 64) + d))), (78, vp (some ((Addr.mk b 0 none).add 2)))] ?_
     obtain ⟨q, q23, h⟩ := h
     refine T_l (some 79) 3 q23 [(0, vp (some e)), (1, vu wv), (4, vi ra), (5, vi f), (6, vi d), (7, vu rc), (15, .agg #[vi 2, vi 3]), (16, vi a), (73, .bool true), (77, vi (IntKind.wrap .i64 ((Int.tmod ra 64) + d))), (79, vi q)] ?_
     refine T_ne 2 [(0, vp (some e)), (1, vu wv), (4, vi ra), (5, vi f), (6, vi d), (7, vu rc), (15, .agg #[vi 2, vi 3]), (16, vi a), (81, .bool (decide ((IntKind.wrap .i64 ((Int.tmod ra 64) + d)) < q)))] ?_
     by_cases c24 : (IntKind.wrap .i64 ((Int.tmod ra 64) + d)) < q
     ·rw [if_pos c24] at h
      have b25 : (decide ((IntKind.wrap .i64 ((Int.tmod ra 64) + d)) < q)) = true := decide_eq_true c24
      refine S_env [(0, vp (some e)), (1, vu wv), (4, vi ra), (5, vi f), (6, vi d), (7, vu rc), (15, .agg #[vi 2, vi 3]), (16, vi a), (81, .bool true)] (by simp only [b25, Bool.not_true, Bool.not_false]) ?_
      clear b25
      refine T_t 81 kk36 kk37 ?_
      refine T_sr 10 kk38 kk39 ?_
      refine T_ne 9 [(4, vi ra), (5, vi f), (6, vi d), (7, vu rc), (8, .bool true)] ?_
      refine S_ret (by kernel_rfl) ?_
      show At _ _ _ _ _ (Q .ret)
      exact S_done (fn := Try.f32) [vi ra, vi f, vi d, vu rc, .bool true] hQ (show ResOK _ _ _ [.tmp 4, .tmp 5, .tmp 6, .tmp 7, .tmp 8] _ from .tmp (by kernel_rfl) (.tmp (by kernel_rfl) (.tmp (by kernel_rfl) (.tmp (by kernel_rfl) (.tmp (by kernel_rfl) (.nil)))))) h
     ·rw [if_neg c24] at h
      have b25 : (decide ((IntKind.wrap .i64 ((Int.tmod ra 64) + d)) < q)) = false := decide_eq_false c24
      refine S_env [(0, vp (some e)), (1, vu wv), (4, vi ra), (5, vi f), (6, vi d), (7, vu rc), (15, .agg #[vi 2, vi 3]), (16, vi a), (81, .bool false)] (by simp only [b25, Bool.not_true, Bool.not_false]) ?_
      clear b25
      refine T_f 81 kk36 kk37 ?_
      refine T_k ?_
      refine S_blockEnd ?_
      refine S_then ?_
      refine T_r 11 kk16 ?_
      refine T_ne 2 [(0, vp (some e)), (1, vu wv), (15, .agg #[vi 2, vi 3]), (16, vi (IntKind.wrap .i64 (a + 1)))] ?_
      exact S_round ((IntKind.wrap .i64 (a + 1)) : Int) sk h
    ·rw [if_neg c21] at h
     have b22 : (s == x) = false := beq_eq_false_iff_ne.mpr c21
     refine N_env [(0, vp (some e)), (1, vu wv), (4, vi ra), (5, vi f), (6, vi d), (7, vu rc), (13, vp (pa b)), (15, .agg #[vi 2, vi 3]), (16, vi a), (73, .bool false)] (by simp only [b22, Bool.not_true, Bool.not_false]) ?_
     clear b22
     refine T_ne 8 [(0, vp (some e)), (1, vu wv), (4, vi ra), (5, vi f), (6, vi d), (7, vu rc), (15, .agg #[vi 2, vi 3]), (16, vi a), (81, .bool false)] ?_
     refine T_f 81 kk36 kk37 ?_
     refine T_k ?_
     refine S_blockEnd ?_
     refine S_then ?_
     refine T_r 11 kk16 ?_
     refine T_ne 2 [(0, vp (some e)), (1, vu wv), (15, .agg #[vi 2, vi 3]), (16, vi (IntKind.wrap .i64 (a + 1)))] ?_
     exact S_round ((IntKind.wrap .i64 (a + 1)) : Int) sk h
   ·rw [if_neg c19] at h
    have b20 : rd = false := eq_false_of_ne_true c19
    refine N_env [(0, vp (some e)), (1, vu wv), (4, vi ra), (5, vi f), (6, vi d), (7, vu rc), (10, vi x), (13, vp (pa b)), (15, .agg #[vi 2, vi 3]), (16, vi a), (67, .bool false)] (by simp only [b20, Bool.not_true, Bool.not_false]) ?_
    clear b20
    refine T_ne 14 [(0, vp (some e)), (1, vu wv), (4, vi ra), (5, vi f), (6, vi d), (7, vu rc), (15, .agg #[vi 2, vi 3]), (16, vi a), (81, .bool false)] ?_
    refine T_f 81 kk36 kk37 ?_
    refine T_k ?_
    refine S_blockEnd ?_
    refine S_then ?_
    refine T_r 11 kk16 ?_
    refine T_ne 2 [(0, vp (some e)), (1, vu wv), (15, .agg #[vi 2, vi 3]), (16, vi (IntKind.wrap .i64 (a + 1)))] ?_
    exact S_round ((IntKind.wrap .i64 (a + 1)) : Int) sk h
  ·rw [if_neg c7] at h
   have b8 : (!rb) = true := congrArg Bool.not (eq_false_of_ne_true c7)
   have b82 : rb = false := eq_false_of_ne_true c7
   refine S_env [(0, vp hv), (1, vu wv), (4, vi ra), (10, vi x), (15, .agg #[vi 2, vi 3]), (16, vi a), (27, .bool true)] (by simp only [b8, b82, Bool.not_true, Bool.not_false]) ?_
   clear b8 b82
   refine T_t 27 kk26 kk27 ?_
   refine S_exit 1 (by kernel_rfl) ?_
   refine S_exitThen ?_
   refine S_exitHere ?_
   refine S_then ?_
   refine T_r 11 kk16 ?_
   refine T_ne 2 [(0, vp hv), (1, vu wv), (15, .agg #[vi 2, vi 3]), (16, vi (IntKind.wrap .i64 (a + 1)))] ?_
   exact S_round ((IntKind.wrap .i64 (a + 1)) : Int) sk h
 ·rw [if_neg c4] at h
  have b5 : (decide (a < 2)) = false := decide_eq_false c4
  refine S_env [(0, vp hv), (1, vu wv), (15, .agg #[vi 2, vi 3]), (16, vi a), (17, .bool false)] (by simp only [b5, Bool.not_true, Bool.not_false]) ?_
  clear b5
  refine T_f 17 kk13 kk14 ?_
  refine S_exit 0 (by kernel_rfl) ?_
  refine S_exitThen ?_
  refine S_exitThen ?_
  refine S_exitHere ?_
  refine S_then ?_
  refine T_sr 12 kk40 kk41 ?_
  refine T_ne 5 [(4, vi 0), (5, vi 0), (6, vi 0), (7, vu 0), (8, .bool false)] ?_
  refine S_ret (by kernel_rfl) ?_
  show At _ _ _ _ _ (Q .ret)
  exact S_done (fn := Try.f32) [vi 0, vi 0, vi 0, vu 0, .bool false] hQ (show ResOK _ _ _ [.tmp 4, .tmp 5, .tmp 6, .tmp 7, .tmp 8] _ from .tmp (by kernel_rfl) (.tmp (by kernel_rfl) (.tmp (by kernel_rfl) (.tmp (by kernel_rfl) (.tmp (by kernel_rfl) (.nil)))))) h
end obj_Heap_object

/-! (*moraine/obj.Heap).field -/
namespace obj_Heap_field
def kk0 := Func.code Try.f41
def kk1 := Code.fa kk0
def kk2 := Code.fb kk0
def kk3 := Code.fa kk2
def kk4 := Code.fb kk2
def kk5 := Code.fa kk4
def kk6 := Code.fb kk4
def kk7 := Code.fa kk5
def kk8 := Code.fa kk7
def kk9 := Code.fb kk7
def kk10 := Code.fa kk9
def kk11 := Code.fb kk9
def kk12 := Code.fa kk10
def kk13 := Code.fb kk10
def kk14 := Code.fa kk11
def kk15 := Code.fb kk11
def kk16 := Code.fa kk15
def kk17 := Code.fb kk15
def kk18 := Code.fa kk16
def kk19 := Code.fb kk16
def kk20 := Code.fa kk6
def kk21 := Code.fb kk6
end obj_Heap_field
def obj_Heap_field.pt (hv : Option Addr) (wv : Int) (kind : Int) (i : Int) (H : Array Obj) (R : Value → Array Obj → Prop) : Prop :=
 obj_Heap_object.C hv wv H (fun v H1 => ∃ ra : Int, ∃ rb : Int, ∃ rc : Int, ∃ rd : Int, ∃ re : Bool, v = .tuple #[.int .i64 ra, .int .i64 rb, .int .i64 rc, .int .u64 rd, .bool re] ∧ 
 if ((!re) || (rb != kind)) = true then (
 R (.tuple #[.int .i64 0, .int .i64 3]) H1)
 else
 if ((decide (i < 0)) || (decide (i ≥ rc))) = true then (
 R (.tuple #[.int .i64 0, .int .i64 4]) H1)
 else
 R (.tuple #[.int .i64 (IntKind.wrap .i64 ((IntKind.wrap .i64 (ra + 1)) + i)), .int .i64 0]) H1)
namespace obj_Heap_field
set_option maxRecDepth 100000 in
theorem link {hv : Option Addr} {wv : Int} {kind : Int} {i : Int} {H : Array Obj} {R : Value → Array Obj → Prop} (h : pt hv wv kind i H R) : C hv wv kind i H R := by
 refine S_enter (fn := Try.f41) (c := kk0) 44 Try.func41 (by kernel_rfl) (by kernel_rfl) (Nat.le_of_ble_eq_true (by kernel_rfl)) ?_
 intro w0 Q hQ
 unfold pt at h
 refine T_su [(0, vp hv), (1, vu wv), (2, vi kind), (3, vi i)] ?_
 refine T_sr 0 kk1 kk2 ?_
 refine T_ne 2 [(0, vp hv), (1, vu wv), (2, vi kind), (3, vi i)] ?_
 refine T_sr 1 kk3 kk4 ?_
 refine T_n 2 [(2, vi kind), (3, vi i), (16, vp hv), (17, vu wv)] ?_
 refine N_call (some 18) 32 #[vp hv, vu wv] (fun _=>by kernel_rfl) h ?_; clear h
 rintro v H1 ⟨ra, rb, rc, rd, re, rfl, h⟩
 refine ⟨[(2, vi kind), (3, vi i), (18, .tuple #[vi ra, vi rb, vi rc, vu rd, .bool re])], pk, ?_⟩
 refine T_ne 11 [(2, vi kind), (3, vi i), (10, vi ra), (11, vi rb), (12, vi rc), (14, .bool re)] ?_
 refine T_s kk5 kk6 ?_
 refine T_b 0 kk7 ?_
 refine T_sr 2 kk8 kk9 ?_
 refine N_cut [(3, vi i), (10, vi ra), (12, vi rc), (24, .bool ((!re) || (rb != kind)))] ?_ ?_
 ·refine S_then ?_
  by_cases c3 : ((!re) || (rb != kind)) = true
  ·rw [if_pos c3] at h
   have b4 : ((!re) || (rb != kind)) = true := c3
   refine S_env [(3, vi i), (10, vi ra), (12, vi rc), (24, .bool true)] (by simp only [b4, Bool.not_true, Bool.not_false]) ?_
   clear b4
   refine T_t 24 kk10 kk11 ?_
   refine T_sr 3 kk12 kk13 ?_
   refine T_ne 2 [(8, vi 0), (9, vi 3)] ?_
   refine S_ret (by kernel_rfl) ?_
   show At _ _ _ _ _ (Q .ret)
   exact S_done (fn := Try.f41) [vi 0, vi 3] hQ (show ResOK _ _ _ [.tmp 8, .tmp 9] _ from .tmp (by kernel_rfl) (.tmp (by kernel_rfl) (.nil))) h
  ·rw [if_neg c3] at h
   have b4 : ((!re) || (rb != kind)) = false := eq_false_of_ne_true c3
   refine S_env [(3, vi i), (10, vi ra), (12, vi rc), (24, .bool false)] (by simp only [b4, Bool.not_true, Bool.not_false]) ?_
   clear b4
   refine T_f 24 kk10 kk11 ?_
   refine T_sr 4 kk14 kk15 ?_
   refine N_cut [(3, vi i), (10, vi ra), (32, .bool ((decide (i < 0)) || (decide (i ≥ rc))))] ?_ ?_
   ·refine S_then ?_
    by_cases c7 : ((decide (i < 0)) || (decide (i ≥ rc))) = true
    ·rw [if_pos c7] at h
     have b8 : ((decide (i < 0)) || (decide (i ≥ rc))) = true := c7
     refine S_env [(3, vi i), (10, vi ra), (32, .bool true)] (by simp only [b8, Bool.not_true, Bool.not_false]) ?_
     clear b8
     refine T_t 32 kk16 kk17 ?_
     refine T_sr 5 kk18 kk19 ?_
     refine T_ne 2 [(8, vi 0), (9, vi 4)] ?_
     refine S_ret (by kernel_rfl) ?_
     show At _ _ _ _ _ (Q .ret)
     exact S_done (fn := Try.f41) [vi 0, vi 4] hQ (show ResOK _ _ _ [.tmp 8, .tmp 9] _ from .tmp (by kernel_rfl) (.tmp (by kernel_rfl) (.nil))) h
    ·rw [if_neg c7] at h
     have b8 : ((decide (i < 0)) || (decide (i ≥ rc))) = false := eq_false_of_ne_true c7
     refine S_env [(3, vi i), (10, vi ra), (32, .bool false)] (by simp only [b8, Bool.not_true, Bool.not_false]) ?_
     clear b8
     refine T_f 32 kk16 kk17 ?_
     refine T_k ?_
     refine S_blockEnd ?_
     refine S_then ?_
     refine T_sr 6 kk20 kk21 ?_
     refine T_ne 6 [(8, vi (IntKind.wrap .i64 ((IntKind.wrap .i64 (ra + 1)) + i))), (9, vi 0)] ?_
     refine S_ret (by kernel_rfl) ?_
     show At _ _ _ _ _ (Q .ret)
     exact S_done (fn := Try.f41) [vi (IntKind.wrap .i64 ((IntKind.wrap .i64 (ra + 1)) + i)), vi 0] hQ (show ResOK _ _ _ [.tmp 8, .tmp 9] _ from .tmp (by kernel_rfl) (.tmp (by kernel_rfl) (.nil))) h
   ·intro hk
    refine T_n 3 [(3, vi i), (10, vi ra), (12, vi rc), (35, .bool (decide (i < 0)))] ?_
    by_cases c5 : i < 0
    ·have b6 : (decide (i < 0)) = true := decide_eq_true c5
     refine N_env [(3, vi i), (10, vi ra), (12, vi rc), (35, .bool true)] (by simp only [b6, Bool.not_true, Bool.not_false]) ?_
     refine T_n 5 [(3, vi i), (10, vi ra), (32, .bool true)] ?_
     refine N_end (by kernel_rfl) ?_
     refine S_env [(3, vi i), (10, vi ra), (32, .bool ((decide (i < 0)) || (decide (i ≥ rc))))] (by simp only [b6, Bool.true_or, Bool.false_or, Bool.or_true, Bool.or_false, Bool.true_and, Bool.false_and, Bool.and_true, Bool.and_false, Bool.not_true, Bool.not_false, cond_true, cond_false]) ?_
     exact hk
    ·have b6 : (decide (i < 0)) = false := decide_eq_false c5
     refine N_env [(3, vi i), (10, vi ra), (12, vi rc), (35, .bool false)] (by simp only [b6, Bool.not_true, Bool.not_false]) ?_
     refine T_n 5 [(3, vi i), (10, vi ra), (32, .bool (decide (i ≥ rc)))] ?_
     refine N_end (by kernel_rfl) ?_
     refine S_env [(3, vi i), (10, vi ra), (32, .bool ((decide (i < 0)) || (decide (i ≥ rc))))] (by simp only [b6, Bool.true_or, Bool.false_or, Bool.or_true, Bool.or_false, Bool.true_and, Bool.false_and, Bool.and_true, Bool.and_false, Bool.not_true, Bool.not_false, cond_true, cond_false]) ?_
     exact hk
 ·intro hk
  refine T_n 3 [(2, vi kind), (3, vi i), (10, vi ra), (11, vi rb), (12, vi rc), (27, .bool (!re))] ?_
  by_cases c1 : re = true
  ·have b2 : (!re) = false := congrArg Bool.not (c1)
   have b22 : re = true := c1
   refine N_env [(2, vi kind), (3, vi i), (10, vi ra), (11, vi rb), (12, vi rc), (27, .bool false)] (by simp only [b2, b22, Bool.not_true, Bool.not_false]) ?_
   refine T_n 5 [(3, vi i), (10, vi ra), (12, vi rc), (24, .bool (rb != kind))] ?_
   refine N_end (by kernel_rfl) ?_
   refine S_env [(3, vi i), (10, vi ra), (12, vi rc), (24, .bool ((!re) || (rb != kind)))] (by simp only [b2, Bool.true_or, Bool.false_or, Bool.or_true, Bool.or_false, Bool.true_and, Bool.false_and, Bool.and_true, Bool.and_false, Bool.not_true, Bool.not_false, cond_true, cond_false]) ?_
   exact hk
  ·have b2 : (!re) = true := congrArg Bool.not (eq_false_of_ne_true c1)
   have b22 : re = false := eq_false_of_ne_true c1
   refine N_env [(2, vi kind), (3, vi i), (10, vi ra), (11, vi rb), (12, vi rc), (27, .bool true)] (by simp only [b2, b22, Bool.not_true, Bool.not_false]) ?_
   refine T_n 5 [(3, vi i), (10, vi ra), (12, vi rc), (24, .bool true)] ?_
   refine N_end (by kernel_rfl) ?_
   refine S_env [(3, vi i), (10, vi ra), (12, vi rc), (24, .bool ((!re) || (rb != kind)))] (by simp only [b2, Bool.true_or, Bool.false_or, Bool.or_true, Bool.or_false, Bool.true_and, Bool.false_and, Bool.and_true, Bool.and_false, Bool.not_true, Bool.not_false, cond_true, cond_false]) ?_
   exact hk
end obj_Heap_field

/-! (*moraine/obj.Heap).none -/
namespace obj_Heap_none
def kk0 := Func.code Try.f44
def kk1 := Code.fa kk0
def kk2 := Code.fb kk0
def kk3 := Code.fa kk2
def kk4 := Code.fb kk2
end obj_Heap_none
def obj_Heap_none.pt (hv : Option Addr) (H : Array Obj) (R : Value → Array Obj → Prop) : Prop :=
 onPtr hv (
 R (.bool true) H) (fun a =>
 ∃ x : Option Addr, hat H a = some (.pointer x) ∧
 onPtr x (
 R (.bool true) H) (fun xA =>
 R (.bool false) H))
namespace obj_Heap_none
set_option maxRecDepth 100000 in
theorem link {hv : Option Addr} {H : Array Obj} {R : Value → Array Obj → Prop} (h : pt hv H R) : C hv H R := by
 refine S_enter (fn := Try.f44) (c := kk0) 12 Try.func44 (by kernel_rfl) (by kernel_rfl) (Nat.le_of_ble_eq_true (by kernel_rfl)) ?_
 intro w0 Q hQ
 unfold pt at h
 refine T_su [(0, vp hv)] ?_
 refine T_sr 0 kk1 kk2 ?_
 refine T_ne 1 [(0, vp hv)] ?_
 refine T_sr 1 kk3 kk4 ?_
 refine T_n 1 [(0, vp hv), (3, vp hv)] ?_
 rcases hv with _ | a
 ·rw [onPtr_none] at h
  refine T_ne 9 [(2, .bool true)] ?_
  refine S_ret (by kernel_rfl) ?_
  show At _ _ _ _ _ (Q .ret)
  exact S_done (fn := Try.f44) [.bool true] hQ (show ResOK _ _ _ [.tmp 2] _ from .tmp (by kernel_rfl) (.nil)) h
 ·rw [onPtr_some] at h
  refine T_n 5 [(5, .bool false), (8, vp (some a))] ?_
  obtain ⟨x, q1, h⟩ := h
  refine T_l (some 9) 53 q1 [(5, .bool false), (9, vp x)] ?_
  rcases x with _ | xA
  ·rw [onPtr_none] at h
   refine T_ne 3 [(2, .bool true)] ?_
   refine S_ret (by kernel_rfl) ?_
   show At _ _ _ _ _ (Q .ret)
   exact S_done (fn := Try.f44) [.bool true] hQ (show ResOK _ _ _ [.tmp 2] _ from .tmp (by kernel_rfl) (.nil)) h
  ·rw [onPtr_some] at h
   refine T_ne 3 [(2, .bool false)] ?_
   refine S_ret (by kernel_rfl) ?_
   show At _ _ _ _ _ (Q .ret)
   exact S_done (fn := Try.f44) [.bool false] hQ (show ResOK _ _ _ [.tmp 2] _ from .tmp (by kernel_rfl) (.nil)) h
end obj_Heap_none

/-! (*moraine/obj.Heap).at -/
namespace obj_Heap_at
def kk0 := Func.code Try.f52
def kk1 := Code.fa kk0
def kk2 := Code.fb kk0
def kk3 := Code.fa kk2
def kk4 := Code.fb kk2
def kk5 := Code.fa kk4
def kk6 := Code.fb kk4
def kk7 := Code.fa kk5
def kk8 := Code.fb kk5
def kk9 := Code.fa kk8
def kk10 := Code.fb kk8
def kk11 := Code.fa kk9
def kk12 := Code.fb kk9
def kk13 := Code.fa kk6
def kk14 := Code.fb kk6
def kk15 := Code.fa kk14
def kk16 := Code.fb kk14
end obj_Heap_at
def obj_Heap_at.pt (hv : Option Addr) (wv : Int) (tag : Int) (kind : Int) (H : Array Obj) (R : Value → Array Obj → Prop) : Prop :=
 word_Addr.C wv H (fun v H1 => ∃ ra : Int, ∃ rb : Bool, v = .tuple #[.int .i64 ra, .bool rb] ∧ 
 obj_Heap_none.C hv H1 (fun y H2 => ∃ x : Bool, y = .bool x ∧ 
 if x = true then (
 R (.tuple #[.int .i64 0, .bool false]) H2)
 else
 if rb = true then (
 word_Tag.C wv H2 (fun z H3 => ∃ n : Int, z = .int .i64 n ∧ 
 if n = tag then (
 ∃ r : Addr, hv = some r ∧
 ∃ p : Option Addr, hat H3 r = some (.pointer p) ∧
 ∃ s : Addr, p = some s ∧
 ∃ t : Option Addr, hat H3 s = some (.pointer t) ∧
 ∃ q : Addr, t = some q ∧
 ∃ o : Option Addr, hat H3 q = some (.pointer o) ∧
 seg_Mem_Seg.C o (IntKind.wrap .i64 (Int.tdiv ra 64)) H3 (fun u H4 => ∃ j : Int, ∃ i : Int, ∃ m : Int, ∃ d : Int, ∃ a : Int, ∃ e : Int, ∃ f : Int, ∃ g : Bool, u = .tuple #[.agg #[.int .i64 j, .int .i64 i, .int .i64 m, .int .i64 d, .int .i64 a, .int .i64 e, .int .i64 f], .bool g] ∧ 
 ∀ (b : Nat) (H5 : Array Obj), b = H4.size → H5 = H4.push (.cells #[.int .i64 0, .int .i64 0, .int .i64 0, .int .i64 0, .int .i64 0, .int .i64 0, .int .i64 0] 83) →
 (CanPuts H5 (Addr.mk b 0 none) 0 7) ∧ ∀ H6 : Array Obj, H6 = hputs H5 (Addr.mk b 0 none) [.int .i64 j, .int .i64 i, .int .i64 m, .int .i64 d, .int .i64 a, .int .i64 e, .int .i64 f] 0 →
 if g = true then (
 ∃ k : Int, hat H6 ((Addr.mk b 0 none).add 1) = some (.int .i64 k) ∧
 if k = kind then (
 ∃ l : Int, hat H6 ((Addr.mk b 0 none).add 2) = some (.int .i64 l) ∧
 R (.tuple #[.int .i64 ra, .bool (decide ((Int.tmod ra 64) < l))]) H6)
 else
 R (.tuple #[.int .i64 ra, .bool false]) H6)
 else
 R (.tuple #[.int .i64 ra, .bool false]) H6))
 else
 R (.tuple #[.int .i64 0, .bool false]) H3))
 else
 R (.tuple #[.int .i64 0, .bool false]) H2))
namespace obj_Heap_at
set_option maxRecDepth 100000 in
theorem link {hv : Option Addr} {wv : Int} {tag : Int} {kind : Int} {H : Array Obj} {R : Value → Array Obj → Prop} (h : pt hv wv tag kind H R) : C hv wv tag kind H R := by
 refine S_enter (fn := Try.f52) (c := kk0) 61 Try.func52 (by kernel_rfl) (by kernel_rfl) (Nat.le_of_ble_eq_true (by kernel_rfl)) ?_
 intro w0 Q hQ
 unfold pt at h
 refine T_su [(0, vp hv), (1, vu wv), (2, vi tag), (3, vi kind)] ?_
 refine T_sr 0 kk1 kk2 ?_
 refine T_ne 2 [(0, vp hv), (1, vu wv), (2, vi tag), (3, vi kind)] ?_
 refine T_sr 1 kk3 kk4 ?_
 refine T_n 1 [(0, vp hv), (1, vu wv), (2, vi tag), (3, vi kind), (14, vu wv)] ?_
 refine N_call (some 15) 33 #[vu wv] (fun _=>by kernel_rfl) h ?_; clear h
 rintro v H1 ⟨ra, rb, rfl, h⟩
 refine ⟨[(0, vp hv), (1, vu wv), (2, vi tag), (3, vi kind), (15, .tuple #[vi ra, .bool rb])], pk, ?_⟩
 refine T_ne 5 [(0, vp hv), (1, vu wv), (2, vi tag), (3, vi kind), (10, vi ra), (11, .bool rb)] ?_
 refine T_s kk5 kk6 ?_
 refine T_sr 2 kk7 kk8 ?_
 refine T_n 1 [(0, vp hv), (1, vu wv), (2, vi tag), (3, vi kind), (10, vi ra), (11, .bool rb), (18, vp hv)] ?_
 refine N_call (some 19) 44 #[vp hv] (fun _=>by kernel_rfl) h ?_; clear h
 rintro y H2 ⟨x, rfl, h⟩
 refine ⟨[(0, vp hv), (1, vu wv), (2, vi tag), (3, vi kind), (10, vi ra), (11, .bool rb), (19, .bool x)], pk, ?_⟩
 refine T_n 1 [(0, vp hv), (1, vu wv), (2, vi tag), (3, vi kind), (10, vi ra), (11, .bool rb), (20, .bool x)] ?_
 by_cases c1 : x = true
 ·rw [if_pos c1] at h
  have b2 : x = true := c1
  refine N_env [(0, vp hv), (1, vu wv), (2, vi tag), (3, vi kind), (10, vi ra), (11, .bool rb), (20, .bool true)] (by simp only [b2, Bool.not_true, Bool.not_false]) ?_
  clear b2
  refine T_ne 9 [(0, vp hv), (3, vi kind), (10, vi ra), (29, .bool true)] ?_
  refine T_t 29 kk9 kk10 ?_
  refine T_sr 3 kk11 kk12 ?_
  refine T_ne 2 [(8, vi 0), (9, .bool false)] ?_
  refine S_ret (by kernel_rfl) ?_
  show At _ _ _ _ _ (Q .ret)
  exact S_done (fn := Try.f52) [vi 0, .bool false] hQ (show ResOK _ _ _ [.tmp 8, .tmp 9] _ from .tmp (by kernel_rfl) (.tmp (by kernel_rfl) (.nil))) h
 ·rw [if_neg c1] at h
  have b2 : x = false := eq_false_of_ne_true c1
  refine N_env [(0, vp hv), (1, vu wv), (2, vi tag), (3, vi kind), (10, vi ra), (11, .bool rb), (20, .bool false)] (by simp only [b2, Bool.not_true, Bool.not_false]) ?_
  clear b2
  refine T_n 4 [(0, vp hv), (1, vu wv), (2, vi tag), (3, vi kind), (10, vi ra), (24, .bool (!rb))] ?_
  by_cases c3 : rb = true
  ·rw [if_pos c3] at h
   have b4 : (!rb) = false := congrArg Bool.not (c3)
   have b42 : rb = true := c3
   refine N_env [(0, vp hv), (1, vu wv), (2, vi tag), (3, vi kind), (10, vi ra), (24, .bool false)] (by simp only [b4, b42, Bool.not_true, Bool.not_false]) ?_
   clear b4 b42
   refine T_n 1 [(0, vp hv), (2, vi tag), (3, vi kind), (10, vi ra), (24, .bool false), (25, vu wv)] ?_
   refine N_call (some 26) 35 #[vu wv] (fun _=>by kernel_rfl) h ?_; clear h
   rintro z H3 ⟨n, rfl, h⟩
   refine ⟨[(0, vp hv), (2, vi tag), (3, vi kind), (10, vi ra), (24, .bool false), (26, vi n)], pk, ?_⟩
   refine T_ne 3 [(0, vp hv), (3, vi kind), (10, vi ra), (29, .bool (n != tag))] ?_
   by_cases c5 : n = tag
   ·rw [if_pos c5] at h
    have b6 : (n != tag) = false := bne_eq_false_iff_eq.mpr c5
    refine S_env [(0, vp hv), (3, vi kind), (10, vi ra), (29, .bool false)] (by simp only [b6, Bool.not_true, Bool.not_false]) ?_
    clear b6
    refine T_f 29 kk9 kk10 ?_
    refine T_kt ?_
    refine T_sr 4 kk13 kk14 ?_
    refine T_n 1 [(3, vi kind), (10, vi ra), (31, vp hv)] ?_
    obtain ⟨r, rfl, h⟩ := h
    refine T_n 2 [(3, vi kind), (10, vi ra), (33, vp (some r))] ?_
    obtain ⟨p, q7, h⟩ := h
    refine T_l (some 34) 53 q7 [(3, vi kind), (10, vi ra), (34, vp p)] ?_
    obtain ⟨s, rfl, h⟩ := h
    refine T_n 2 [(3, vi kind), (10, vi ra), (36, vp (some s))] ?_
    obtain ⟨t, q8, h⟩ := h
    refine T_l (some 37) 58 q8 [(3, vi kind), (10, vi ra), (37, vp t)] ?_
    obtain ⟨q, rfl, h⟩ := h
    refine T_n 2 [(3, vi kind), (10, vi ra), (39, vp (some q))] ?_
    obtain ⟨o, q9, h⟩ := h
    refine T_l (some 40) 86 q9 [(3, vi kind), (10, vi ra), (40, vp o)] ?_
    refine T_n 2 [(3, vi kind), (10, vi ra), (40, vp o), (42, vi (IntKind.wrap .i64 (Int.tdiv ra 64)))] ?_
    refine N_call (some 43) 36 #[vp o, vi (IntKind.wrap .i64 (Int.tdiv ra 64))] (fun _=>by kernel_rfl) h ?_; clear h
    rintro u H4 ⟨j, i, m, d, a, e, f, g, rfl, h⟩
    refine ⟨[(3, vi kind), (10, vi ra), (43, .tuple #[.agg #[vi j, vi i, vi m, vi d, vi a, vi e, vi f], .bool g])], pk, ?_⟩
    refine T_n 3 [(3, vi kind), (10, vi ra), (44, .agg #[vi j, vi i, vi m, vi d, vi a, vi e, vi f]), (45, .bool g)] ?_
    refine N_new (some 12) (fun b => vp (pa b)) (.cells #[vi 0, vi 0, vi 0, vi 0, vi 0, vi 0, vi 0] 83) (fun _=>by kernel_rfl) ?_
    intro b H5 e10 e11
    replace h := h b H5 e10 e11
    refine ⟨[(3, vi kind), (10, vi ra), (12, vp (pa b)), (44, .agg #[vi j, vi i, vi m, vi d, vi a, vi e, vi f]), (45, .bool g)], pk, ?_⟩
    obtain ⟨q13, h⟩ := h
    refine N_skipop none (storeN 83 (vp (pa b)) (.agg #[vi j, vi i, vi m, vi d, vi a, vi e, vi f])) (fun Hz => Hz = hputs H5 (Addr.mk b 0 none) [vi j, vi i, vi m, vi d, vi a, vi e, vi f] 0) (fun _=>by kernel_rfl) (ss_store [vi j, vi i, vi m, vi d, vi a, vi e, vi f] 7 (by kernel_rfl) (by kernel_rfl) (fun _=>by kernel_rfl) (by kernel_rfl) q13) ?_
    intro H6 e12
    replace h := h H6 e12
    refine ⟨[(3, vi kind), (10, vi ra), (12, vp (pa b)), (45, .bool g)], pk, ?_⟩
    refine T_ne 1 [(3, vi kind), (10, vi ra), (11, .bool g), (12, vp (pa b))] ?_
    refine T_s kk15 kk16 ?_
    refine T_rq 5 kk15 ?_
    refine T_q (some 46) (vi ra) [(3, vi kind), (10, vi ra), (11, .bool g), (12, vp (pa b)), (46, vi ra)] ?_
    refine T_q (some 47) (.bool g) [(3, vi kind), (10, vi ra), (12, vp (pa b)), (46, vi ra), (47, .bool g)] ?_
    refine T_q (some 48) (.bool g) [(3, vi kind), (10, vi ra), (12, vp (pa b)), (46, vi ra), (48, .bool g)] ?_
    by_cases c14 : g = true
    ·rw [if_pos c14] at h
     have b15 : g = true := c14
     refine Q_env [(3, vi kind), (10, vi ra), (12, vp (pa b)), (46, vi ra), (48, .bool true)] (by simp only [b15, Bool.not_true, Bool.not_false]) ?_
     clear b15
     refine T_q (some 49) (vp (some ((Addr.mk b 0 none).add 1))) [(3, vi kind), (10, vi ra), (12, vp (pa b)), (46, vi ra), (48, .bool true), (49, vp (some ((Addr.mk b 0 none).add 1)))] ?_
     obtain ⟨k, q16, h⟩ := h
     refine T_ql (some 50) 3 q16 [(3, vi kind), (10, vi ra), (12, vp (pa b)), (46, vi ra), (48, .bool true), (50, vi k)] ?_
     refine T_q (some 51) (vi kind) [(10, vi ra), (12, vp (pa b)), (46, vi ra), (48, .bool true), (50, vi k), (51, vi kind)] ?_
     refine T_q (some 52) (.bool (k == kind)) [(10, vi ra), (12, vp (pa b)), (46, vi ra), (48, .bool true), (52, .bool (k == kind))] ?_
     refine T_q (some 53) (.bool (k == kind)) [(10, vi ra), (12, vp (pa b)), (46, vi ra), (53, .bool (k == kind))] ?_
     refine T_q (some 54) (.bool (k == kind)) [(10, vi ra), (12, vp (pa b)), (46, vi ra), (54, .bool (k == kind))] ?_
     by_cases c17 : k = kind
     ·rw [if_pos c17] at h
      have b18 : (k == kind) = true := beq_iff_eq.mpr c17
      refine Q_env [(10, vi ra), (12, vp (pa b)), (46, vi ra), (54, .bool true)] (by simp only [b18, Bool.not_true, Bool.not_false]) ?_
      clear b18
      refine T_q (some 55) (vi ra) [(12, vp (pa b)), (46, vi ra), (54, .bool true), (55, vi ra)] ?_
      refine T_q (some 56) (vi (Int.tmod ra 64)) [(12, vp (pa b)), (46, vi ra), (54, .bool true), (56, vi (Int.tmod ra 64))] ?_
      refine T_q (some 57) (vp (some ((Addr.mk b 0 none).add 2))) [(46, vi ra), (54, .bool true), (56, vi (Int.tmod ra 64)), (57, vp (some ((Addr.mk b 0 none).add 2)))] ?_
      obtain ⟨l, q19, h⟩ := h
      refine T_ql (some 58) 3 q19 [(46, vi ra), (54, .bool true), (56, vi (Int.tmod ra 64)), (58, vi l)] ?_
      refine T_q (some 59) (.bool (decide ((Int.tmod ra 64) < l))) [(46, vi ra), (54, .bool true), (59, .bool (decide ((Int.tmod ra 64) < l)))] ?_
      refine T_q (some 60) (.bool (decide ((Int.tmod ra 64) < l))) [(46, vi ra), (60, .bool (decide ((Int.tmod ra 64) < l)))] ?_
      refine T_q (some 8) (vi ra) [(8, vi ra), (60, .bool (decide ((Int.tmod ra 64) < l)))] ?_
      refine T_q (some 9) (.bool (decide ((Int.tmod ra 64) < l))) [(8, vi ra), (9, .bool (decide ((Int.tmod ra 64) < l)))] ?_
      refine Q_sub [(8, vi ra), (9, .bool (decide ((Int.tmod ra 64) < l)))] sk ?_
      refine T_qe ?_
      refine S_ret (by kernel_rfl) ?_
      show At _ _ _ _ _ (Q .ret)
      exact S_done (fn := Try.f52) [vi ra, .bool (decide ((Int.tmod ra 64) < l))] hQ (show ResOK _ _ _ [.tmp 8, .tmp 9] _ from .tmp (by kernel_rfl) (.tmp (by kernel_rfl) (.nil))) h
     ·rw [if_neg c17] at h
      have b18 : (k == kind) = false := beq_eq_false_iff_ne.mpr c17
      refine Q_env [(10, vi ra), (12, vp (pa b)), (46, vi ra), (54, .bool false)] (by simp only [b18, Bool.not_true, Bool.not_false]) ?_
      clear b18
      refine T_q (some 55) (undef) [(12, vp (pa b)), (46, vi ra), (54, .bool false), (55, undef)] ?_
      refine T_q (some 56) (undef) [(12, vp (pa b)), (46, vi ra), (54, .bool false), (56, undef)] ?_
      refine T_q (some 57) (undef) [(46, vi ra), (54, .bool false), (56, undef), (57, undef)] ?_
      refine T_q (some 58) (undef) [(46, vi ra), (54, .bool false), (56, undef), (58, undef)] ?_
      refine T_q (some 59) (undef) [(46, vi ra), (54, .bool false), (59, undef)] ?_
      refine T_q (some 60) (.bool false) [(46, vi ra), (60, .bool false)] ?_
      refine T_q (some 8) (vi ra) [(8, vi ra), (60, .bool false)] ?_
      refine T_q (some 9) (.bool false) [(8, vi ra), (9, .bool false)] ?_
      refine Q_sub [(8, vi ra), (9, .bool false)] sk ?_
      refine T_qe ?_
      refine S_ret (by kernel_rfl) ?_
      show At _ _ _ _ _ (Q .ret)
      exact S_done (fn := Try.f52) [vi ra, .bool false] hQ (show ResOK _ _ _ [.tmp 8, .tmp 9] _ from .tmp (by kernel_rfl) (.tmp (by kernel_rfl) (.nil))) h
    ·rw [if_neg c14] at h
     have b15 : g = false := eq_false_of_ne_true c14
     refine Q_env [(3, vi kind), (10, vi ra), (12, vp (pa b)), (46, vi ra), (48, .bool false)] (by simp only [b15, Bool.not_true, Bool.not_false]) ?_
     clear b15
     refine T_q (some 49) (undef) [(3, vi kind), (10, vi ra), (12, vp (pa b)), (46, vi ra), (48, .bool false), (49, undef)] ?_
     refine T_q (some 50) (undef) [(3, vi kind), (10, vi ra), (12, vp (pa b)), (46, vi ra), (48, .bool false), (50, undef)] ?_
     refine T_q (some 51) (undef) [(10, vi ra), (12, vp (pa b)), (46, vi ra), (48, .bool false), (50, undef), (51, undef)] ?_
     refine T_q (some 52) (undef) [(10, vi ra), (12, vp (pa b)), (46, vi ra), (48, .bool false), (52, undef)] ?_
     refine T_q (some 53) (.bool false) [(10, vi ra), (12, vp (pa b)), (46, vi ra), (53, .bool false)] ?_
     refine T_q (some 54) (.bool false) [(10, vi ra), (12, vp (pa b)), (46, vi ra), (54, .bool false)] ?_
     refine T_q (some 55) (undef) [(12, vp (pa b)), (46, vi ra), (54, .bool false), (55, undef)] ?_
     refine T_q (some 56) (undef) [(12, vp (pa b)), (46, vi ra), (54, .bool false), (56, undef)] ?_
     refine T_q (some 57) (undef) [(46, vi ra), (54, .bool false), (56, undef), (57, undef)] ?_
     refine T_q (some 58) (undef) [(46, vi ra), (54, .bool false), (56, undef), (58, undef)] ?_
     refine T_q (some 59) (undef) [(46, vi ra), (54, .bool false), (59, undef)] ?_
     refine T_q (some 60) (.bool false) [(46, vi ra), (60, .bool false)] ?_
     refine T_q (some 8) (vi ra) [(8, vi ra), (60, .bool false)] ?_
     refine T_q (some 9) (.bool false) [(8, vi ra), (9, .bool false)] ?_
     refine Q_sub [(8, vi ra), (9, .bool false)] sk ?_
     refine T_qe ?_
     refine S_ret (by kernel_rfl) ?_
     show At _ _ _ _ _ (Q .ret)
     exact S_done (fn := Try.f52) [vi ra, .bool false] hQ (show ResOK _ _ _ [.tmp 8, .tmp 9] _ from .tmp (by kernel_rfl) (.tmp (by kernel_rfl) (.nil))) h
   ·rw [if_neg c5] at h
    have b6 : (n != tag) = true := bne_iff_ne.mpr c5
    refine S_env [(0, vp hv), (3, vi kind), (10, vi ra), (29, .bool true)] (by simp only [b6, Bool.not_true, Bool.not_false]) ?_
    clear b6
    refine T_t 29 kk9 kk10 ?_
    refine T_sr 3 kk11 kk12 ?_
    refine T_ne 2 [(8, vi 0), (9, .bool false)] ?_
    refine S_ret (by kernel_rfl) ?_
    show At _ _ _ _ _ (Q .ret)
    exact S_done (fn := Try.f52) [vi 0, .bool false] hQ (show ResOK _ _ _ [.tmp 8, .tmp 9] _ from .tmp (by kernel_rfl) (.tmp (by kernel_rfl) (.nil))) h
  ·rw [if_neg c3] at h
   have b4 : (!rb) = true := congrArg Bool.not (eq_false_of_ne_true c3)
   have b42 : rb = false := eq_false_of_ne_true c3
   refine N_env [(0, vp hv), (1, vu wv), (2, vi tag), (3, vi kind), (10, vi ra), (24, .bool true)] (by simp only [b4, b42, Bool.not_true, Bool.not_false]) ?_
   clear b4 b42
   refine T_ne 5 [(0, vp hv), (3, vi kind), (10, vi ra), (29, .bool true)] ?_
   refine T_t 29 kk9 kk10 ?_
   refine T_sr 3 kk11 kk12 ?_
   refine T_ne 2 [(8, vi 0), (9, .bool false)] ?_
   refine S_ret (by kernel_rfl) ?_
   show At _ _ _ _ _ (Q .ret)
   exact S_done (fn := Try.f52) [vi 0, .bool false] hQ (show ResOK _ _ _ [.tmp 8, .tmp 9] _ from .tmp (by kernel_rfl) (.tmp (by kernel_rfl) (.nil))) h
end obj_Heap_at

end Go.Proofs.Ytillpfaabdlaiaa
