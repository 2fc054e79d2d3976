/-
 Written by a program of mine (gen.py): for functions of this translation a predicate transformer over heaps (.pt), and the proof that it is sound for the call (.link).
-/
import Derived.Test.YthlohokmnajpoaaGreatDoorFnsC
set_option linter.unusedSimpArgs false
set_option linter.unusedVariables false
set_option maxHeartbeats 1000000
noncomputable section
namespace Go.Proofs.YthlohokmnajpoaaGreatDoor
open Go
/-! moraine/syms.Intern -/
namespace syms_Intern
def kk0 := Func.code Tryz.f40
def kk1 := Code.fa kk0
def kk2 := Code.fb kk0
def kk3 := Code.fa kk2
def kk4 := Code.fb kk2
def kk5 := Code.fa kk3
def kk6 := Code.fa kk5
def kk7 := Code.fb kk5
def kk8 := Code.fa kk7
def kk9 := Code.fb kk7
def kk10 := Code.fa kk8
def kk11 := Code.fb kk8
def kk12 := Code.fa kk9
def kk13 := Code.fb kk9
def kk14 := Code.fa kk13
def kk15 := Code.fb kk13
def kk16 := Code.fa kk14
def kk17 := Code.fb kk14
def kk18 := Code.fa kk4
def kk19 := Code.fb kk4
def kk20 := Code.fa kk18
def kk21 := Code.fb kk18
def kk22 := Code.fa kk21
def kk23 := Code.fb kk21
def kk24 := Code.fa kk23
def kk25 := Code.fb kk23
def kk26 := Code.fa kk24
def kk27 := Code.fb kk24
def kk28 := Code.fa kk19
def kk29 := Code.fb kk19
def kk30 := Code.fa kk28
def kk31 := Code.fb kk28
def kk32 := Code.fa kk31
def kk33 := Code.fb kk31
def kk34 := Code.fa kk32
def kk35 := Code.fb kk32
def kk36 := Code.fa kk29
def kk37 := Code.fb kk29
def kk38 := Code.fa kk37
def kk39 := Code.fb kk37
def kk40 := Code.fa kk38
def kk41 := Code.fb kk38
def kk42 := Code.fa kk41
def kk43 := Code.fb kk41
def kk44 := Code.fa kk39
def kk45 := Code.fb kk39
def kk46 := Code.fa kk45
def kk47 := Code.fb kk45
def kk48 := Code.fa kk46
def kk49 := Code.fb kk46
def kk50 := Code.fa kk49
def kk51 := Code.fb kk49
def kk52 := Code.fa kk47
def kk53 := Code.fb kk47
def kk54 := Code.fa kk42
def kk55 := Code.fb kk42
end syms_Intern
def syms_Intern.pt (hv : Option Addr) (name : ByteArray) (H : Array Obj) (R : Value → Array Obj → Prop) : Prop :=
 if name.toList = (ByteArray.mk #[]).toList then (
 R (.tuple #[.int .u64 0, .int .i64 1]) H)
 else
 unicode_utf8_ValidString.C name H (fun v H1 => ∃ x : Bool, v = .bool x ∧ 
 if x = true then (
 unicode_utf8_RuneCountInString.C name H1 (fun n H2 => ∃ i : Int, n = .int .i64 i ∧ 
 if i > 62 then (
 R (.tuple #[.int .u64 0, .int .i64 6]) H2)
 else
 syms_Find.C hv name H2 (fun o H3 => ∃ ra : Int, ∃ rb : Bool, o = .tuple #[.int .u64 ra, .bool rb] ∧ 
 if rb = true then (
 R (.tuple #[.int .u64 ra, .int .i64 0]) H3)
 else
 onPtr hv (
 R (.tuple #[.int .u64 0, .int .i64 2]) H3) (fun a =>
 obj_Heap_String.C (some a) name H3 (fun m H4 => ∃ g : Int, ∃ f : Int, m = .tuple #[.int .u64 g, .int .i64 f] ∧ 
 if f = 0 then (
 ∀ (b : Nat) (H5 : Array Obj), b = H4.size → H5 = H4.push (.cells #[.int .u64 g] 35) →
 obj_Heap_Make.C (some a) 4 0 (some (Addr.mk b 0 none)) 1 1 H5 (fun l H6 => ∃ e : Int, ∃ d : Int, l = .tuple #[.int .u64 e, .int .i64 d] ∧ 
 if d = 0 then (
 ∃ xB : Option Addr, ∃ xN : Nat, ∃ xC : Nat, hat H6 (a.add 1) = some (.slice xB xN xC) ∧
 ∀ (k : Nat) (H7 : Array Obj), k = H6.size → H7 = H6.push (.cells #[.int .u64 e] 35) →
 appendK 1 35 8 [.int .u64 0] xB xN xC (some (Addr.mk k 0 none)) 1 H7 (fun ap j H8 =>
 (CanPuts H8 (a.add 1) 0 1) ∧ ∀ H9 : Array Obj, H9 = hputs H8 (a.add 1) [.slice ap (xN + 1) j] 0 →
 R (.tuple #[.int .u64 e, .int .i64 d]) H9))
 else
 R (.tuple #[.int .u64 e, .int .i64 d]) H6))
 else
 R (.tuple #[.int .u64 0, .int .i64 f]) H4)))))
 else
 R (.tuple #[.int .u64 0, .int .i64 1]) H1)
namespace syms_Intern
set_option maxRecDepth 100000 in
theorem link {hv : Option Addr} {name : ByteArray} {H : Array Obj} {R : Value → Array Obj → Prop} (h : pt hv name H R) : C hv name H R := by
 refine S_enter (fn := Tryz.f40) (c := kk0) 63 Tryz.func40 (by kernel_rfl) (by kernel_rfl) (Nat.le_of_ble_eq_true (by kernel_rfl)) ?_
 intro w0 Q hQ
 unfold pt at h
 refine T_su [(0, vp hv), (1, .string name)] ?_
 refine T_sr 0 kk1 kk2 ?_
 refine T_ne 2 [(0, vp hv), (1, .string name)] ?_
 refine T_s kk3 kk4 ?_
 refine T_b 0 kk5 ?_
 refine T_sr 1 kk6 kk7 ?_
 refine T_n 3 [(0, vp hv), (1, .string name), (14, .bool (name.toList == (ByteArray.mk #[]).toList))] ?_
 by_cases c1 : name.toList = (ByteArray.mk #[]).toList
 ·rw [if_pos c1] at h
  have b2 : (name.toList == (ByteArray.mk #[]).toList) = true := beq_iff_eq.mpr c1
  refine N_env [(0, vp hv), (1, .string name), (14, .bool true)] (by simp only [b2, Bool.not_true, Bool.not_false]) ?_
  clear b2
  refine T_ne 5 [(0, vp hv), (1, .string name), (11, .bool true)] ?_
  refine T_t 11 kk8 kk9 ?_
  refine T_sr 2 kk10 kk11 ?_
  refine T_ne 2 [(4, vu 0), (5, vi 1)] ?_
  refine S_ret (by kernel_rfl) ?_
  show At _ _ _ _ _ (Q .ret)
  exact S_done (fn := Tryz.f40) [vu 0, vi 1] hQ (show ResOK _ _ _ [.tmp 4, .tmp 5] _ from .tmp (by kernel_rfl) (.tmp (by kernel_rfl) (.nil))) h
 ·rw [if_neg c1] at h
  have b2 : (name.toList == (ByteArray.mk #[]).toList) = false := beq_eq_false_iff_ne.mpr c1
  refine N_env [(0, vp hv), (1, .string name), (14, .bool false)] (by simp only [b2, Bool.not_true, Bool.not_false]) ?_
  clear b2
  refine T_n 1 [(0, vp hv), (1, .string name), (14, .bool false), (15, .string name)] ?_
  refine N_call (some 16) 83 #[.string name] (fun _=>by kernel_rfl) h ?_; clear h
  rintro v H1 ⟨x, rfl, h⟩
  refine ⟨[(0, vp hv), (1, .string name), (14, .bool false), (16, .bool x)], pk, ?_⟩
  refine T_ne 3 [(0, vp hv), (1, .string name), (11, .bool (!x))] ?_
  by_cases c3 : x = true
  ·rw [if_pos c3] at h
   have b4 : (!x) = false := congrArg Bool.not (c3)
   have b42 : x = true := c3
   refine S_env [(0, vp hv), (1, .string name), (11, .bool false)] (by simp only [b4, b42, Bool.not_true, Bool.not_false]) ?_
   clear b4 b42
   refine T_f 11 kk8 kk9 ?_
   refine T_sr 3 kk12 kk13 ?_
   refine T_n 1 [(0, vp hv), (1, .string name), (20, .string name)] ?_
   refine N_call (some 21) 84 #[.string name] (fun _=>by kernel_rfl) h ?_; clear h
   rintro n H2 ⟨i, rfl, h⟩
   refine ⟨[(0, vp hv), (1, .string name), (21, vi i)], pk, ?_⟩
   refine T_ne 2 [(0, vp hv), (1, .string name), (19, .bool (decide (i > 62)))] ?_
   by_cases c5 : i > 62
   ·rw [if_pos c5] at h
    have b6 : (decide (i > 62)) = true := decide_eq_true c5
    refine S_env [(0, vp hv), (1, .string name), (19, .bool true)] (by simp only [b6, Bool.not_true, Bool.not_false]) ?_
    clear b6
    refine T_t 19 kk14 kk15 ?_
    refine T_sr 4 kk16 kk17 ?_
    refine T_ne 2 [(4, vu 0), (5, vi 6)] ?_
    refine S_ret (by kernel_rfl) ?_
    show At _ _ _ _ _ (Q .ret)
    exact S_done (fn := Tryz.f40) [vu 0, vi 6] hQ (show ResOK _ _ _ [.tmp 4, .tmp 5] _ from .tmp (by kernel_rfl) (.tmp (by kernel_rfl) (.nil))) h
   ·rw [if_neg c5] at h
    have b6 : (decide (i > 62)) = false := decide_eq_false c5
    refine S_env [(0, vp hv), (1, .string name), (19, .bool false)] (by simp only [b6, Bool.not_true, Bool.not_false]) ?_
    clear b6
    refine T_f 19 kk14 kk15 ?_
    refine T_k ?_
    refine S_blockEnd ?_
    refine S_then ?_
    refine T_s kk18 kk19 ?_
    refine T_sr 5 kk20 kk21 ?_
    refine T_n 2 [(0, vp hv), (1, .string name), (24, vp hv), (25, .string name)] ?_
    refine N_call (some 26) 85 #[vp hv, .string name] (fun _=>by kernel_rfl) h ?_; clear h
    rintro o H3 ⟨ra, rb, rfl, h⟩
    refine ⟨[(0, vp hv), (1, .string name), (26, .tuple #[vu ra, .bool rb])], pk, ?_⟩
    refine T_ne 5 [(0, vp hv), (1, .string name), (6, vu ra), (7, .bool rb)] ?_
    refine T_sr 6 kk22 kk23 ?_
    refine T_ne 1 [(0, vp hv), (1, .string name), (6, vu ra), (29, .bool rb)] ?_
    by_cases c7 : rb = true
    ·rw [if_pos c7] at h
     have b8 : rb = true := c7
     refine S_env [(0, vp hv), (1, .string name), (6, vu ra), (29, .bool true)] (by simp only [b8, Bool.not_true, Bool.not_false]) ?_
     clear b8
     refine T_t 29 kk24 kk25 ?_
     refine T_sr 7 kk26 kk27 ?_
     refine T_ne 3 [(4, vu ra), (5, vi 0)] ?_
     refine S_ret (by kernel_rfl) ?_
     show At _ _ _ _ _ (Q .ret)
     exact S_done (fn := Tryz.f40) [vu ra, vi 0] hQ (show ResOK _ _ _ [.tmp 4, .tmp 5] _ from .tmp (by kernel_rfl) (.tmp (by kernel_rfl) (.nil))) h
    ·rw [if_neg c7] at h
     have b8 : rb = false := eq_false_of_ne_true c7
     refine S_env [(0, vp hv), (1, .string name), (6, vu ra), (29, .bool false)] (by simp only [b8, Bool.not_true, Bool.not_false]) ?_
     clear b8
     refine T_f 29 kk24 kk25 ?_
     refine T_kt ?_
     refine T_s kk28 kk29 ?_
     refine T_sr 8 kk30 kk31 ?_
     refine T_n 1 [(0, vp hv), (1, .string name), (31, vp hv)] ?_
     rcases hv with _ | a
     ·rw [onPtr_none] at h
      refine T_ne 1 [(0, vp none), (1, .string name), (32, .bool true)] ?_
      refine T_t 32 kk32 kk33 ?_
      refine T_sr 9 kk34 kk35 ?_
      refine T_ne 2 [(4, vu 0), (5, vi 2)] ?_
      refine S_ret (by kernel_rfl) ?_
      show At _ _ _ _ _ (Q .ret)
      exact S_done (fn := Tryz.f40) [vu 0, vi 2] hQ (show ResOK _ _ _ [.tmp 4, .tmp 5] _ from .tmp (by kernel_rfl) (.tmp (by kernel_rfl) (.nil))) h
     ·rw [onPtr_some] at h
      refine T_ne 1 [(0, vp (some a)), (1, .string name), (32, .bool false)] ?_
      refine T_f 32 kk32 kk33 ?_
      refine T_kt ?_
      refine T_sr 10 kk36 kk37 ?_
      refine T_n 2 [(0, vp (some a)), (34, vp (some a)), (35, .string name)] ?_
      refine N_call (some 36) 22 #[vp (some a), .string name] (fun _=>by kernel_rfl) h ?_; clear h
      rintro m H4 ⟨g, f, rfl, h⟩
      refine ⟨[(0, vp (some a)), (36, .tuple #[vu g, vi f])], pk, ?_⟩
      refine T_ne 5 [(0, vp (some a)), (8, vu g), (9, vi f)] ?_
      refine T_s kk38 kk39 ?_
      refine T_sr 11 kk40 kk41 ?_
      refine T_ne 2 [(0, vp (some a)), (8, vu g), (9, vi f), (40, .bool (f != 0))] ?_
      by_cases c9 : f = 0
      ·rw [if_pos c9] at h
       have b10 : (f != 0) = false := bne_eq_false_iff_eq.mpr c9
       refine S_env [(0, vp (some a)), (8, vu g), (9, vi f), (40, .bool false)] (by simp only [b10, Bool.not_true, Bool.not_false]) ?_
       clear b10
       refine T_f 40 kk42 kk43 ?_
       refine T_kt ?_
       refine T_sr 13 kk44 kk45 ?_
       refine T_n 2 [(0, vp (some a)), (43, vp (some a)), (44, vu g)] ?_
       refine N_new (some 45) (fun b => vs (pa b) 1 1) (.cells #[vu g] 35) (fun _=>by kernel_rfl) ?_
       intro b H5 e11 e12
       replace h := h b H5 e11 e12
       refine ⟨[(0, vp (some a)), (43, vp (some a)), (45, vs (pa b) 1 1)], pk, ?_⟩
       refine N_call (some 46) 41 #[vp (some a), vi 4, vu 0, vs (pa b) 1 1] (fun _=>by kernel_rfl) h ?_; clear h
       rintro l H6 ⟨e, d, rfl, h⟩
       refine ⟨[(0, vp (some a)), (46, .tuple #[vu e, vi d])], pk, ?_⟩
       refine T_ne 5 [(0, vp (some a)), (9, vi d), (10, vu e)] ?_
       refine T_s kk46 kk47 ?_
       refine T_sr 14 kk48 kk49 ?_
       refine T_ne 2 [(0, vp (some a)), (9, vi d), (10, vu e), (50, .bool (d == 0))] ?_
       by_cases c13 : d = 0
       ·rw [if_pos c13] at h
        have b14 : (d == 0) = true := beq_iff_eq.mpr c13
        refine S_env [(0, vp (some a)), (9, vi d), (10, vu e), (50, .bool true)] (by simp only [b14, Bool.not_true, Bool.not_false]) ?_
        clear b14
        refine T_t 50 kk50 kk51 ?_
        refine T_r 15 kk50 ?_
        refine T_n 4 [(9, vi d), (10, vu e), (51, vp (some a)), (54, vp (some (a.add 1)))] ?_
        obtain ⟨xB, xN, xC, q15, h⟩ := h
        refine T_l (some 55) 43 q15 [(9, vi d), (10, vu e), (51, vp (some a)), (55, vs xB xN xC)] ?_
        refine T_n 1 [(9, vi d), (10, vu e), (51, vp (some a)), (55, vs xB xN xC), (56, vu e)] ?_
        refine N_new (some 57) (fun b => vs (pa b) 1 1) (.cells #[vu e] 35) (fun _=>by kernel_rfl) ?_
        intro k H7 e16 e17
        replace h := h k H7 e16 e17
        refine ⟨[(9, vi d), (10, vu e), (51, vp (some a)), (55, vs xB xN xC), (57, vs (pa k) 1 1)], pk, ?_⟩
        refine N_op (some 58) (appendN #[43, 43] 43 #[vs xB xN xC, vs (pa k) 1 1]) _ (fun _=>by kernel_rfl) (ss_append (T := 35) (sz := 1) (bytes := 8) (zero := (vu 0 : Value)) Tryz.underlying43 Tryz.underlying43 rfl (show Tryz.prog.info? 35 = some Tryz.t35 from by kernel_rfl) (by kernel_rfl) (by kernel_rfl) (by decide) (by kernel_rfl) (by first | exact h | (simpa only [Value.cells, List.toList_toArray] using h))) ?_; clear h
        rintro _ H8 ⟨ap, j, rfl, h⟩
        refine ⟨[(9, vi d), (10, vu e), (51, vp (some a)), (58, vs ap (xN + 1) j)], pk, ?_⟩
        refine T_n 2 [(9, vi d), (10, vu e), (58, vs ap (xN + 1) j), (60, vp (some (a.add 1)))] ?_
        obtain ⟨q19, h⟩ := h
        refine N_skipop none (storeN 43 (vp (some (a.add 1))) (vs ap (xN + 1) j)) (fun Hz => Hz = hputs H8 (a.add 1) [vs ap (xN + 1) j] 0) (fun _=>by kernel_rfl) (ss_store [vs ap (xN + 1) j] 1 (by kernel_rfl) (by kernel_rfl) (fun _=>by kernel_rfl) (by kernel_rfl) q19) ?_
        intro H9 e18
        replace h := h H9 e18
        refine ⟨[(9, vi d), (10, vu e)], pk, ?_⟩
        refine T_e ?_
        refine T_sr 16 kk52 kk53 ?_
        refine T_ne 4 [(4, vu e), (5, vi d)] ?_
        refine S_ret (by kernel_rfl) ?_
        show At _ _ _ _ _ (Q .ret)
        exact S_done (fn := Tryz.f40) [vu e, vi d] hQ (show ResOK _ _ _ [.tmp 4, .tmp 5] _ from .tmp (by kernel_rfl) (.tmp (by kernel_rfl) (.nil))) h
       ·rw [if_neg c13] at h
        have b14 : (d == 0) = false := beq_eq_false_iff_ne.mpr c13
        refine S_env [(0, vp (some a)), (9, vi d), (10, vu e), (50, .bool false)] (by simp only [b14, Bool.not_true, Bool.not_false]) ?_
        clear b14
        refine T_f 50 kk50 kk51 ?_
        refine T_kt ?_
        refine T_sr 16 kk52 kk53 ?_
        refine T_ne 4 [(4, vu e), (5, vi d)] ?_
        refine S_ret (by kernel_rfl) ?_
        show At _ _ _ _ _ (Q .ret)
        exact S_done (fn := Tryz.f40) [vu e, vi d] hQ (show ResOK _ _ _ [.tmp 4, .tmp 5] _ from .tmp (by kernel_rfl) (.tmp (by kernel_rfl) (.nil))) h
      ·rw [if_neg c9] at h
       have b10 : (f != 0) = true := bne_iff_ne.mpr c9
       refine S_env [(0, vp (some a)), (8, vu g), (9, vi f), (40, .bool true)] (by simp only [b10, Bool.not_true, Bool.not_false]) ?_
       clear b10
       refine T_t 40 kk42 kk43 ?_
       refine T_sr 12 kk54 kk55 ?_
       refine T_ne 3 [(4, vu 0), (5, vi f)] ?_
       refine S_ret (by kernel_rfl) ?_
       show At _ _ _ _ _ (Q .ret)
       exact S_done (fn := Tryz.f40) [vu 0, vi f] hQ (show ResOK _ _ _ [.tmp 4, .tmp 5] _ from .tmp (by kernel_rfl) (.tmp (by kernel_rfl) (.nil))) h
  ·rw [if_neg c3] at h
   have b4 : (!x) = true := congrArg Bool.not (eq_false_of_ne_true c3)
   have b42 : x = false := eq_false_of_ne_true c3
   refine S_env [(0, vp hv), (1, .string name), (11, .bool true)] (by simp only [b4, b42, Bool.not_true, Bool.not_false]) ?_
   clear b4 b42
   refine T_t 11 kk8 kk9 ?_
   refine T_sr 2 kk10 kk11 ?_
   refine T_ne 2 [(4, vu 0), (5, vi 1)] ?_
   refine S_ret (by kernel_rfl) ?_
   show At _ _ _ _ _ (Q .ret)
   exact S_done (fn := Tryz.f40) [vu 0, vi 1] hQ (show ResOK _ _ _ [.tmp 4, .tmp 5] _ from .tmp (by kernel_rfl) (.tmp (by kernel_rfl) (.nil))) h
end syms_Intern

/-! moraine/syms.Name -/
namespace syms_Name
def kk0 := Func.code Tryz.f66
def kk1 := Code.fa kk0
def kk2 := Code.fb kk0
def kk3 := Code.fa kk2
def kk4 := Code.fb kk2
def kk5 := Code.fa kk3
def kk6 := Code.fb kk3
def kk7 := Code.fa kk6
def kk8 := Code.fb kk6
def kk9 := Code.fa kk7
def kk10 := Code.fb kk7
def kk11 := Code.fa kk4
def kk12 := Code.fb kk4
def kk13 := Code.fa kk12
def kk14 := Code.fb kk12
def kk15 := Code.fa kk13
def kk16 := Code.fb kk13
def kk17 := Code.fa kk16
def kk18 := Code.fb kk16
def kk19 := Code.fa kk14
def kk20 := Code.fb kk14
def kk21 := Code.fa kk17
def kk22 := Code.fb kk17
end syms_Name
def syms_Name.pt (hv : Option Addr) (wv : Int) (H : Array Obj) (R : Value → Array Obj → Prop) : Prop :=
 onPtr hv (
 R (.tuple #[.string (ByteArray.mk #[]), .int .i64 3]) H) (fun a =>
 obj_Heap_Get.C (some a) wv 4 0 H (fun v H1 => ∃ ra : Int, ∃ rb : Int, v = .tuple #[.int .u64 ra, .int .i64 rb] ∧ 
 if rb = 0 then (
 obj_Heap_Text.C (some a) ra H1 (fun e H2 => ∃ b : ByteArray, ∃ d : Int, e = .tuple #[.string b, .int .i64 d] ∧ 
 R (.tuple #[.string b, .int .i64 d]) H2))
 else
 R (.tuple #[.string (ByteArray.mk #[]), .int .i64 3]) H1))
namespace syms_Name
set_option maxRecDepth 100000 in
theorem link {hv : Option Addr} {wv : Int} {H : Array Obj} {R : Value → Array Obj → Prop} (h : pt hv wv H R) : C hv wv H R := by
 refine S_enter (fn := Tryz.f66) (c := kk0) 23 Tryz.func66 (by kernel_rfl) (by kernel_rfl) (Nat.le_of_ble_eq_true (by kernel_rfl)) ?_
 intro w0 Q hQ
 unfold pt at h
 refine T_su [(0, vp hv), (1, vu wv)] ?_
 refine T_sr 0 kk1 kk2 ?_
 refine T_ne 2 [(0, vp hv), (1, vu wv)] ?_
 refine T_s kk3 kk4 ?_
 refine T_sr 1 kk5 kk6 ?_
 refine T_n 1 [(0, vp hv), (1, vu wv), (8, vp hv)] ?_
 rcases hv with _ | a
 ·rw [onPtr_none] at h
  refine T_ne 1 [(0, vp none), (1, vu wv), (9, .bool true)] ?_
  refine T_t 9 kk7 kk8 ?_
  refine T_sr 2 kk9 kk10 ?_
  refine T_ne 2 [(4, .string (ByteArray.mk #[])), (5, vi 3)] ?_
  refine S_ret (by kernel_rfl) ?_
  show At _ _ _ _ _ (Q .ret)
  exact S_done (fn := Tryz.f66) [.string (ByteArray.mk #[]), vi 3] hQ (show ResOK _ _ _ [.tmp 4, .tmp 5] _ from .tmp (by kernel_rfl) (.tmp (by kernel_rfl) (.nil))) h
 ·rw [onPtr_some] at h
  refine T_ne 1 [(0, vp (some a)), (1, vu wv), (9, .bool false)] ?_
  refine T_f 9 kk7 kk8 ?_
  refine T_kt ?_
  refine T_sr 3 kk11 kk12 ?_
  refine T_n 2 [(0, vp (some a)), (11, vp (some a)), (12, vu wv)] ?_
  refine N_call (some 13) 116 #[vp (some a), vu wv, vi 4, vi 0] (fun _=>by kernel_rfl) h ?_; clear h
  rintro v H1 ⟨ra, rb, rfl, h⟩
  refine ⟨[(0, vp (some a)), (13, .tuple #[vu ra, vi rb])], pk, ?_⟩
  refine T_ne 5 [(0, vp (some a)), (6, vu ra), (7, vi rb)] ?_
  refine T_s kk13 kk14 ?_
  refine T_sr 4 kk15 kk16 ?_
  refine T_ne 2 [(0, vp (some a)), (6, vu ra), (17, .bool (rb != 0))] ?_
  by_cases c1 : rb = 0
  ·rw [if_pos c1] at h
   have b2 : (rb != 0) = false := bne_eq_false_iff_eq.mpr c1
   refine S_env [(0, vp (some a)), (6, vu ra), (17, .bool false)] (by simp only [b2, Bool.not_true, Bool.not_false]) ?_
   clear b2
   refine T_f 17 kk17 kk18 ?_
   refine T_kt ?_
   refine T_sr 6 kk19 kk20 ?_
   refine T_n 2 [(18, vp (some a)), (19, vu ra)] ?_
   refine N_call (some 20) 50 #[vp (some a), vu ra] (fun _=>by kernel_rfl) h ?_; clear h
   rintro e H2 ⟨b, d, rfl, h⟩
   refine ⟨[(20, .tuple #[.string b, vi d])], pk, ?_⟩
   refine T_ne 4 [(4, .string b), (5, vi d)] ?_
   refine S_ret (by kernel_rfl) ?_
   show At _ _ _ _ _ (Q .ret)
   exact S_done (fn := Tryz.f66) [.string b, vi d] hQ (show ResOK _ _ _ [.tmp 4, .tmp 5] _ from .tmp (by kernel_rfl) (.tmp (by kernel_rfl) (.nil))) h
  ·rw [if_neg c1] at h
   have b2 : (rb != 0) = true := bne_iff_ne.mpr c1
   refine S_env [(0, vp (some a)), (6, vu ra), (17, .bool true)] (by simp only [b2, Bool.not_true, Bool.not_false]) ?_
   clear b2
   refine T_t 17 kk17 kk18 ?_
   refine T_sr 5 kk21 kk22 ?_
   refine T_ne 2 [(4, .string (ByteArray.mk #[])), (5, vi 3)] ?_
   refine S_ret (by kernel_rfl) ?_
   show At _ _ _ _ _ (Q .ret)
   exact S_done (fn := Tryz.f66) [.string (ByteArray.mk #[]), vi 3] hQ (show ResOK _ _ _ [.tmp 4, .tmp 5] _ from .tmp (by kernel_rfl) (.tmp (by kernel_rfl) (.nil))) h
end syms_Name

/-! moraine/syms.Find -/
namespace syms_Find
def kk0 := Func.code Tryz.f85
def kk1 := Code.fa kk0
def kk2 := Code.fb kk0
def kk3 := Code.fa kk2
def kk4 := Code.fb kk2
def kk5 := Code.fa kk3
def kk6 := Code.fb kk3
def kk7 := Code.fa kk6
def kk8 := Code.fb kk6
def kk9 := Code.fa kk7
def kk10 := Code.fb kk7
def kk11 := Code.fa kk4
def kk12 := Code.fb kk4
def kk13 := Code.fa kk11
def kk14 := Code.fb kk11
def kk15 := Code.fa kk14
def kk16 := Code.fa kk15
def kk17 := Code.fb kk15
def kk18 := Code.fa kk16
def kk19 := Code.fb kk16
def kk20 := Code.fa kk17
def kk21 := Code.fa kk20
def kk22 := Code.fb kk20
def kk23 := Code.fa kk22
def kk24 := Code.fb kk22
def kk25 := Code.fa kk23
def kk26 := Code.fb kk23
def kk27 := Code.fa kk12
def kk28 := Code.fb kk12
end syms_Find
def syms_Find.pt (hv : Option Addr) (name : ByteArray) (H : Array Obj) (R : Value → Array Obj → Prop) : Prop :=
 ∀ (b : Nat) (H1 : Array Obj), b = H.size → H1 = H.push (.cells #[.string name] 9) →
 ∀ (a : Nat) (H2 : Array Obj), a = H1.size → H2 = H1.push (.cells #[.int .u64 0] 35) →
 ∀ (d : Nat) (H3 : Array Obj), d = H2.size → H3 = H2.push (.cells #[.bool false] 4) →
 onPtr hv (
 (CanPuts H3 (Addr.mk a 0 none) 0 1) ∧ ∀ H4 : Array Obj, H4 = hputs H3 (Addr.mk a 0 none) [.int .u64 0] 0 →
 (CanPuts H4 (Addr.mk d 0 none) 0 1) ∧ ∀ H5 : Array Obj, H5 = hputs H4 (Addr.mk d 0 none) [.bool false] 0 →
 ∃ r : Int, hat H5 (Addr.mk a 0 none) = some (.int .u64 r) ∧
 ∃ q : Bool, hat H5 (Addr.mk d 0 none) = some (.bool q) ∧
 R (.tuple #[.int .u64 r, .bool q]) H5) (fun n =>
 syms_named.C (some n) H3 (fun v H6 => v = v ∧ 
 ∀ (rc : LoopState → Option Code → Obj) (lp : Nat) (H7 : Array Obj), lp = H6.size + 1 → H7 = (H6.push (.deferred (some []))).push (rc .ready none) →
 ∀ vY : Value, (∀ (e : Int) (x_3 : ByteArray) (H8 : Array Obj) (vRy : Value → Array Obj → Prop), H8[lp]? = some (rc .ready none) →
 ( H8[lp]? = some (rc .ready none) ∧ ∀ H9 : Array Obj, H9 = setBlk H8 lp (rc .busy none) →
 ∃ i : ByteArray, hat H9 (Addr.mk b 0 none) = some (.string i) ∧
 if x_3.toList = i.toList then (
 (CanPuts H9 (Addr.mk a 0 none) 0 1) ∧ ∀ k : Array Obj, k = hputs H9 (Addr.mk a 0 none) [.int .u64 e] 0 →
 (CanPuts k (Addr.mk d 0 none) 0 1) ∧ ∀ m : Array Obj, m = hputs k (Addr.mk d 0 none) [.bool true] 0 →
 m[lp]? = some (rc .busy none) ∧
 vRy (.bool false) (setBlk m lp (rc .done (some .ret))))
 else
 H9[lp]? = some (rc .busy none) ∧
 vRy (.bool true) (setBlk H9 lp (rc .ready none))) →
 FC Tryz.prog vY #[.int .u64 e, .string x_3] H8 vRy) →
 FE Tryz.prog v #[vY] H7 (fun _ l =>
 (l[lp]? = some (rc .ready none) ∧ ∀ f : Array Obj, f = setBlk l lp (rc .exhausted none) →
 (CanPuts f (Addr.mk a 0 none) 0 1) ∧ ∀ j : Array Obj, j = hputs f (Addr.mk a 0 none) [.int .u64 0] 0 →
 (CanPuts j (Addr.mk d 0 none) 0 1) ∧ ∀ p : Array Obj, p = hputs j (Addr.mk d 0 none) [.bool false] 0 →
 Shut (H6.size :: []) p (fun t =>
 ∃ x : Int, hat t (Addr.mk a 0 none) = some (.int .u64 x) ∧
 ∃ o : Bool, hat t (Addr.mk d 0 none) = some (.bool o) ∧
 R (.tuple #[.int .u64 x, .bool o]) t)) ∨
 (l[lp]? = some (rc .done (some .ret)) ∧ ∀ f : Array Obj, f = setBlk l lp (rc .exhausted (some .ret)) →
 Shut (H6.size :: []) f (fun s =>
 ∃ u : Int, hat s (Addr.mk a 0 none) = some (.int .u64 u) ∧
 ∃ y : Bool, hat s (Addr.mk d 0 none) = some (.bool y) ∧
 R (.tuple #[.int .u64 u, .bool y]) s)))))
namespace syms_Find
set_option maxRecDepth 100000 in
theorem link {hv : Option Addr} {name : ByteArray} {H : Array Obj} {R : Value → Array Obj → Prop} (h : pt hv name H R) : C hv name H R := by
 refine S_enter (fn := Tryz.f85) (c := kk0) 18 Tryz.func85 (by kernel_rfl) (by kernel_rfl) (Nat.le_of_ble_eq_true (by kernel_rfl)) ?_
 intro w0 Q hQ
 unfold pt at h
 refine T_su [(0, vp hv), (1, .string name)] ?_
 refine T_sr 0 kk1 kk2 ?_
 refine N_new (some 3) (fun b => vp (pa b)) (.cells #[.string name] 9) (fun _=>by kernel_rfl) ?_
 intro b H1 e1 e2
 replace h := h b H1 e1 e2
 refine ⟨[(0, vp hv), (3, vp (pa b))], pk, ?_⟩
 refine N_new (some 4) (fun b => vp (pa b)) (.cells #[vu 0] 35) (fun _=>by kernel_rfl) ?_
 intro a H2 e3 e4
 replace h := h a H2 e3 e4
 refine ⟨[(0, vp hv), (3, vp (pa b)), (4, vp (pa a))], pk, ?_⟩
 refine N_new (some 5) (fun b => vp (pa b)) (.cells #[.bool false] 4) (fun _=>by kernel_rfl) ?_
 intro d H3 e5 e6
 replace h := h d H3 e5 e6
 refine ⟨[(0, vp hv), (3, vp (pa b)), (4, vp (pa a)), (5, vp (pa d))], pk, ?_⟩
 refine T_e ?_
 refine T_s kk3 kk4 ?_
 refine T_sr 1 kk5 kk6 ?_
 refine T_n 1 [(0, vp hv), (3, vp (pa b)), (4, vp (pa a)), (5, vp (pa d)), (8, vp hv)] ?_
 rcases hv with _ | n
 ·rw [onPtr_none] at h
  refine T_ne 1 [(0, vp none), (3, vp (pa b)), (4, vp (pa a)), (5, vp (pa d)), (9, .bool true)] ?_
  refine T_t 9 kk7 kk8 ?_
  refine T_sr 2 kk9 kk10 ?_
  refine T_nu [(4, vp (pa a)), (5, vp (pa d))] ?_
  obtain ⟨q8, h⟩ := h
  refine N_skipop none (storeN 35 (vp (pa a)) (vu 0)) (fun Hz => Hz = hputs H3 (Addr.mk a 0 none) [vu 0] 0) (fun _=>by kernel_rfl) (ss_store [vu 0] 1 (by kernel_rfl) (by kernel_rfl) (fun _=>by kernel_rfl) (by kernel_rfl) q8) ?_
  intro H4 e7
  replace h := h H4 e7
  refine ⟨[(4, vp (pa a)), (5, vp (pa d))], pk, ?_⟩
  obtain ⟨q10, h⟩ := h
  refine N_skipop none (storeN 4 (vp (pa d)) (.bool false)) (fun Hz => Hz = hputs H4 (Addr.mk d 0 none) [.bool false] 0) (fun _=>by kernel_rfl) (ss_store [.bool false] 1 (by kernel_rfl) (by kernel_rfl) (fun _=>by kernel_rfl) (by kernel_rfl) q10) ?_
  intro H5 e9
  replace h := h H5 e9
  refine ⟨[(4, vp (pa a)), (5, vp (pa d))], pk, ?_⟩
  refine T_e ?_
  refine S_ret (by kernel_rfl) ?_
  show At _ _ _ _ _ (Q .ret)
  obtain ⟨r, q11, h⟩ := h
  obtain ⟨q, q12, h⟩ := h
  exact S_done (fn := Tryz.f85) [vu r, .bool q] hQ (show ResOK _ _ _ [.cell 4 35, .cell 5 4] _ from .cell (by kernel_rfl) (loadOK_one (fun _=>by kernel_rfl) q11) (.cell (by kernel_rfl) (loadOK_one (fun _=>by kernel_rfl) q12) (.nil))) h
 ·rw [onPtr_some] at h
  refine T_ne 1 [(0, vp (some n)), (3, vp (pa b)), (4, vp (pa a)), (5, vp (pa d)), (9, .bool false)] ?_
  refine T_f 9 kk7 kk8 ?_
  refine T_kt ?_
  refine T_s kk11 kk12 ?_
  refine T_sr 3 kk13 kk14 ?_
  refine T_n 1 [(3, vp (pa b)), (4, vp (pa a)), (5, vp (pa d)), (10, vp (some n))] ?_
  refine N_call (some 11) 138 #[vp (some n)] (fun _=>by kernel_rfl) h ?_; clear h
  rintro v H6 ⟨-, h⟩
  refine ⟨[(3, vp (pa b)), (4, vp (pa a)), (5, vp (pa d)), (11, v)], pk, ?_⟩
  refine T_e ?_
  refine T_b 0 kk15 ?_
  refine S_range (g := .tmp 11) (ps := #[12, 13]) (assign := kk16) (body := kk17) (v) (by kernel_rfl) (by kernel_rfl) (by kernel_rfl) ?_
  intro rc lp H7 r13 e14 e15 y16
  refine FE.mono (h rc lp H7 e14 e15 (.func (.yield lp) #[] #[]) ?_) ?_
  ·clear h
   intro e x_3 H8 vRy q17 h
   refine y16 #[vu e, .string x_3] H8 vRy (by kernel_rfl) q17 (fun w1x => ?_)
   refine T_su [(3, vp (pa b)), (4, vp (pa a)), (5, vp (pa d)), (11, v), (12, vu e), (13, .string x_3)] ?_
   refine T_sr 4 kk18 kk19 ?_
   refine T_ne 1 [(3, vp (pa b)), (4, vp (pa a)), (5, vp (pa d)), (6, vu e), (13, .string x_3)] ?_
   refine T_r 5 kk19 ?_
   refine T_n 1 [(3, vp (pa b)), (4, vp (pa a)), (5, vp (pa d)), (6, vu e), (7, .string x_3)] ?_
   refine N_end (by kernel_rfl) ?_
   obtain ⟨q19, h⟩ := h
   refine S_then ?_
   refine S_begin r13 q19 ?_
   intro H9 e18
   replace h := h H9 e18
   refine T_b 1 kk20 ?_
   refine T_sr 6 kk21 kk22 ?_
   refine T_n 1 [(3, vp (pa b)), (4, vp (pa a)), (5, vp (pa d)), (6, vu e), (14, .string x_3)] ?_
   obtain ⟨i, q20, h⟩ := h
   refine T_l (some 15) 9 q20 [(4, vp (pa a)), (5, vp (pa d)), (6, vu e), (14, .string x_3), (15, .string i)] ?_
   refine T_ne 1 [(4, vp (pa a)), (5, vp (pa d)), (6, vu e), (16, .bool (x_3.toList == i.toList))] ?_
   by_cases c21 : x_3.toList = i.toList
   ·rw [if_pos c21] at h
    have b22 : (x_3.toList == i.toList) = true := beq_iff_eq.mpr c21
    refine S_env [(4, vp (pa a)), (5, vp (pa d)), (6, vu e), (16, .bool true)] (by simp only [b22, Bool.not_true, Bool.not_false]) ?_
    clear b22
    refine T_t 16 kk23 kk24 ?_
    refine T_sr 7 kk25 kk26 ?_
    refine T_n 1 [(4, vp (pa a)), (5, vp (pa d)), (17, vu e)] ?_
    obtain ⟨q24, h⟩ := h
    refine N_skipop none (storeN 35 (vp (pa a)) (vu e)) (fun Hz => Hz = hputs H9 (Addr.mk a 0 none) [vu e] 0) (fun _=>by kernel_rfl) (ss_store [vu e] 1 (by kernel_rfl) (by kernel_rfl) (fun _=>by kernel_rfl) (by kernel_rfl) q24) ?_
    intro k e23
    replace h := h k e23
    refine ⟨[(5, vp (pa d))], pk, ?_⟩
    obtain ⟨q26, h⟩ := h
    refine N_skipop none (storeN 4 (vp (pa d)) (.bool true)) (fun Hz => Hz = hputs k (Addr.mk d 0 none) [.bool true] 0) (fun _=>by kernel_rfl) (ss_store [.bool true] 1 (by kernel_rfl) (by kernel_rfl) (fun _=>by kernel_rfl) (by kernel_rfl) q26) ?_
    intro m e25
    replace h := h m e25
    refine ⟨[], pk, ?_⟩
    refine T_e ?_
    refine S_ret (by kernel_rfl) ?_
    show At _ _ _ _ _ (roundPost _ _ _ .ret)
    obtain ⟨q27, h⟩ := h
    exact S_rret r13 q27 h
   ·rw [if_neg c21] at h
    have b22 : (x_3.toList == i.toList) = false := beq_eq_false_iff_ne.mpr c21
    refine S_env [(4, vp (pa a)), (5, vp (pa d)), (6, vu e), (16, .bool false)] (by simp only [b22, Bool.not_true, Bool.not_false]) ?_
    clear b22
    refine T_f 16 kk23 kk24 ?_
    refine T_k ?_
    refine S_blockEnd ?_
    obtain ⟨q28, h⟩ := h
    exact S_rnormal r13 q28 h
  ·clear h y16
   rintro _ l (⟨q29, h⟩ | ⟨q29, h⟩)
   ·refine .inl ⟨q29, fun f e38 => ?_⟩
    replace h := h f e38
    refine S_marks (H6.size :: []) rfl ?_
    refine T_su [(4, vp (pa a)), (5, vp (pa d))] ?_
    refine S_blockEnd ?_
    refine S_then ?_
    refine T_sr 8 kk27 kk28 ?_
    obtain ⟨q31, h⟩ := h
    refine N_skipop none (storeN 35 (vp (pa a)) (vu 0)) (fun Hz => Hz = hputs f (Addr.mk a 0 none) [vu 0] 0) (fun _=>by kernel_rfl) (ss_store [vu 0] 1 (by kernel_rfl) (by kernel_rfl) (fun _=>by kernel_rfl) (by kernel_rfl) q31) ?_
    intro j e30
    replace h := h j e30
    refine ⟨[(4, vp (pa a)), (5, vp (pa d))], pk, ?_⟩
    obtain ⟨q33, h⟩ := h
    refine N_skipop none (storeN 4 (vp (pa d)) (.bool false)) (fun Hz => Hz = hputs j (Addr.mk d 0 none) [.bool false] 0) (fun _=>by kernel_rfl) (ss_store [.bool false] 1 (by kernel_rfl) (by kernel_rfl) (fun _=>by kernel_rfl) (by kernel_rfl) q33) ?_
    intro p e32
    replace h := h p e32
    refine ⟨[(4, vp (pa a)), (5, vp (pa d))], pk, ?_⟩
    refine T_e ?_
    refine S_ret (by kernel_rfl) ?_
    show At _ _ _ _ _ (Q .ret)
    refine S_doneM (fn := Tryz.f85) (H6.size :: []) hQ (Shut.mono (fun t h => ?_) h)
    obtain ⟨x, q34, h⟩ := h
    obtain ⟨o, q35, h⟩ := h
    exact ⟨[vu x, .bool o], (show ResOK _ _ _ [.cell 4 35, .cell 5 4] _ from .cell (by kernel_rfl) (loadOK_one (fun _=>by kernel_rfl) q34) (.cell (by kernel_rfl) (loadOK_one (fun _=>by kernel_rfl) q35) (.nil))), h⟩
   ·refine .inr ⟨_, q29, fun f e38 => ?_⟩
    replace h := h f e38
    refine S_marks (H6.size :: []) rfl ?_
    refine T_su [(4, vp (pa a)), (5, vp (pa d))] ?_
    refine S_ret rfl ?_
    show At _ _ _ _ _ (Q .ret)
    refine S_doneM (fn := Tryz.f85) (H6.size :: []) hQ (Shut.mono (fun s h => ?_) h)
    obtain ⟨u, q36, h⟩ := h
    obtain ⟨y, q37, h⟩ := h
    exact ⟨[vu u, .bool y], (show ResOK _ _ _ [.cell 4 35, .cell 5 4] _ from .cell (by kernel_rfl) (loadOK_one (fun _=>by kernel_rfl) q36) (.cell (by kernel_rfl) (loadOK_one (fun _=>by kernel_rfl) q37) (.nil))), h⟩
end syms_Find

/-! moraine/syms.named -/
namespace syms_named
def kk0 := Func.code Tryz.f138
def kk1 := Code.fa kk0
def kk2 := Code.fb kk0
def kk3 := Code.fa kk2
def kk4 := Code.fb kk2
end syms_named
def syms_named.pt (hv : Option Addr) (H : Array Obj) (R : Value → Array Obj → Prop) : Prop :=
 ∀ (b : Nat) (H1 : Array Obj), b = H.size → H1 = H.push (.cells #[.pointer hv] 30) →
 R (.func (.func 171) #[] #[.pointer (some (Addr.mk b 0 none))]) H1
namespace syms_named
set_option maxRecDepth 100000 in
theorem link {hv : Option Addr} {H : Array Obj} {R : Value → Array Obj → Prop} (h : pt hv H R) : C hv H R := by
 refine S_enter (fn := Tryz.f138) (c := kk0) 4 Tryz.func138 (by kernel_rfl) (by kernel_rfl) (Nat.le_of_ble_eq_true (by kernel_rfl)) ?_
 intro w0 Q hQ
 unfold pt at h
 refine T_su [(0, vp hv)] ?_
 refine T_sr 0 kk1 kk2 ?_
 refine N_new (some 1) (fun b => vp (pa b)) (.cells #[vp hv] 30) (fun _=>by kernel_rfl) ?_
 intro b H1 e1 e2
 replace h := h b H1 e1 e2
 refine ⟨[(1, vp (pa b))], pk, ?_⟩
 refine T_ne 1 [(1, vp (pa b))] ?_
 refine T_sr 1 kk3 kk4 ?_
 refine T_ne 2 [(2, .func (.func 171) #[] #[vp (pa b)])] ?_
 refine S_ret (by kernel_rfl) ?_
 show At _ _ _ _ _ (Q .ret)
 exact S_done (fn := Tryz.f138) [.func (.func 171) #[] #[vp (pa b)]] hQ (show ResOK _ _ _ [.tmp 2] _ from .tmp (by kernel_rfl) (.nil)) h
end syms_named

/-! moraine/syms.named.1 -/
namespace syms_named_1
def kk0 := Func.code Tryz.f171
def kk1 := Code.fa kk0
def kk2 := Code.fb kk0
def kk3 := Code.fa kk2
def kk4 := Code.fa kk3
def kk5 := Code.fa kk4
def kk6 := Code.fb kk4
def kk7 := Code.fa kk6
def kk8 := Code.fb kk6
def kk9 := Code.fa kk7
def kk10 := Code.fb kk7
def kk11 := Code.fa kk8
def kk12 := Code.fb kk8
def kk13 := Code.fa kk11
def kk14 := Code.fa kk13
def kk15 := Code.fb kk13
def kk16 := Code.fa kk15
def kk17 := Code.fb kk15
def kk18 := Code.fa kk17
def kk19 := Code.fb kk17
def kk20 := Code.fa kk19
def kk21 := Code.fb kk19
end syms_named_1
def syms_named_1.pt (yield : Value) (cap0 : Option Addr) (H : Array Obj) (R : Value → Array Obj → Prop) : Prop :=
 ∃ b : Addr, cap0 = some b ∧
 ∃ x : Option Addr, hat H b = some (.pointer x) ∧
 ∃ xA : Addr, x = some xA ∧
 ∃ xB : Option Addr, ∃ xN : Nat, ∃ xC : Nat, hat H (xA.add 1) = some (.slice xB xN xC) ∧
 ∃ (I5 : Int → Array Obj → Prop) (m5 : Int → Array Obj → Nat), I5 0 H ∧ ∀ (d : Int) (H1 : Array Obj), I5 d H1 →
 if d < (xN : Int) then (
 ∃ e : Addr, xB = some e ∧
 ((0 : Int) ≤ d ∧ d < (xN : Int)) ∧
 ∃ f : Int, hat H1 (e.add (Int.toNat d * 1)) = some (.int .u64 f) ∧
 ∃ j : Option Addr, hat H1 b = some (.pointer j) ∧
 syms_Name.C j f H1 (fun v H2 => ∃ ra : ByteArray, ∃ rb : Int, v = .tuple #[.string ra, .int .i64 rb] ∧ 
 if rb = 0 then (
 FC Tryz.prog yield #[.int .u64 f, .string ra] H2 (fun l H3 => ∃ g : Bool, l = .bool g ∧ 
 if g = true then (
 (I5 (IntKind.wrap .i64 (d + 1)) H3 ∧ m5 (IntKind.wrap .i64 (d + 1)) H3 < m5 d H1))
 else
 R (.tuple #[]) H3))
 else
 (I5 (IntKind.wrap .i64 (d + 1)) H2 ∧ m5 (IntKind.wrap .i64 (d + 1)) H2 < m5 d H1)))
 else
 R (.tuple #[]) H1
namespace syms_named_1
set_option maxRecDepth 100000 in
theorem link {yield : Value} {cap0 : Option Addr} {H : Array Obj} {R : Value → Array Obj → Prop} (h : pt yield cap0 H R) : C yield cap0 H R := by
 refine S_enter (fn := Tryz.f171) (c := kk0) 32 Tryz.func171 (by kernel_rfl) (by kernel_rfl) (Nat.le_of_ble_eq_true (by kernel_rfl)) ?_
 intro w0 Q hQ
 unfold pt at h
 refine T_su [(0, yield), (1, vp cap0)] ?_
 refine T_sr 0 kk1 kk2 ?_
 obtain ⟨b, rfl, h⟩ := h
 obtain ⟨x, q1, h⟩ := h
 refine T_l (some 7) 30 q1 [(0, yield), (1, vp (some b)), (7, vp x)] ?_
 obtain ⟨xA, rfl, h⟩ := h
 refine T_n 2 [(0, yield), (1, vp (some b)), (9, vp (some (xA.add 1)))] ?_
 obtain ⟨xB, xN, xC, q2, h⟩ := h
 refine T_l (some 10) 43 q2 [(0, yield), (1, vp (some b)), (10, vs xB xN xC)] ?_
 refine T_ne 2 [(0, yield), (1, vp (some b)), (10, vs xB xN xC), (11, vi xN), (12, vi 0)] ?_
 refine T_b 0 kk3 ?_
 obtain ⟨I5, m5, i3, i4⟩ := h
 refine S_loop (x := kk4) (σ := Int) (fun s_ => [(0, yield), (1, vp (some b)), (10, vs xB xN xC), (11, vi xN), (12, vi s_)]) (fun s_ H => I5 s_ H) (fun s_ H => m5 s_ H) (0 : Int) (by kernel_rfl) i3 sk ?_
 rintro d H1 i5
 have h := i4 d H1 i5
 refine T_su [(0, yield), (1, vp (some b)), (10, vs xB xN xC), (11, vi xN), (12, vi d)] ?_
 refine T_sr 1 kk5 kk6 ?_
 refine T_ne 1 [(0, yield), (1, vp (some b)), (10, vs xB xN xC), (11, vi xN), (12, vi d), (13, .bool (decide (d < (xN : Int))))] ?_
 refine T_s kk7 kk8 ?_
 by_cases c6 : d < (xN : Int)
 ·rw [if_pos c6] at h
  have b7 : (decide (d < (xN : Int))) = true := decide_eq_true c6
  refine S_env [(0, yield), (1, vp (some b)), (10, vs xB xN xC), (11, vi xN), (12, vi d), (13, .bool true)] (by simp only [b7, Bool.not_true, Bool.not_false]) ?_
  clear b7
  refine T_t 13 kk9 kk10 ?_
  refine T_kt ?_
  refine T_s kk11 kk12 ?_
  refine T_b 1 kk13 ?_
  refine T_sr 2 kk14 kk15 ?_
  refine T_nu [(0, yield), (1, vp (some b)), (10, vs xB xN xC), (11, vi xN), (12, vi d)] ?_
  obtain ⟨e, rfl, h⟩ := h
  obtain ⟨q8, h⟩ := h
  refine T_ix (some 14) 43 35 1 e xN xC .i64 d Tryz.underlying43 q8.1 q8.2 [(0, yield), (1, vp (some b)), (10, vs (some e) xN xC), (11, vi xN), (12, vi d), (14, vp (some (e.add (Int.toNat d * 1))))] ?_
  obtain ⟨f, q9, h⟩ := h
  refine T_l (some 15) 35 q9 [(0, yield), (1, vp (some b)), (10, vs (some e) xN xC), (11, vi xN), (12, vi d), (15, vu f)] ?_
  refine T_ne 1 [(0, yield), (1, vp (some b)), (4, vu f), (10, vs (some e) xN xC), (11, vi xN), (12, vi d)] ?_
  refine T_sr 3 kk16 kk17 ?_
  obtain ⟨j, q10, h⟩ := h
  refine T_l (some 17) 30 q10 [(0, yield), (1, vp (some b)), (4, vu f), (10, vs (some e) xN xC), (11, vi xN), (12, vi d), (17, vp j)] ?_
  refine T_n 1 [(0, yield), (1, vp (some b)), (4, vu f), (10, vs (some e) xN xC), (11, vi xN), (12, vi d), (17, vp j), (18, vu f)] ?_
  refine N_call (some 19) 66 #[vp j, vu f] (fun _=>by kernel_rfl) h ?_; clear h
  rintro v H2 ⟨ra, rb, rfl, h⟩
  refine ⟨[(0, yield), (1, vp (some b)), (4, vu f), (10, vs (some e) xN xC), (11, vi xN), (12, vi d), (19, .tuple #[.string ra, vi rb])], pk, ?_⟩
  refine T_ne 5 [(0, yield), (1, vp (some b)), (4, vu f), (5, .string ra), (6, vi rb), (10, vs (some e) xN xC), (11, vi xN), (12, vi d)] ?_
  refine T_sr 4 kk18 kk19 ?_
  refine T_n 3 [(0, yield), (1, vp (some b)), (4, vu f), (5, .string ra), (10, vs (some e) xN xC), (11, vi xN), (12, vi d), (24, .bool (rb == 0))] ?_
  by_cases c11 : rb = 0
  ·rw [if_pos c11] at h
   have b12 : (rb == 0) = true := beq_iff_eq.mpr c11
   refine N_env [(0, yield), (1, vp (some b)), (4, vu f), (5, .string ra), (10, vs (some e) xN xC), (11, vi xN), (12, vi d), (24, .bool true)] (by simp only [b12, Bool.not_true, Bool.not_false]) ?_
   clear b12
   refine T_n 3 [(0, yield), (1, vp (some b)), (10, vs (some e) xN xC), (11, vi xN), (12, vi d), (24, .bool true), (25, yield), (26, vu f), (27, .string ra)] ?_
   refine N_callv (some 28) yield #[vu f, .string ra] (fun _=>by kernel_rfl) h ?_; clear h
   rintro l H3 ⟨g, rfl, h⟩
   refine ⟨[(0, yield), (1, vp (some b)), (10, vs (some e) xN xC), (11, vi xN), (12, vi d), (24, .bool true), (28, .bool g)], pk, ?_⟩
   refine T_ne 2 [(0, yield), (1, vp (some b)), (10, vs (some e) xN xC), (11, vi xN), (12, vi d), (30, .bool (!g))] ?_
   by_cases c13 : g = true
   ·rw [if_pos c13] at h
    have b14 : (!g) = false := congrArg Bool.not (c13)
    have b142 : g = true := c13
    refine S_env [(0, yield), (1, vp (some b)), (10, vs (some e) xN xC), (11, vi xN), (12, vi d), (30, .bool false)] (by simp only [b14, b142, Bool.not_true, Bool.not_false]) ?_
    clear b14 b142
    refine T_f 30 kk20 kk21 ?_
    refine T_k ?_
    refine S_blockEnd ?_
    refine S_then ?_
    refine T_r 5 kk12 ?_
    refine T_ne 2 [(0, yield), (1, vp (some b)), (10, vs (some e) xN xC), (11, vi xN), (12, vi (IntKind.wrap .i64 (d + 1)))] ?_
    exact S_round ((IntKind.wrap .i64 (d + 1)) : Int) sk h
   ·rw [if_neg c13] at h
    have b14 : (!g) = true := congrArg Bool.not (eq_false_of_ne_true c13)
    have b142 : g = false := eq_false_of_ne_true c13
    refine S_env [(0, yield), (1, vp (some b)), (10, vs (some e) xN xC), (11, vi xN), (12, vi d), (30, .bool true)] (by simp only [b14, b142, Bool.not_true, Bool.not_false]) ?_
    clear b14 b142
    refine T_t 30 kk20 kk21 ?_
    exact T_ret [] [] hQ h
  ·rw [if_neg c11] at h
   have b12 : (rb == 0) = false := beq_eq_false_iff_ne.mpr c11
   refine N_env [(0, yield), (1, vp (some b)), (4, vu f), (5, .string ra), (10, vs (some e) xN xC), (11, vi xN), (12, vi d), (24, .bool false)] (by simp only [b12, Bool.not_true, Bool.not_false]) ?_
   clear b12
   refine T_ne 6 [(0, yield), (1, vp (some b)), (10, vs (some e) xN xC), (11, vi xN), (12, vi d), (30, .bool false)] ?_
   refine T_f 30 kk20 kk21 ?_
   refine T_k ?_
   refine S_blockEnd ?_
   refine S_then ?_
   refine T_r 5 kk12 ?_
   refine T_ne 2 [(0, yield), (1, vp (some b)), (10, vs (some e) xN xC), (11, vi xN), (12, vi (IntKind.wrap .i64 (d + 1)))] ?_
   exact S_round ((IntKind.wrap .i64 (d + 1)) : Int) sk h
 ·rw [if_neg c6] at h
  have b7 : (decide (d < (xN : Int))) = false := decide_eq_false c6
  refine S_env [(0, yield), (1, vp (some b)), (10, vs xB xN xC), (11, vi xN), (12, vi d), (13, .bool false)] (by simp only [b7, Bool.not_true, Bool.not_false]) ?_
  clear b7
  refine T_f 13 kk9 kk10 ?_
  refine S_exit 0 (by kernel_rfl) ?_
  refine S_exitThen ?_
  refine S_exitThen ?_
  refine S_exitHere ?_
  exact S_doneN (fn := Tryz.f171) [] hQ (show ResOK _ _ _ [] _ from .nil) h
end syms_named_1

end Go.Proofs.YthlohokmnajpoaaGreatDoor
