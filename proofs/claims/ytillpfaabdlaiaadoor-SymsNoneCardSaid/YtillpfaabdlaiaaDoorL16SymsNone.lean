/-
 Written by a program of mine (gen.py): for functions of this translation a predicate transformer over heaps (.pt), and the proof that it is sound for the call (.link).
-/
import Derived.Test.YtillpfaabdlaiaaDoorFnsC
set_option linter.unusedSimpArgs false
set_option linter.unusedVariables false
set_option maxHeartbeats 1000000
noncomputable section
namespace Go.Proofs.YtillpfaabdlaiaaDoor
open Go
/-! moraine/morainelaw16.SymsNone -/
namespace morainelaw16_SymsNone
def kk0 := Func.code Tryd.f3
def kk1 := Code.fa kk0
def kk2 := Code.fb kk0
def kk3 := Code.fa kk2
def kk4 := Code.fb kk2
def kk5 := Code.fa kk4
def kk6 := Code.fb kk4
def kk7 := Code.fa kk5
def kk8 := Code.fb kk5
def kk9 := Code.fa kk8
def kk10 := Code.fb kk8
def kk11 := Code.fa kk9
def kk12 := Code.fb kk9
def kk13 := Code.fa kk6
def kk14 := Code.fb kk6
def kk15 := Code.fa kk14
def kk16 := Code.fb kk14
def kk17 := Code.fa kk16
def kk18 := Code.fb kk16
def kk19 := Code.fa kk18
def kk20 := Code.fb kk18
def kk21 := Code.fa kk20
def kk22 := Code.fb kk20
def kk23 := Code.fa kk22
def kk24 := Code.fb kk22
def kk25 := Code.fa kk23
def kk26 := Code.fb kk23
def kk27 := Code.fa kk26
def kk28 := Code.fa kk27
def kk29 := Code.fb kk27
def kk30 := Code.fa kk29
def kk31 := Code.fb kk29
def kk32 := Code.fa kk24
def kk33 := Code.fb kk24
def kk34 := Code.fa kk31
def kk35 := Code.fb kk31
def kk36 := Code.fa kk35
def kk37 := Code.fb kk35
end morainelaw16_SymsNone
def morainelaw16_SymsNone.pt (wv : Int) (name : ByteArray) (H : Array Obj) (R : Value → Array Obj → Prop) : Prop :=
 obj_New.C 8 H (fun v H1 => ∃ ra : Option Addr, ∃ rb : Int, v = .tuple #[.pointer ra, .int .i64 rb] ∧ 
 if ((rb != 0) || (decide ((name.size : Int) > 500))) = true then (
 ∃ J : Bool → Array Obj → Prop, (
 if rb = 0 then (
 morainelaw16_awake.C  H1 (fun s H3 => ∃ x : Bool, s = .bool x ∧ 
 J x H3))
 else
 J false H1) ∧ ∀ (s4 : Bool) (H2 : Array Obj), J s4 H2 →
 R (.bool s4) H2)
 else
 syms_Name.C ra wv H1 (fun r H4 => ∃ i : ByteArray, ∃ g : Int, r = .tuple #[.string i, .int .i64 g] ∧ 
 syms_Name.C none wv H4 (fun u H5 => ∃ f : ByteArray, ∃ e : Int, u = .tuple #[.string f, .int .i64 e] ∧ 
 syms_Find.C none name H5 (fun aa H6 => ∃ o : Int, ∃ d : Bool, aa = .tuple #[.int .u64 o, .bool d] ∧ 
 syms_Intern.C none name H6 (fun q H7 => ∃ b : Int, ∃ a : Int, q = .tuple #[.int .u64 b, .int .i64 a] ∧ 
 morainelaw16_good.C name H7 (fun ac H8 => ∃ j : Int, ac = .int .i64 j ∧ 
 if j = 1 then (
 if i.toList = (ByteArray.mk #[]).toList then (
 if g = 3 then (
 if f.toList = (ByteArray.mk #[]).toList then (
 if e = 3 then (
 if d = true then (
 R (.bool false) H8)
 else
 if b = 0 then (
 if a = 6 then (
 morainelaw16_awake.C  H8 (fun t H9 => ∃ l : Bool, t = .bool l ∧ 
 R (.bool l) H9))
 else
 R (.bool false) H8)
 else
 R (.bool false) H8)
 else
 R (.bool false) H8)
 else
 R (.bool false) H8)
 else
 R (.bool false) H8)
 else
 R (.bool false) H8)
 else
 if j = 2 then (
 if i.toList = (ByteArray.mk #[]).toList then (
 if g = 3 then (
 if f.toList = (ByteArray.mk #[]).toList then (
 if e = 3 then (
 if d = true then (
 R (.bool false) H8)
 else
 if b = 0 then (
 if a = 1 then (
 morainelaw16_awake.C  H8 (fun y ab => ∃ m : Bool, y = .bool m ∧ 
 R (.bool m) ab))
 else
 R (.bool false) H8)
 else
 R (.bool false) H8)
 else
 R (.bool false) H8)
 else
 R (.bool false) H8)
 else
 R (.bool false) H8)
 else
 R (.bool false) H8)
 else
 if i.toList = (ByteArray.mk #[]).toList then (
 if g = 3 then (
 if f.toList = (ByteArray.mk #[]).toList then (
 if e = 3 then (
 if d = true then (
 R (.bool false) H8)
 else
 if b = 0 then (
 if a = 2 then (
 morainelaw16_awake.C  H8 (fun p z => ∃ k : Bool, p = .bool k ∧ 
 R (.bool k) z))
 else
 R (.bool false) H8)
 else
 R (.bool false) H8)
 else
 R (.bool false) H8)
 else
 R (.bool false) H8)
 else
 R (.bool false) H8)
 else
 R (.bool false) H8))))))
namespace morainelaw16_SymsNone
set_option maxRecDepth 100000 in
theorem link {wv : Int} {name : ByteArray} {H : Array Obj} {R : Value → Array Obj → Prop} (h : pt wv name H R) : C wv name H R := by
 refine S_enter (fn := Tryd.f3) (c := kk0) 89 Tryd.func3 (by kernel_rfl) (by kernel_rfl) (Nat.le_of_ble_eq_true (by kernel_rfl)) ?_
 intro w0 Q hQ
 unfold pt at h
 refine T_su [(0, vu wv), (1, .string name)] ?_
 refine T_sr 0 kk1 kk2 ?_
 refine T_ne 1 [(0, vu wv), (1, .string name)] ?_
 refine T_sr 1 kk3 kk4 ?_
 refine N_call (some 17) 4 #[vi 8] (fun _=>by kernel_rfl) h ?_; clear h
 rintro v H1 ⟨ra, rb, rfl, h⟩
 refine ⟨[(0, vu wv), (1, .string name), (17, .tuple #[vp ra, vi rb])], pk, ?_⟩
 refine T_ne 5 [(0, vu wv), (1, .string name), (5, vp ra), (6, vi rb)] ?_
 refine T_s kk5 kk6 ?_
 refine T_sr 2 kk7 kk8 ?_
 refine N_cut [(0, vu wv), (1, .string name), (5, vp ra), (6, vi rb), (26, .bool ((rb != 0) || (decide ((name.size : Int) > 500))))] ?_ ?_
 ·refine S_then ?_
  by_cases c3 : ((rb != 0) || (decide ((name.size : Int) > 500))) = true
  ·rw [if_pos c3] at h
   have b4 : ((rb != 0) || (decide ((name.size : Int) > 500))) = true := c3
   refine S_env [(0, vu wv), (1, .string name), (5, vp ra), (6, vi rb), (26, .bool true)] (by simp only [b4, Bool.not_true, Bool.not_false]) ?_
   clear b4
   refine T_t 26 kk9 kk10 ?_
   refine T_s kk11 kk12 ?_
   obtain ⟨J, h, j6⟩ := h
   refine S_join (σ := Bool) (fun s_ => [(4, .bool s_)]) (fun s_ H => J s_ H) ?_ ?_
   ·rintro s4 H2 j7
    replace h := j6 s4 H2 j7
    refine T_su [(4, .bool s4)] ?_
    refine S_then ?_
    refine S_ret (by kernel_rfl) ?_
    show At _ _ _ _ _ (Q .ret)
    exact S_done (fn := Tryd.f3) [.bool s4] hQ (show ResOK _ _ _ [.tmp 4] _ from .tmp (by kernel_rfl) (.nil)) h
   ·refine T_r 3 kk11 ?_
    refine T_n 3 [(29, .bool (rb == 0))] ?_
    by_cases c8 : rb = 0
    ·rw [if_pos c8] at h
     have b9 : (rb == 0) = true := beq_iff_eq.mpr c8
     refine N_env [(29, .bool true)] (by simp only [b9, Bool.not_true, Bool.not_false]) ?_
     clear b9
     refine N_call (some 30) 5 #[] (fun _=>by kernel_rfl) h ?_; clear h
     rintro s H3 ⟨x, rfl, h⟩
     refine ⟨[(29, .bool true), (30, .bool x)], pk, ?_⟩
     refine T_ne 2 [(4, .bool x)] ?_
     exact S_meet (x : Bool) sk h
    ·rw [if_neg c8] at h
     have b9 : (rb == 0) = false := beq_eq_false_iff_ne.mpr c8
     refine N_env [(29, .bool false)] (by simp only [b9, Bool.not_true, Bool.not_false]) ?_
     clear b9
     refine T_ne 3 [(4, .bool false)] ?_
     exact S_meet (false : Bool) sk h
  ·rw [if_neg c3] at h
   have b4 : ((rb != 0) || (decide ((name.size : Int) > 500))) = false := eq_false_of_ne_true c3
   refine S_env [(0, vu wv), (1, .string name), (5, vp ra), (6, vi rb), (26, .bool false)] (by simp only [b4, Bool.not_true, Bool.not_false]) ?_
   clear b4
   refine T_f 26 kk9 kk10 ?_
   refine T_kt ?_
   refine T_sr 4 kk13 kk14 ?_
   refine T_n 2 [(0, vu wv), (1, .string name), (33, vp ra), (34, vu wv)] ?_
   refine N_call (some 35) 6 #[vp ra, vu wv] (fun _=>by kernel_rfl) h ?_; clear h
   rintro r H4 ⟨i, g, rfl, h⟩
   refine ⟨[(0, vu wv), (1, .string name), (35, .tuple #[.string i, vi g])], pk, ?_⟩
   refine T_ne 5 [(0, vu wv), (1, .string name), (7, .string i), (8, vi g)] ?_
   refine T_sr 5 kk15 kk16 ?_
   refine T_n 1 [(1, .string name), (7, .string i), (8, vi g), (39, vu wv)] ?_
   refine N_call (some 40) 6 #[vp none, vu wv] (fun _=>by kernel_rfl) h ?_; clear h
   rintro u H5 ⟨f, e, rfl, h⟩
   refine ⟨[(1, .string name), (7, .string i), (8, vi g), (40, .tuple #[.string f, vi e])], pk, ?_⟩
   refine T_ne 5 [(1, .string name), (7, .string i), (8, vi g), (9, .string f), (10, vi e)] ?_
   refine T_sr 6 kk17 kk18 ?_
   refine T_n 1 [(1, .string name), (7, .string i), (8, vi g), (9, .string f), (10, vi e), (44, .string name)] ?_
   refine N_call (some 45) 7 #[vp none, .string name] (fun _=>by kernel_rfl) h ?_; clear h
   rintro aa H6 ⟨o, d, rfl, h⟩
   refine ⟨[(1, .string name), (7, .string i), (8, vi g), (9, .string f), (10, vi e), (45, .tuple #[vu o, .bool d])], pk, ?_⟩
   refine T_ne 5 [(1, .string name), (7, .string i), (8, vi g), (9, .string f), (10, vi e), (12, .bool d)] ?_
   refine T_sr 7 kk19 kk20 ?_
   refine T_n 1 [(1, .string name), (7, .string i), (8, vi g), (9, .string f), (10, vi e), (12, .bool d), (49, .string name)] ?_
   refine N_call (some 50) 8 #[vp none, .string name] (fun _=>by kernel_rfl) h ?_; clear h
   rintro q H7 ⟨b, a, rfl, h⟩
   refine ⟨[(1, .string name), (7, .string i), (8, vi g), (9, .string f), (10, vi e), (12, .bool d), (50, .tuple #[vu b, vi a])], pk, ?_⟩
   refine T_ne 5 [(1, .string name), (7, .string i), (8, vi g), (9, .string f), (10, vi e), (12, .bool d), (13, vu b), (14, vi a)] ?_
   refine T_sr 8 kk21 kk22 ?_
   refine T_ne 1 [(1, .string name), (7, .string i), (8, vi g), (9, .string f), (10, vi e), (12, .bool d), (13, vu b), (14, vi a), (15, vi 2)] ?_
   refine T_s kk23 kk24 ?_
   refine T_sr 9 kk25 kk26 ?_
   refine T_n 1 [(7, .string i), (8, vi g), (9, .string f), (10, vi e), (12, .bool d), (13, vu b), (14, vi a), (15, vi 2), (53, .string name)] ?_
   refine N_call (some 54) 9 #[.string name] (fun _=>by kernel_rfl) h ?_; clear h
   rintro ac H8 ⟨j, rfl, h⟩
   refine ⟨[(7, .string i), (8, vi g), (9, .string f), (10, vi e), (12, .bool d), (13, vu b), (14, vi a), (15, vi 2), (54, vi j)], pk, ?_⟩
   refine T_e ?_
   refine T_b 0 kk27 ?_
   refine T_sr 10 kk28 kk29 ?_
   refine T_ne 2 [(7, .string i), (8, vi g), (9, .string f), (10, vi e), (12, .bool d), (13, vu b), (14, vi a), (15, vi 2), (54, vi j), (55, .bool (j == 1))] ?_
   by_cases c10 : j = 1
   ·rw [if_pos c10] at h
    have b11 : (j == 1) = true := beq_iff_eq.mpr c10
    refine S_env [(7, .string i), (8, vi g), (9, .string f), (10, vi e), (12, .bool d), (13, vu b), (14, vi a), (15, vi 2), (54, vi j), (55, .bool true)] (by simp only [b11, Bool.not_true, Bool.not_false]) ?_
    clear b11
    refine T_t 55 kk30 kk31 ?_
    refine T_r 11 kk30 ?_
    refine T_n 1 [(7, .string i), (8, vi g), (9, .string f), (10, vi e), (12, .bool d), (13, vu b), (14, vi a), (15, vi 6)] ?_
    refine N_end (by kernel_rfl) ?_
    refine S_blockEnd ?_
    refine S_then ?_
    refine T_sr 14 kk32 kk33 ?_
    refine T_n 3 [(8, vi g), (9, .string f), (10, vi e), (12, .bool d), (13, vu b), (14, vi a), (15, vi 6), (61, .bool (i.toList == (ByteArray.mk #[]).toList))] ?_
    by_cases c12 : i.toList = (ByteArray.mk #[]).toList
    ·rw [if_pos c12] at h
     have b13 : (i.toList == (ByteArray.mk #[]).toList) = true := beq_iff_eq.mpr c12
     refine N_env [(8, vi g), (9, .string f), (10, vi e), (12, .bool d), (13, vu b), (14, vi a), (15, vi 6), (61, .bool true)] (by simp only [b13, Bool.not_true, Bool.not_false]) ?_
     clear b13
     refine T_n 4 [(9, .string f), (10, vi e), (12, .bool d), (13, vu b), (14, vi a), (15, vi 6), (65, .bool (g == 3))] ?_
     by_cases c14 : g = 3
     ·rw [if_pos c14] at h
      have b15 : (g == 3) = true := beq_iff_eq.mpr c14
      refine N_env [(9, .string f), (10, vi e), (12, .bool d), (13, vu b), (14, vi a), (15, vi 6), (65, .bool true)] (by simp only [b15, Bool.not_true, Bool.not_false]) ?_
      clear b15
      refine T_n 4 [(10, vi e), (12, .bool d), (13, vu b), (14, vi a), (15, vi 6), (69, .bool (f.toList == (ByteArray.mk #[]).toList))] ?_
      by_cases c16 : f.toList = (ByteArray.mk #[]).toList
      ·rw [if_pos c16] at h
       have b17 : (f.toList == (ByteArray.mk #[]).toList) = true := beq_iff_eq.mpr c16
       refine N_env [(10, vi e), (12, .bool d), (13, vu b), (14, vi a), (15, vi 6), (69, .bool true)] (by simp only [b17, Bool.not_true, Bool.not_false]) ?_
       clear b17
       refine T_n 4 [(12, .bool d), (13, vu b), (14, vi a), (15, vi 6), (73, .bool (e == 3))] ?_
       by_cases c18 : e = 3
       ·rw [if_pos c18] at h
        have b19 : (e == 3) = true := beq_iff_eq.mpr c18
        refine N_env [(12, .bool d), (13, vu b), (14, vi a), (15, vi 6), (73, .bool true)] (by simp only [b19, Bool.not_true, Bool.not_false]) ?_
        clear b19
        refine T_n 4 [(13, vu b), (14, vi a), (15, vi 6), (77, .bool (!d))] ?_
        by_cases c20 : d = true
        ·rw [if_pos c20] at h
         have b21 : (!d) = false := congrArg Bool.not (c20)
         have b212 : d = true := c20
         refine N_env [(13, vu b), (14, vi a), (15, vi 6), (77, .bool false)] (by simp only [b21, b212, Bool.not_true, Bool.not_false]) ?_
         clear b21 b212
         refine T_ne 12 [(4, .bool false)] ?_
         refine S_ret (by kernel_rfl) ?_
         show At _ _ _ _ _ (Q .ret)
         exact S_done (fn := Tryd.f3) [.bool false] hQ (show ResOK _ _ _ [.tmp 4] _ from .tmp (by kernel_rfl) (.nil)) h
        ·rw [if_neg c20] at h
         have b21 : (!d) = true := congrArg Bool.not (eq_false_of_ne_true c20)
         have b212 : d = false := eq_false_of_ne_true c20
         refine N_env [(13, vu b), (14, vi a), (15, vi 6), (77, .bool true)] (by simp only [b21, b212, Bool.not_true, Bool.not_false]) ?_
         clear b21 b212
         refine T_n 4 [(14, vi a), (15, vi 6), (81, .bool (b == 0))] ?_
         by_cases c22 : b = 0
         ·rw [if_pos c22] at h
          have b23 : (b == 0) = true := beq_iff_eq.mpr c22
          refine N_env [(14, vi a), (15, vi 6), (81, .bool true)] (by simp only [b23, Bool.not_true, Bool.not_false]) ?_
          clear b23
          refine T_n 5 [(86, .bool (a == 6))] ?_
          by_cases c24 : a = 6
          ·rw [if_pos c24] at h
           have b25 : (a == 6) = true := beq_iff_eq.mpr c24
           refine N_env [(86, .bool true)] (by simp only [b25, Bool.not_true, Bool.not_false]) ?_
           clear b25
           refine N_call (some 87) 5 #[] (fun _=>by kernel_rfl) h ?_; clear h
           rintro t H9 ⟨l, rfl, h⟩
           refine ⟨[(86, .bool true), (87, .bool l)], pk, ?_⟩
           refine T_ne 2 [(4, .bool l)] ?_
           refine S_ret (by kernel_rfl) ?_
           show At _ _ _ _ _ (Q .ret)
           exact S_done (fn := Tryd.f3) [.bool l] hQ (show ResOK _ _ _ [.tmp 4] _ from .tmp (by kernel_rfl) (.nil)) h
          ·rw [if_neg c24] at h
           have b25 : (a == 6) = false := beq_eq_false_iff_ne.mpr c24
           refine N_env [(86, .bool false)] (by simp only [b25, Bool.not_true, Bool.not_false]) ?_
           clear b25
           refine T_ne 3 [(4, .bool false)] ?_
           refine S_ret (by kernel_rfl) ?_
           show At _ _ _ _ _ (Q .ret)
           exact S_done (fn := Tryd.f3) [.bool false] hQ (show ResOK _ _ _ [.tmp 4] _ from .tmp (by kernel_rfl) (.nil)) h
         ·rw [if_neg c22] at h
          have b23 : (b == 0) = false := beq_eq_false_iff_ne.mpr c22
          refine N_env [(14, vi a), (15, vi 6), (81, .bool false)] (by simp only [b23, Bool.not_true, Bool.not_false]) ?_
          clear b23
          refine T_ne 8 [(4, .bool false)] ?_
          refine S_ret (by kernel_rfl) ?_
          show At _ _ _ _ _ (Q .ret)
          exact S_done (fn := Tryd.f3) [.bool false] hQ (show ResOK _ _ _ [.tmp 4] _ from .tmp (by kernel_rfl) (.nil)) h
       ·rw [if_neg c18] at h
        have b19 : (e == 3) = false := beq_eq_false_iff_ne.mpr c18
        refine N_env [(12, .bool d), (13, vu b), (14, vi a), (15, vi 6), (73, .bool false)] (by simp only [b19, Bool.not_true, Bool.not_false]) ?_
        clear b19
        refine T_ne 16 [(4, .bool false)] ?_
        refine S_ret (by kernel_rfl) ?_
        show At _ _ _ _ _ (Q .ret)
        exact S_done (fn := Tryd.f3) [.bool false] hQ (show ResOK _ _ _ [.tmp 4] _ from .tmp (by kernel_rfl) (.nil)) h
      ·rw [if_neg c16] at h
       have b17 : (f.toList == (ByteArray.mk #[]).toList) = false := beq_eq_false_iff_ne.mpr c16
       refine N_env [(10, vi e), (12, .bool d), (13, vu b), (14, vi a), (15, vi 6), (69, .bool false)] (by simp only [b17, Bool.not_true, Bool.not_false]) ?_
       clear b17
       refine T_ne 20 [(4, .bool false)] ?_
       refine S_ret (by kernel_rfl) ?_
       show At _ _ _ _ _ (Q .ret)
       exact S_done (fn := Tryd.f3) [.bool false] hQ (show ResOK _ _ _ [.tmp 4] _ from .tmp (by kernel_rfl) (.nil)) h
     ·rw [if_neg c14] at h
      have b15 : (g == 3) = false := beq_eq_false_iff_ne.mpr c14
      refine N_env [(9, .string f), (10, vi e), (12, .bool d), (13, vu b), (14, vi a), (15, vi 6), (65, .bool false)] (by simp only [b15, Bool.not_true, Bool.not_false]) ?_
      clear b15
      refine T_ne 24 [(4, .bool false)] ?_
      refine S_ret (by kernel_rfl) ?_
      show At _ _ _ _ _ (Q .ret)
      exact S_done (fn := Tryd.f3) [.bool false] hQ (show ResOK _ _ _ [.tmp 4] _ from .tmp (by kernel_rfl) (.nil)) h
    ·rw [if_neg c12] at h
     have b13 : (i.toList == (ByteArray.mk #[]).toList) = false := beq_eq_false_iff_ne.mpr c12
     refine N_env [(8, vi g), (9, .string f), (10, vi e), (12, .bool d), (13, vu b), (14, vi a), (15, vi 6), (61, .bool false)] (by simp only [b13, Bool.not_true, Bool.not_false]) ?_
     clear b13
     refine T_ne 28 [(4, .bool false)] ?_
     refine S_ret (by kernel_rfl) ?_
     show At _ _ _ _ _ (Q .ret)
     exact S_done (fn := Tryd.f3) [.bool false] hQ (show ResOK _ _ _ [.tmp 4] _ from .tmp (by kernel_rfl) (.nil)) h
   ·rw [if_neg c10] at h
    have b11 : (j == 1) = false := beq_eq_false_iff_ne.mpr c10
    refine S_env [(7, .string i), (8, vi g), (9, .string f), (10, vi e), (12, .bool d), (13, vu b), (14, vi a), (15, vi 2), (54, vi j), (55, .bool false)] (by simp only [b11, Bool.not_true, Bool.not_false]) ?_
    clear b11
    refine T_f 55 kk30 kk31 ?_
    refine T_sr 12 kk34 kk35 ?_
    refine T_ne 2 [(7, .string i), (8, vi g), (9, .string f), (10, vi e), (12, .bool d), (13, vu b), (14, vi a), (15, vi 2), (57, .bool (j == 2))] ?_
    by_cases c26 : j = 2
    ·rw [if_pos c26] at h
     have b27 : (j == 2) = true := beq_iff_eq.mpr c26
     refine S_env [(7, .string i), (8, vi g), (9, .string f), (10, vi e), (12, .bool d), (13, vu b), (14, vi a), (15, vi 2), (57, .bool true)] (by simp only [b27, Bool.not_true, Bool.not_false]) ?_
     clear b27
     refine T_t 57 kk36 kk37 ?_
     refine T_r 13 kk36 ?_
     refine T_n 1 [(7, .string i), (8, vi g), (9, .string f), (10, vi e), (12, .bool d), (13, vu b), (14, vi a), (15, vi 1)] ?_
     refine N_end (by kernel_rfl) ?_
     refine S_blockEnd ?_
     refine S_then ?_
     refine T_sr 14 kk32 kk33 ?_
     refine T_n 3 [(8, vi g), (9, .string f), (10, vi e), (12, .bool d), (13, vu b), (14, vi a), (15, vi 1), (61, .bool (i.toList == (ByteArray.mk #[]).toList))] ?_
     by_cases c28 : i.toList = (ByteArray.mk #[]).toList
     ·rw [if_pos c28] at h
      have b29 : (i.toList == (ByteArray.mk #[]).toList) = true := beq_iff_eq.mpr c28
      refine N_env [(8, vi g), (9, .string f), (10, vi e), (12, .bool d), (13, vu b), (14, vi a), (15, vi 1), (61, .bool true)] (by simp only [b29, Bool.not_true, Bool.not_false]) ?_
      clear b29
      refine T_n 4 [(9, .string f), (10, vi e), (12, .bool d), (13, vu b), (14, vi a), (15, vi 1), (65, .bool (g == 3))] ?_
      by_cases c30 : g = 3
      ·rw [if_pos c30] at h
       have b31 : (g == 3) = true := beq_iff_eq.mpr c30
       refine N_env [(9, .string f), (10, vi e), (12, .bool d), (13, vu b), (14, vi a), (15, vi 1), (65, .bool true)] (by simp only [b31, Bool.not_true, Bool.not_false]) ?_
       clear b31
       refine T_n 4 [(10, vi e), (12, .bool d), (13, vu b), (14, vi a), (15, vi 1), (69, .bool (f.toList == (ByteArray.mk #[]).toList))] ?_
       by_cases c32 : f.toList = (ByteArray.mk #[]).toList
       ·rw [if_pos c32] at h
        have b33 : (f.toList == (ByteArray.mk #[]).toList) = true := beq_iff_eq.mpr c32
        refine N_env [(10, vi e), (12, .bool d), (13, vu b), (14, vi a), (15, vi 1), (69, .bool true)] (by simp only [b33, Bool.not_true, Bool.not_false]) ?_
        clear b33
        refine T_n 4 [(12, .bool d), (13, vu b), (14, vi a), (15, vi 1), (73, .bool (e == 3))] ?_
        by_cases c34 : e = 3
        ·rw [if_pos c34] at h
         have b35 : (e == 3) = true := beq_iff_eq.mpr c34
         refine N_env [(12, .bool d), (13, vu b), (14, vi a), (15, vi 1), (73, .bool true)] (by simp only [b35, Bool.not_true, Bool.not_false]) ?_
         clear b35
         refine T_n 4 [(13, vu b), (14, vi a), (15, vi 1), (77, .bool (!d))] ?_
         by_cases c36 : d = true
         ·rw [if_pos c36] at h
          have b37 : (!d) = false := congrArg Bool.not (c36)
          have b372 : d = true := c36
          refine N_env [(13, vu b), (14, vi a), (15, vi 1), (77, .bool false)] (by simp only [b37, b372, Bool.not_true, Bool.not_false]) ?_
          clear b37 b372
          refine T_ne 12 [(4, .bool false)] ?_
          refine S_ret (by kernel_rfl) ?_
          show At _ _ _ _ _ (Q .ret)
          exact S_done (fn := Tryd.f3) [.bool false] hQ (show ResOK _ _ _ [.tmp 4] _ from .tmp (by kernel_rfl) (.nil)) h
         ·rw [if_neg c36] at h
          have b37 : (!d) = true := congrArg Bool.not (eq_false_of_ne_true c36)
          have b372 : d = false := eq_false_of_ne_true c36
          refine N_env [(13, vu b), (14, vi a), (15, vi 1), (77, .bool true)] (by simp only [b37, b372, Bool.not_true, Bool.not_false]) ?_
          clear b37 b372
          refine T_n 4 [(14, vi a), (15, vi 1), (81, .bool (b == 0))] ?_
          by_cases c38 : b = 0
          ·rw [if_pos c38] at h
           have b39 : (b == 0) = true := beq_iff_eq.mpr c38
           refine N_env [(14, vi a), (15, vi 1), (81, .bool true)] (by simp only [b39, Bool.not_true, Bool.not_false]) ?_
           clear b39
           refine T_n 5 [(86, .bool (a == 1))] ?_
           by_cases c40 : a = 1
           ·rw [if_pos c40] at h
            have b41 : (a == 1) = true := beq_iff_eq.mpr c40
            refine N_env [(86, .bool true)] (by simp only [b41, Bool.not_true, Bool.not_false]) ?_
            clear b41
            refine N_call (some 87) 5 #[] (fun _=>by kernel_rfl) h ?_; clear h
            rintro y ab ⟨m, rfl, h⟩
            refine ⟨[(86, .bool true), (87, .bool m)], pk, ?_⟩
            refine T_ne 2 [(4, .bool m)] ?_
            refine S_ret (by kernel_rfl) ?_
            show At _ _ _ _ _ (Q .ret)
            exact S_done (fn := Tryd.f3) [.bool m] hQ (show ResOK _ _ _ [.tmp 4] _ from .tmp (by kernel_rfl) (.nil)) h
           ·rw [if_neg c40] at h
            have b41 : (a == 1) = false := beq_eq_false_iff_ne.mpr c40
            refine N_env [(86, .bool false)] (by simp only [b41, Bool.not_true, Bool.not_false]) ?_
            clear b41
            refine T_ne 3 [(4, .bool false)] ?_
            refine S_ret (by kernel_rfl) ?_
            show At _ _ _ _ _ (Q .ret)
            exact S_done (fn := Tryd.f3) [.bool false] hQ (show ResOK _ _ _ [.tmp 4] _ from .tmp (by kernel_rfl) (.nil)) h
          ·rw [if_neg c38] at h
           have b39 : (b == 0) = false := beq_eq_false_iff_ne.mpr c38
           refine N_env [(14, vi a), (15, vi 1), (81, .bool false)] (by simp only [b39, Bool.not_true, Bool.not_false]) ?_
           clear b39
           refine T_ne 8 [(4, .bool false)] ?_
           refine S_ret (by kernel_rfl) ?_
           show At _ _ _ _ _ (Q .ret)
           exact S_done (fn := Tryd.f3) [.bool false] hQ (show ResOK _ _ _ [.tmp 4] _ from .tmp (by kernel_rfl) (.nil)) h
        ·rw [if_neg c34] at h
         have b35 : (e == 3) = false := beq_eq_false_iff_ne.mpr c34
         refine N_env [(12, .bool d), (13, vu b), (14, vi a), (15, vi 1), (73, .bool false)] (by simp only [b35, Bool.not_true, Bool.not_false]) ?_
         clear b35
         refine T_ne 16 [(4, .bool false)] ?_
         refine S_ret (by kernel_rfl) ?_
         show At _ _ _ _ _ (Q .ret)
         exact S_done (fn := Tryd.f3) [.bool false] hQ (show ResOK _ _ _ [.tmp 4] _ from .tmp (by kernel_rfl) (.nil)) h
       ·rw [if_neg c32] at h
        have b33 : (f.toList == (ByteArray.mk #[]).toList) = false := beq_eq_false_iff_ne.mpr c32
        refine N_env [(10, vi e), (12, .bool d), (13, vu b), (14, vi a), (15, vi 1), (69, .bool false)] (by simp only [b33, Bool.not_true, Bool.not_false]) ?_
        clear b33
        refine T_ne 20 [(4, .bool false)] ?_
        refine S_ret (by kernel_rfl) ?_
        show At _ _ _ _ _ (Q .ret)
        exact S_done (fn := Tryd.f3) [.bool false] hQ (show ResOK _ _ _ [.tmp 4] _ from .tmp (by kernel_rfl) (.nil)) h
      ·rw [if_neg c30] at h
       have b31 : (g == 3) = false := beq_eq_false_iff_ne.mpr c30
       refine N_env [(9, .string f), (10, vi e), (12, .bool d), (13, vu b), (14, vi a), (15, vi 1), (65, .bool false)] (by simp only [b31, Bool.not_true, Bool.not_false]) ?_
       clear b31
       refine T_ne 24 [(4, .bool false)] ?_
       refine S_ret (by kernel_rfl) ?_
       show At _ _ _ _ _ (Q .ret)
       exact S_done (fn := Tryd.f3) [.bool false] hQ (show ResOK _ _ _ [.tmp 4] _ from .tmp (by kernel_rfl) (.nil)) h
     ·rw [if_neg c28] at h
      have b29 : (i.toList == (ByteArray.mk #[]).toList) = false := beq_eq_false_iff_ne.mpr c28
      refine N_env [(8, vi g), (9, .string f), (10, vi e), (12, .bool d), (13, vu b), (14, vi a), (15, vi 1), (61, .bool false)] (by simp only [b29, Bool.not_true, Bool.not_false]) ?_
      clear b29
      refine T_ne 28 [(4, .bool false)] ?_
      refine S_ret (by kernel_rfl) ?_
      show At _ _ _ _ _ (Q .ret)
      exact S_done (fn := Tryd.f3) [.bool false] hQ (show ResOK _ _ _ [.tmp 4] _ from .tmp (by kernel_rfl) (.nil)) h
    ·rw [if_neg c26] at h
     have b27 : (j == 2) = false := beq_eq_false_iff_ne.mpr c26
     refine S_env [(7, .string i), (8, vi g), (9, .string f), (10, vi e), (12, .bool d), (13, vu b), (14, vi a), (15, vi 2), (57, .bool false)] (by simp only [b27, Bool.not_true, Bool.not_false]) ?_
     clear b27
     refine T_f 57 kk36 kk37 ?_
     refine T_k ?_
     refine S_blockEnd ?_
     refine S_then ?_
     refine T_sr 14 kk32 kk33 ?_
     refine T_n 3 [(8, vi g), (9, .string f), (10, vi e), (12, .bool d), (13, vu b), (14, vi a), (15, vi 2), (61, .bool (i.toList == (ByteArray.mk #[]).toList))] ?_
     by_cases c42 : i.toList = (ByteArray.mk #[]).toList
     ·rw [if_pos c42] at h
      have b43 : (i.toList == (ByteArray.mk #[]).toList) = true := beq_iff_eq.mpr c42
      refine N_env [(8, vi g), (9, .string f), (10, vi e), (12, .bool d), (13, vu b), (14, vi a), (15, vi 2), (61, .bool true)] (by simp only [b43, Bool.not_true, Bool.not_false]) ?_
      clear b43
      refine T_n 4 [(9, .string f), (10, vi e), (12, .bool d), (13, vu b), (14, vi a), (15, vi 2), (65, .bool (g == 3))] ?_
      by_cases c44 : g = 3
      ·rw [if_pos c44] at h
       have b45 : (g == 3) = true := beq_iff_eq.mpr c44
       refine N_env [(9, .string f), (10, vi e), (12, .bool d), (13, vu b), (14, vi a), (15, vi 2), (65, .bool true)] (by simp only [b45, Bool.not_true, Bool.not_false]) ?_
       clear b45
       refine T_n 4 [(10, vi e), (12, .bool d), (13, vu b), (14, vi a), (15, vi 2), (69, .bool (f.toList == (ByteArray.mk #[]).toList))] ?_
       by_cases c46 : f.toList = (ByteArray.mk #[]).toList
       ·rw [if_pos c46] at h
        have b47 : (f.toList == (ByteArray.mk #[]).toList) = true := beq_iff_eq.mpr c46
        refine N_env [(10, vi e), (12, .bool d), (13, vu b), (14, vi a), (15, vi 2), (69, .bool true)] (by simp only [b47, Bool.not_true, Bool.not_false]) ?_
        clear b47
        refine T_n 4 [(12, .bool d), (13, vu b), (14, vi a), (15, vi 2), (73, .bool (e == 3))] ?_
        by_cases c48 : e = 3
        ·rw [if_pos c48] at h
         have b49 : (e == 3) = true := beq_iff_eq.mpr c48
         refine N_env [(12, .bool d), (13, vu b), (14, vi a), (15, vi 2), (73, .bool true)] (by simp only [b49, Bool.not_true, Bool.not_false]) ?_
         clear b49
         refine T_n 4 [(13, vu b), (14, vi a), (15, vi 2), (77, .bool (!d))] ?_
         by_cases c50 : d = true
         ·rw [if_pos c50] at h
          have b51 : (!d) = false := congrArg Bool.not (c50)
          have b512 : d = true := c50
          refine N_env [(13, vu b), (14, vi a), (15, vi 2), (77, .bool false)] (by simp only [b51, b512, Bool.not_true, Bool.not_false]) ?_
          clear b51 b512
          refine T_ne 12 [(4, .bool false)] ?_
          refine S_ret (by kernel_rfl) ?_
          show At _ _ _ _ _ (Q .ret)
          exact S_done (fn := Tryd.f3) [.bool false] hQ (show ResOK _ _ _ [.tmp 4] _ from .tmp (by kernel_rfl) (.nil)) h
         ·rw [if_neg c50] at h
          have b51 : (!d) = true := congrArg Bool.not (eq_false_of_ne_true c50)
          have b512 : d = false := eq_false_of_ne_true c50
          refine N_env [(13, vu b), (14, vi a), (15, vi 2), (77, .bool true)] (by simp only [b51, b512, Bool.not_true, Bool.not_false]) ?_
          clear b51 b512
          refine T_n 4 [(14, vi a), (15, vi 2), (81, .bool (b == 0))] ?_
          by_cases c52 : b = 0
          ·rw [if_pos c52] at h
           have b53 : (b == 0) = true := beq_iff_eq.mpr c52
           refine N_env [(14, vi a), (15, vi 2), (81, .bool true)] (by simp only [b53, Bool.not_true, Bool.not_false]) ?_
           clear b53
           refine T_n 5 [(86, .bool (a == 2))] ?_
           by_cases c54 : a = 2
           ·rw [if_pos c54] at h
            have b55 : (a == 2) = true := beq_iff_eq.mpr c54
            refine N_env [(86, .bool true)] (by simp only [b55, Bool.not_true, Bool.not_false]) ?_
            clear b55
            refine N_call (some 87) 5 #[] (fun _=>by kernel_rfl) h ?_; clear h
            rintro p z ⟨k, rfl, h⟩
            refine ⟨[(86, .bool true), (87, .bool k)], pk, ?_⟩
            refine T_ne 2 [(4, .bool k)] ?_
            refine S_ret (by kernel_rfl) ?_
            show At _ _ _ _ _ (Q .ret)
            exact S_done (fn := Tryd.f3) [.bool k] hQ (show ResOK _ _ _ [.tmp 4] _ from .tmp (by kernel_rfl) (.nil)) h
           ·rw [if_neg c54] at h
            have b55 : (a == 2) = false := beq_eq_false_iff_ne.mpr c54
            refine N_env [(86, .bool false)] (by simp only [b55, Bool.not_true, Bool.not_false]) ?_
            clear b55
            refine T_ne 3 [(4, .bool false)] ?_
            refine S_ret (by kernel_rfl) ?_
            show At _ _ _ _ _ (Q .ret)
            exact S_done (fn := Tryd.f3) [.bool false] hQ (show ResOK _ _ _ [.tmp 4] _ from .tmp (by kernel_rfl) (.nil)) h
          ·rw [if_neg c52] at h
           have b53 : (b == 0) = false := beq_eq_false_iff_ne.mpr c52
           refine N_env [(14, vi a), (15, vi 2), (81, .bool false)] (by simp only [b53, Bool.not_true, Bool.not_false]) ?_
           clear b53
           refine T_ne 8 [(4, .bool false)] ?_
           refine S_ret (by kernel_rfl) ?_
           show At _ _ _ _ _ (Q .ret)
           exact S_done (fn := Tryd.f3) [.bool false] hQ (show ResOK _ _ _ [.tmp 4] _ from .tmp (by kernel_rfl) (.nil)) h
        ·rw [if_neg c48] at h
         have b49 : (e == 3) = false := beq_eq_false_iff_ne.mpr c48
         refine N_env [(12, .bool d), (13, vu b), (14, vi a), (15, vi 2), (73, .bool false)] (by simp only [b49, Bool.not_true, Bool.not_false]) ?_
         clear b49
         refine T_ne 16 [(4, .bool false)] ?_
         refine S_ret (by kernel_rfl) ?_
         show At _ _ _ _ _ (Q .ret)
         exact S_done (fn := Tryd.f3) [.bool false] hQ (show ResOK _ _ _ [.tmp 4] _ from .tmp (by kernel_rfl) (.nil)) h
       ·rw [if_neg c46] at h
        have b47 : (f.toList == (ByteArray.mk #[]).toList) = false := beq_eq_false_iff_ne.mpr c46
        refine N_env [(10, vi e), (12, .bool d), (13, vu b), (14, vi a), (15, vi 2), (69, .bool false)] (by simp only [b47, Bool.not_true, Bool.not_false]) ?_
        clear b47
        refine T_ne 20 [(4, .bool false)] ?_
        refine S_ret (by kernel_rfl) ?_
        show At _ _ _ _ _ (Q .ret)
        exact S_done (fn := Tryd.f3) [.bool false] hQ (show ResOK _ _ _ [.tmp 4] _ from .tmp (by kernel_rfl) (.nil)) h
      ·rw [if_neg c44] at h
       have b45 : (g == 3) = false := beq_eq_false_iff_ne.mpr c44
       refine N_env [(9, .string f), (10, vi e), (12, .bool d), (13, vu b), (14, vi a), (15, vi 2), (65, .bool false)] (by simp only [b45, Bool.not_true, Bool.not_false]) ?_
       clear b45
       refine T_ne 24 [(4, .bool false)] ?_
       refine S_ret (by kernel_rfl) ?_
       show At _ _ _ _ _ (Q .ret)
       exact S_done (fn := Tryd.f3) [.bool false] hQ (show ResOK _ _ _ [.tmp 4] _ from .tmp (by kernel_rfl) (.nil)) h
     ·rw [if_neg c42] at h
      have b43 : (i.toList == (ByteArray.mk #[]).toList) = false := beq_eq_false_iff_ne.mpr c42
      refine N_env [(8, vi g), (9, .string f), (10, vi e), (12, .bool d), (13, vu b), (14, vi a), (15, vi 2), (61, .bool false)] (by simp only [b43, Bool.not_true, Bool.not_false]) ?_
      clear b43
      refine T_ne 28 [(4, .bool false)] ?_
      refine S_ret (by kernel_rfl) ?_
      show At _ _ _ _ _ (Q .ret)
      exact S_done (fn := Tryd.f3) [.bool false] hQ (show ResOK _ _ _ [.tmp 4] _ from .tmp (by kernel_rfl) (.nil)) h
 ·intro hk
  refine T_n 3 [(0, vu wv), (1, .string name), (5, vp ra), (6, vi rb), (22, .bool (rb != 0))] ?_
  by_cases c1 : rb = 0
  ·have b2 : (rb != 0) = false := bne_eq_false_iff_eq.mpr c1
   refine N_env [(0, vu wv), (1, .string name), (5, vp ra), (6, vi rb), (22, .bool false)] (by simp only [b2, Bool.not_true, Bool.not_false]) ?_
   refine T_n 4 [(0, vu wv), (1, .string name), (5, vp ra), (6, vi rb), (26, .bool (decide ((name.size : Int) > 500)))] ?_
   refine N_end (by kernel_rfl) ?_
   refine S_env [(0, vu wv), (1, .string name), (5, vp ra), (6, vi rb), (26, .bool ((rb != 0) || (decide ((name.size : Int) > 500))))] (by simp only [b2, Bool.true_or, Bool.false_or, Bool.or_true, Bool.or_false, Bool.true_and, Bool.false_and, Bool.and_true, Bool.and_false, Bool.not_true, Bool.not_false, cond_true, cond_false]) ?_
   exact hk
  ·have b2 : (rb != 0) = true := bne_iff_ne.mpr c1
   refine N_env [(0, vu wv), (1, .string name), (5, vp ra), (6, vi rb), (22, .bool true)] (by simp only [b2, Bool.not_true, Bool.not_false]) ?_
   refine T_n 4 [(0, vu wv), (1, .string name), (5, vp ra), (6, vi rb), (26, .bool true)] ?_
   refine N_end (by kernel_rfl) ?_
   refine S_env [(0, vu wv), (1, .string name), (5, vp ra), (6, vi rb), (26, .bool ((rb != 0) || (decide ((name.size : Int) > 500))))] (by simp only [b2, Bool.true_or, Bool.false_or, Bool.or_true, Bool.or_false, Bool.true_and, Bool.false_and, Bool.and_true, Bool.and_false, Bool.not_true, Bool.not_false, cond_true, cond_false]) ?_
   exact hk
end morainelaw16_SymsNone

end Go.Proofs.YtillpfaabdlaiaaDoor
