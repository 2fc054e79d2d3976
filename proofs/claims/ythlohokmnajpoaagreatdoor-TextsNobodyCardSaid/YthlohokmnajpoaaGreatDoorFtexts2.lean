/-
 Written by a program of mine (gen.py): for functions of this translation a predicate transformer over heaps (.pt), and the proof that it is sound for the call (.link).
-/
import Derived.Test.YthlohokmnajpoaaGreatDoorFnsC
set_option linter.unusedSimpArgs false
set_option linter.unusedVariables false
set_option maxHeartbeats 1000000
noncomputable section
namespace Go.Proofs.YthlohokmnajpoaaGreatDoor
open Go
/-! moraine/texts.is -/
namespace texts_is
def kk0 := Func.code Tryz.f57
def kk1 := Code.fa kk0
def kk2 := Code.fb kk0
def kk3 := Code.fa kk2
def kk4 := Code.fb kk2
def kk5 := Code.fa kk4
def kk6 := Code.fb kk4
def kk7 := Code.fa kk5
def kk8 := Code.fb kk5
def kk9 := Code.fa kk8
def kk10 := Code.fa kk9
def kk11 := Code.fb kk9
def kk12 := Code.fa kk11
def kk13 := Code.fb kk11
def kk14 := Code.fa kk6
def kk15 := Code.fb kk6
def kk16 := Code.fa kk13
def kk17 := Code.fb kk13
def kk18 := Code.fa kk17
def kk19 := Code.fb kk17
def kk20 := Code.fa kk19
def kk21 := Code.fb kk19
def kk22 := Code.fa kk21
def kk23 := Code.fb kk21
def kk24 := Code.fa kk23
def kk25 := Code.fb kk23
def kk26 := Code.fa kk25
def kk27 := Code.fb kk25
def kk28 := Code.fa kk27
def kk29 := Code.fb kk27
def kk30 := Code.fa kk29
def kk31 := Code.fb kk29
def kk32 := Code.fa kk30
def kk33 := Code.fb kk30
def kk34 := Code.fa kk31
def kk35 := Code.fb kk31
def kk36 := Code.fa kk35
def kk37 := Code.fb kk35
end texts_is
def texts_is.pt (hv : Option Addr) (wv : Int) (kind : Int) (H : Array Obj) (R : Value → Array Obj → Prop) : Prop :=
 if kind = 1 then (
 word_Rune.C wv H (fun v H1 => ∃ ra : Int, ∃ rb : Bool, v = .tuple #[.int .i32 ra, .bool rb] ∧ 
 R (.bool rb) H1))
 else
 if kind = 2 then (
 obj_Heap_Type.C hv wv H (fun o H2 => ∃ x : Int, o = .int .i64 x ∧ 
 R (.bool (x == 2)) H2))
 else
 if kind = 3 then (
 word_Int.C wv H (fun p H3 => ∃ g : Int, ∃ b : Bool, p = .tuple #[.int .i64 g, .bool b] ∧ 
 R (.bool b) H3))
 else
 if kind = 4 then (
 obj_Heap_Type.C hv wv H (fun n H4 => ∃ e : Int, n = .int .i64 e ∧ 
 R (.bool (e == 1)) H4))
 else
 if kind = 5 then (
 syms_Name.C hv wv H (fun m H5 => ∃ f : ByteArray, ∃ a : Int, m = .tuple #[.string f, .int .i64 a] ∧ 
 R (.bool (a == 0)) H5))
 else
 if kind = 6 then (
 lists_List.C hv wv H (fun l H6 => ∃ k : Option Addr, ∃ i : Nat, ∃ j : Nat, ∃ d : Bool, l = .tuple #[.slice k i j, .bool d] ∧ 
 R (.bool d) H6))
 else
 R (.bool true) H
namespace texts_is
set_option maxRecDepth 100000 in
theorem link {hv : Option Addr} {wv : Int} {kind : Int} {H : Array Obj} {R : Value → Array Obj → Prop} (h : pt hv wv kind H R) : C hv wv kind H R := by
 refine S_enter (fn := Tryz.f57) (c := kk0) 56 Tryz.func57 (by kernel_rfl) (by kernel_rfl) (Nat.le_of_ble_eq_true (by kernel_rfl)) ?_
 intro w0 Q hQ
 unfold pt at h
 refine T_su [(0, vp hv), (1, vu wv), (2, vi kind)] ?_
 refine T_sr 0 kk1 kk2 ?_
 refine T_ne 1 [(0, vp hv), (1, vu wv), (2, vi kind)] ?_
 refine T_sr 1 kk3 kk4 ?_
 refine T_ne 1 [(0, vp hv), (1, vu wv), (2, vi kind), (7, .bool true)] ?_
 refine T_s kk5 kk6 ?_
 refine T_sr 2 kk7 kk8 ?_
 refine T_ne 1 [(0, vp hv), (1, vu wv), (7, .bool true), (10, vi kind)] ?_
 refine T_b 0 kk9 ?_
 refine T_sr 3 kk10 kk11 ?_
 refine T_ne 2 [(0, vp hv), (1, vu wv), (7, .bool true), (10, vi kind), (11, .bool (kind == 1))] ?_
 by_cases c1 : kind = 1
 ·rw [if_pos c1] at h
  have b2 : (kind == 1) = true := beq_iff_eq.mpr c1
  refine S_env [(0, vp hv), (1, vu wv), (7, .bool true), (10, vi kind), (11, .bool true)] (by simp only [b2, Bool.not_true, Bool.not_false]) ?_
  clear b2
  refine T_t 11 kk12 kk13 ?_
  refine T_r 4 kk12 ?_
  refine T_n 1 [(14, vu wv)] ?_
  refine N_call (some 15) 110 #[vu wv] (fun _=>by kernel_rfl) h ?_; clear h
  rintro v H1 ⟨ra, rb, rfl, h⟩
  refine ⟨[(15, .tuple #[.int .i32 ra, .bool rb])], pk, ?_⟩
  refine T_n 4 [(7, .bool rb)] ?_
  refine N_end (by kernel_rfl) ?_
  refine S_blockEnd ?_
  refine S_then ?_
  refine T_sr 16 kk14 kk15 ?_
  refine T_ne 2 [(6, .bool rb)] ?_
  refine S_ret (by kernel_rfl) ?_
  show At _ _ _ _ _ (Q .ret)
  exact S_done (fn := Tryz.f57) [.bool rb] hQ (show ResOK _ _ _ [.tmp 6] _ from .tmp (by kernel_rfl) (.nil)) h
 ·rw [if_neg c1] at h
  have b2 : (kind == 1) = false := beq_eq_false_iff_ne.mpr c1
  refine S_env [(0, vp hv), (1, vu wv), (7, .bool true), (10, vi kind), (11, .bool false)] (by simp only [b2, Bool.not_true, Bool.not_false]) ?_
  clear b2
  refine T_f 11 kk12 kk13 ?_
  refine T_sr 5 kk16 kk17 ?_
  refine T_ne 2 [(0, vp hv), (1, vu wv), (7, .bool true), (10, vi kind), (18, .bool (kind == 2))] ?_
  by_cases c3 : kind = 2
  ·rw [if_pos c3] at h
   have b4 : (kind == 2) = true := beq_iff_eq.mpr c3
   refine S_env [(0, vp hv), (1, vu wv), (7, .bool true), (10, vi kind), (18, .bool true)] (by simp only [b4, Bool.not_true, Bool.not_false]) ?_
   clear b4
   refine T_t 18 kk18 kk19 ?_
   refine T_r 6 kk18 ?_
   refine T_n 2 [(20, vp hv), (21, vu wv)] ?_
   refine N_call (some 22) 94 #[vp hv, vu wv] (fun _=>by kernel_rfl) h ?_; clear h
   rintro o H2 ⟨x, rfl, h⟩
   refine ⟨[(22, vi x)], pk, ?_⟩
   refine T_n 2 [(7, .bool (x == 2))] ?_
   refine N_end (by kernel_rfl) ?_
   refine S_blockEnd ?_
   refine S_then ?_
   refine T_sr 16 kk14 kk15 ?_
   refine T_ne 2 [(6, .bool (x == 2))] ?_
   refine S_ret (by kernel_rfl) ?_
   show At _ _ _ _ _ (Q .ret)
   exact S_done (fn := Tryz.f57) [.bool (x == 2)] hQ (show ResOK _ _ _ [.tmp 6] _ from .tmp (by kernel_rfl) (.nil)) h
  ·rw [if_neg c3] at h
   have b4 : (kind == 2) = false := beq_eq_false_iff_ne.mpr c3
   refine S_env [(0, vp hv), (1, vu wv), (7, .bool true), (10, vi kind), (18, .bool false)] (by simp only [b4, Bool.not_true, Bool.not_false]) ?_
   clear b4
   refine T_f 18 kk18 kk19 ?_
   refine T_sr 7 kk20 kk21 ?_
   refine T_ne 2 [(0, vp hv), (1, vu wv), (7, .bool true), (10, vi kind), (24, .bool (kind == 3))] ?_
   by_cases c5 : kind = 3
   ·rw [if_pos c5] at h
    have b6 : (kind == 3) = true := beq_iff_eq.mpr c5
    refine S_env [(0, vp hv), (1, vu wv), (7, .bool true), (10, vi kind), (24, .bool true)] (by simp only [b6, Bool.not_true, Bool.not_false]) ?_
    clear b6
    refine T_t 24 kk22 kk23 ?_
    refine T_r 8 kk22 ?_
    refine T_n 1 [(27, vu wv)] ?_
    refine N_call (some 28) 59 #[vu wv] (fun _=>by kernel_rfl) h ?_; clear h
    rintro p H3 ⟨g, b, rfl, h⟩
    refine ⟨[(28, .tuple #[vi g, .bool b])], pk, ?_⟩
    refine T_n 4 [(7, .bool b)] ?_
    refine N_end (by kernel_rfl) ?_
    refine S_blockEnd ?_
    refine S_then ?_
    refine T_sr 16 kk14 kk15 ?_
    refine T_ne 2 [(6, .bool b)] ?_
    refine S_ret (by kernel_rfl) ?_
    show At _ _ _ _ _ (Q .ret)
    exact S_done (fn := Tryz.f57) [.bool b] hQ (show ResOK _ _ _ [.tmp 6] _ from .tmp (by kernel_rfl) (.nil)) h
   ·rw [if_neg c5] at h
    have b6 : (kind == 3) = false := beq_eq_false_iff_ne.mpr c5
    refine S_env [(0, vp hv), (1, vu wv), (7, .bool true), (10, vi kind), (24, .bool false)] (by simp only [b6, Bool.not_true, Bool.not_false]) ?_
    clear b6
    refine T_f 24 kk22 kk23 ?_
    refine T_sr 9 kk24 kk25 ?_
    refine T_ne 2 [(0, vp hv), (1, vu wv), (7, .bool true), (10, vi kind), (31, .bool (kind == 4))] ?_
    by_cases c7 : kind = 4
    ·rw [if_pos c7] at h
     have b8 : (kind == 4) = true := beq_iff_eq.mpr c7
     refine S_env [(0, vp hv), (1, vu wv), (7, .bool true), (10, vi kind), (31, .bool true)] (by simp only [b8, Bool.not_true, Bool.not_false]) ?_
     clear b8
     refine T_t 31 kk26 kk27 ?_
     refine T_r 10 kk26 ?_
     refine T_n 2 [(33, vp hv), (34, vu wv)] ?_
     refine N_call (some 35) 94 #[vp hv, vu wv] (fun _=>by kernel_rfl) h ?_; clear h
     rintro n H4 ⟨e, rfl, h⟩
     refine ⟨[(35, vi e)], pk, ?_⟩
     refine T_n 2 [(7, .bool (e == 1))] ?_
     refine N_end (by kernel_rfl) ?_
     refine S_blockEnd ?_
     refine S_then ?_
     refine T_sr 16 kk14 kk15 ?_
     refine T_ne 2 [(6, .bool (e == 1))] ?_
     refine S_ret (by kernel_rfl) ?_
     show At _ _ _ _ _ (Q .ret)
     exact S_done (fn := Tryz.f57) [.bool (e == 1)] hQ (show ResOK _ _ _ [.tmp 6] _ from .tmp (by kernel_rfl) (.nil)) h
    ·rw [if_neg c7] at h
     have b8 : (kind == 4) = false := beq_eq_false_iff_ne.mpr c7
     refine S_env [(0, vp hv), (1, vu wv), (7, .bool true), (10, vi kind), (31, .bool false)] (by simp only [b8, Bool.not_true, Bool.not_false]) ?_
     clear b8
     refine T_f 31 kk26 kk27 ?_
     refine T_sr 11 kk28 kk29 ?_
     refine T_ne 2 [(0, vp hv), (1, vu wv), (7, .bool true), (10, vi kind), (37, .bool (kind == 5))] ?_
     by_cases c9 : kind = 5
     ·rw [if_pos c9] at h
      have b10 : (kind == 5) = true := beq_iff_eq.mpr c9
      refine S_env [(0, vp hv), (1, vu wv), (7, .bool true), (10, vi kind), (37, .bool true)] (by simp only [b10, Bool.not_true, Bool.not_false]) ?_
      clear b10
      refine T_t 37 kk30 kk31 ?_
      refine T_sr 12 kk32 kk33 ?_
      refine T_n 2 [(40, vp hv), (41, vu wv)] ?_
      refine N_call (some 42) 66 #[vp hv, vu wv] (fun _=>by kernel_rfl) h ?_; clear h
      rintro m H5 ⟨f, a, rfl, h⟩
      refine ⟨[(42, .tuple #[.string f, vi a])], pk, ?_⟩
      refine T_ne 5 [(9, vi a)] ?_
      refine T_r 13 kk33 ?_
      refine T_n 3 [(7, .bool (a == 0))] ?_
      refine N_end (by kernel_rfl) ?_
      refine S_blockEnd ?_
      refine S_then ?_
      refine T_sr 16 kk14 kk15 ?_
      refine T_ne 2 [(6, .bool (a == 0))] ?_
      refine S_ret (by kernel_rfl) ?_
      show At _ _ _ _ _ (Q .ret)
      exact S_done (fn := Tryz.f57) [.bool (a == 0)] hQ (show ResOK _ _ _ [.tmp 6] _ from .tmp (by kernel_rfl) (.nil)) h
     ·rw [if_neg c9] at h
      have b10 : (kind == 5) = false := beq_eq_false_iff_ne.mpr c9
      refine S_env [(0, vp hv), (1, vu wv), (7, .bool true), (10, vi kind), (37, .bool false)] (by simp only [b10, Bool.not_true, Bool.not_false]) ?_
      clear b10
      refine T_f 37 kk30 kk31 ?_
      refine T_sr 14 kk34 kk35 ?_
      refine T_ne 2 [(0, vp hv), (1, vu wv), (7, .bool true), (47, .bool (kind == 6))] ?_
      by_cases c11 : kind = 6
      ·rw [if_pos c11] at h
       have b12 : (kind == 6) = true := beq_iff_eq.mpr c11
       refine S_env [(0, vp hv), (1, vu wv), (7, .bool true), (47, .bool true)] (by simp only [b12, Bool.not_true, Bool.not_false]) ?_
       clear b12
       refine T_t 47 kk36 kk37 ?_
       refine T_r 15 kk36 ?_
       refine T_n 2 [(50, vp hv), (51, vu wv)] ?_
       refine N_call (some 52) 67 #[vp hv, vu wv] (fun _=>by kernel_rfl) h ?_; clear h
       rintro l H6 ⟨k, i, j, d, rfl, h⟩
       refine ⟨[(52, .tuple #[vs k i j, .bool d])], pk, ?_⟩
       refine T_n 4 [(7, .bool d)] ?_
       refine N_end (by kernel_rfl) ?_
       refine S_blockEnd ?_
       refine S_then ?_
       refine T_sr 16 kk14 kk15 ?_
       refine T_ne 2 [(6, .bool d)] ?_
       refine S_ret (by kernel_rfl) ?_
       show At _ _ _ _ _ (Q .ret)
       exact S_done (fn := Tryz.f57) [.bool d] hQ (show ResOK _ _ _ [.tmp 6] _ from .tmp (by kernel_rfl) (.nil)) h
      ·rw [if_neg c11] at h
       have b12 : (kind == 6) = false := beq_eq_false_iff_ne.mpr c11
       refine S_env [(0, vp hv), (1, vu wv), (7, .bool true), (47, .bool false)] (by simp only [b12, Bool.not_true, Bool.not_false]) ?_
       clear b12
       refine T_f 47 kk36 kk37 ?_
       refine T_k ?_
       refine S_blockEnd ?_
       refine S_then ?_
       refine T_sr 16 kk14 kk15 ?_
       refine T_ne 2 [(6, .bool true)] ?_
       refine S_ret (by kernel_rfl) ?_
       show At _ _ _ _ _ (Q .ret)
       exact S_done (fn := Tryz.f57) [.bool true] hQ (show ResOK _ _ _ [.tmp 6] _ from .tmp (by kernel_rfl) (.nil)) h
end texts_is

/-! moraine/texts.asks -/
namespace texts_made
def kk0 := Func.code Tryz.f65
def kk1 := Code.fa kk0
def kk2 := Code.fb kk0
def kk3 := Code.fa kk2
def kk4 := Code.fb kk2
end texts_made
def texts_made.pt (hv : Option Addr) (lB : Option Addr) (lN : Nat) (lC : Nat) (H : Array Obj) (R : Value → Array Obj → Prop) : Prop :=
 ∃ rs : List Int, (SrcAt H lB (rs.map (Value.int .i32)) ∧ (lB ≠ none → rs.length = lN)) ∧
 obj_Heap_String.C hv (runesStr rs) H (fun v H1 => ∃ ra : Int, ∃ rb : Int, v = .tuple #[.int .u64 ra, .int .i64 rb] ∧ 
 R (.tuple #[.int .u64 ra, .int .i64 rb]) H1)
namespace texts_made
set_option maxRecDepth 100000 in
theorem link {hv : Option Addr} {lB : Option Addr} {lN : Nat} {lC : Nat} {H : Array Obj} {R : Value → Array Obj → Prop} (h : pt hv lB lN lC H R) : C hv lB lN lC H R := by
 refine S_enter (fn := Tryz.f65) (c := kk0) 12 Tryz.func65 (by kernel_rfl) (by kernel_rfl) (Nat.le_of_ble_eq_true (by kernel_rfl)) ?_
 intro w0 Q hQ
 unfold pt at h
 refine T_su [(0, vp hv), (1, vs lB lN lC)] ?_
 refine T_sr 0 kk1 kk2 ?_
 refine T_ne 2 [(0, vp hv), (1, vs lB lN lC)] ?_
 refine T_sr 1 kk3 kk4 ?_
 refine T_n 2 [(6, vp hv), (7, vs lB lN lC)] ?_
 obtain ⟨rs, q1, h⟩ := h
 refine T_v (some 8) (convertN 65 9 (vs lB lN lC)) (.string (runesStr rs)) (fun w hw => convert_runes Tryz.underlying65 Tryz.underlying9 Tryz.underlying21 (by rw [hw]; exact q1.1) q1.2) [(6, vp hv), (8, .string (runesStr rs))] ?_
 refine N_call (some 9) 22 #[vp hv, .string (runesStr rs)] (fun _=>by kernel_rfl) h ?_; clear h
 rintro v H1 ⟨ra, rb, rfl, h⟩
 refine ⟨[(9, .tuple #[vu ra, vi rb])], pk, ?_⟩
 refine T_ne 4 [(4, vu ra), (5, vi rb)] ?_
 refine S_ret (by kernel_rfl) ?_
 show At _ _ _ _ _ (Q .ret)
 exact S_done (fn := Tryz.f65) [vu ra, vi rb] hQ (show ResOK _ _ _ [.tmp 4, .tmp 5] _ from .tmp (by kernel_rfl) (.tmp (by kernel_rfl) (.nil))) h
end texts_made

/-! moraine/texts.ofList -/
namespace texts_ofText
def kk0 := Func.code Tryz.f71
def kk1 := Code.fa kk0
def kk2 := Code.fb kk0
def kk3 := Code.fa kk2
def kk4 := Code.fb kk2
def kk5 := Code.fa kk4
def kk6 := Code.fb kk4
def kk7 := Code.fa kk5
def kk8 := Code.fb kk5
def kk9 := Code.fa kk8
def kk10 := Code.fa kk9
def kk11 := Code.fa kk10
def kk12 := Code.fb kk10
def kk13 := Code.fa kk12
def kk14 := Code.fb kk12
def kk15 := Code.fa kk13
def kk16 := Code.fb kk13
def kk17 := Code.fa kk14
def kk18 := Code.fb kk14
def kk19 := Code.fa kk17
def kk20 := Code.fa kk19
def kk21 := Code.fb kk19
def kk22 := Code.fa kk21
def kk23 := Code.fb kk21
def kk24 := Code.fa kk23
def kk25 := Code.fb kk23
def kk26 := Code.fa kk6
def kk27 := Code.fb kk6
def kk28 := Code.fa kk26
def kk29 := Code.fb kk26
def kk30 := Code.fa kk29
def kk31 := Code.fa kk30
def kk32 := Code.fb kk30
def kk33 := Code.fa kk32
def kk34 := Code.fb kk32
def kk35 := Code.fa kk33
def kk36 := Code.fb kk33
def kk37 := Code.fa kk34
def kk38 := Code.fb kk34
def kk39 := Code.fa kk38
def kk40 := Code.fb kk38
def kk41 := Code.fa kk39
def kk42 := Code.fb kk39
def kk43 := Code.fa kk41
def kk44 := Code.fb kk41
def kk45 := Code.fa kk44
def kk46 := Code.fb kk44
def kk47 := Code.fa kk46
def kk48 := Code.fb kk46
def kk49 := Code.fa kk47
def kk50 := Code.fb kk47
def kk51 := Code.fa kk42
def kk52 := Code.fb kk42
def kk53 := Code.fa kk40
def kk54 := Code.fb kk40
def kk55 := Code.fa kk54
def kk56 := Code.fb kk54
def kk57 := Code.fa kk55
def kk58 := Code.fb kk55
def kk59 := Code.fa kk58
def kk60 := Code.fb kk58
def kk61 := Code.fa kk56
def kk62 := Code.fb kk56
def kk63 := Code.fa kk61
def kk64 := Code.fb kk61
def kk65 := Code.fa kk64
def kk66 := Code.fb kk64
def kk67 := Code.fa kk62
def kk68 := Code.fb kk62
def kk69 := Code.fa kk67
def kk70 := Code.fb kk67
def kk71 := Code.fa kk68
def kk72 := Code.fb kk68
def kk73 := Code.fa kk72
def kk74 := Code.fb kk72
def kk75 := Code.fa kk73
def kk76 := Code.fb kk73
def kk77 := Code.fa kk74
def kk78 := Code.fb kk74
def kk79 := Code.fa kk78
def kk80 := Code.fb kk78
def kk81 := Code.fa kk79
def kk82 := Code.fb kk79
def kk83 := Code.fa kk80
def kk84 := Code.fb kk80
def kk85 := Code.fa kk84
def kk86 := Code.fb kk84
def kk87 := Code.fa kk85
def kk88 := Code.fb kk85
def kk89 := Code.fa kk27
def kk90 := Code.fb kk27
def kk91 := Code.fa kk66
def kk92 := Code.fb kk66
def kk93 := Code.fa kk92
def kk94 := Code.fb kk92
end texts_ofText
set_option maxRecDepth 100000 in def texts_ofText.pt (hv : Option Addr) (nv : Int) (argsB : Option Addr) (argsN : Nat) (argsC : Nat) (H : Array Obj) (R : Value → Array Obj → Prop) : Prop :=
 ∃ (bl : (Option Addr) → Nat → Nat → Int → Array Obj → Prop) (m11 : (Option Addr) → Nat → Nat → Int → Array Obj → Nat), bl none 0 0 0 H ∧ ∀ (d : Option Addr) (allN : Nat) (allC : Nat) (s16 : Int) (H1 : Array Obj), bl d allN allC s16 H1 →
 if s16 < (argsN : Int) then (
 ∃ g : Addr, argsB = some g ∧
 ((0 : Int) ≤ s16 ∧ s16 < (argsN : Int)) ∧
 ∃ x : Int, hat H1 (g.add (Int.toNat s16 * 1)) = some (.int .u64 x) ∧
 texts_is.C hv x 2 H1 (fun v H2 => ∃ bd : Bool, v = .bool bd ∧ 
 if bd = true then (
 texts_runes.C hv x H2 (fun bn H3 => bn = bn ∧ 
 slices_Collect_rune.C bn H3 (fun ce H4 => ∃ xB : Option Addr, ∃ xN : Nat, ∃ xC : Nat, ce = .slice xB xN xC ∧ 
 ∀ (b : Nat) (H5 : Array Obj), b = H4.size → H5 = H4.push (.cells #[.slice xB xN xC] 65) →
 appendK 1 65 24 [.slice none 0 0] d allN allC (some (Addr.mk b 0 none)) 1 H5 (fun ap bc H6 =>
 (bl ap (allN + 1) bc (IntKind.wrap .i64 (s16 + 1)) H6 ∧ m11 ap (allN + 1) bc (IntKind.wrap .i64 (s16 + 1)) H6 < m11 d allN allC s16 H1)))))
 else
 (bl d allN allC (IntKind.wrap .i64 (s16 + 1)) H2 ∧ m11 d allN allC (IntKind.wrap .i64 (s16 + 1)) H2 < m11 d allN allC s16 H1)))
 else
 if nv = 17 then (
 ∃ ac : Addr, d = some ac ∧
 ((0 : Int) ≤ 0 ∧ 0 < (allN : Int)) ∧
 ∃ bp : Option Addr, ∃ ak : Nat, ∃ br : Nat, hat H1 (ac.add (Int.toNat 0 * 1)) = some (.slice bp ak br) ∧
 word_Fix.C (ak : Int) H1 (fun cd H7 => ∃ ra : Int, ∃ rb : Int, cd = .tuple #[.int .u64 ra, .int .i64 rb] ∧ 
 R (.tuple #[.int .u64 ra, .int .i64 rb]) H7))
 else
 if nv = 18 then (
 ∃ q : Addr, argsB = some q ∧
 ((0 : Int) ≤ 1 ∧ 1 < (argsN : Int)) ∧
 ∃ bk : Int, hat H1 (q.add (Int.toNat 1 * 1)) = some (.int .u64 bk) ∧
 texts_number.C bk H1 (fun cg H8 => ∃ l : Int, cg = .int .i64 l ∧ 
 if l ≥ 0 then (
 ∃ j : Addr, d = some j ∧
 ((0 : Int) ≤ 0 ∧ 0 < (allN : Int)) ∧
 ∃ bq : Option Addr, ∃ af : Nat, ∃ bo : Nat, hat H8 (j.add (Int.toNat 0 * 1)) = some (.slice bq af bo) ∧
 if l < (af : Int) then (
 ((0 : Int) ≤ 0 ∧ 0 < (allN : Int)) ∧
 ∃ ax : Option Addr, ∃ ai : Nat, ∃ aj : Nat, hat H8 (j.add (Int.toNat 0 * 1)) = some (.slice ax ai aj) ∧
 ∃ ah : Addr, ax = some ah ∧
 ((0 : Int) ≤ l ∧ l < (ai : Int)) ∧
 ∃ bj : Int, hat H8 (ah.add (Int.toNat l * 1)) = some (.int .i32 bj) ∧
 word_Char.C bj H8 (fun cm H9 => ∃ av : Int, ∃ ar : Int, cm = .tuple #[.int .u64 av, .int .i64 ar] ∧ 
 R (.tuple #[.int .u64 av, .int .i64 ar]) H9))
 else
 R (.tuple #[.int .u64 0, .int .i64 4]) H8)
 else
 R (.tuple #[.int .u64 0, .int .i64 4]) H8))
 else
 if nv = 19 then (
 ∃ e : Addr, argsB = some e ∧
 ((0 : Int) ≤ 2 ∧ 2 < (argsN : Int)) ∧
 ∃ bm : Int, hat H1 (e.add (Int.toNat 2 * 1)) = some (.int .u64 bm) ∧
 word_Rune.C bm H1 (fun ci bt => ∃ n : Int, ∃ bs : Bool, ci = .tuple #[.int .i32 n, .bool bs] ∧ 
 ((0 : Int) ≤ 0 ∧ 0 < (argsN : Int)) ∧
 ∃ ae : Int, hat bt (e.add (Int.toNat 0 * 1)) = some (.int .u64 ae) ∧
 ((0 : Int) ≤ 1 ∧ 1 < (argsN : Int)) ∧
 ∃ a6 : Int, hat bt (e.add (Int.toNat 1 * 1)) = some (.int .u64 a6) ∧
 texts_number.C a6 bt (fun cf b4 => ∃ ba : Int, cf = .int .i64 ba ∧ RowAt b4 (e.add (Int.toNat 0 * 1)) 0 [.int .u64 ae] ∧ 
 texts_set.C hv ae ba n b4 (fun ca cn => ∃ s : Int, ∃ aa : Int, ca = .tuple #[.int .u64 s, .int .i64 aa] ∧ 
 R (.tuple #[.int .u64 s, .int .i64 aa]) cn))))
 else
 ∃ J : Bool → Array Obj → Prop, (
 if nv = 20 then (
 J true H1)
 else
 if nv = 21 then (
 J true H1)
 else
 J (nv == 22) H1) ∧ ∀ (a5 : Bool) (H13 : Array Obj), J a5 H13 →
 if a5 = true then (
 texts_rises.C nv d allN allC H13 (fun bw ck => ∃ bi : Bool, bw = .bool bi ∧ 
 texts_truth.C bi ck (fun bv ch => ∃ a2 : Int, ∃ an : Int, bv = .tuple #[.int .u64 a2, .int .i64 an] ∧ 
 R (.tuple #[.int .u64 a2, .int .i64 an]) ch)))
 else
 if nv = 23 then (
 ∃ m : Addr, d = some m ∧
 ((0 : Int) ≤ 0 ∧ 0 < (allN : Int)) ∧
 ∃ r : Option Addr, ∃ o : Nat, ∃ p : Nat, hat H13 (m.add (Int.toNat 0 * 1)) = some (.slice r o p) ∧
 ∃ f : Addr, argsB = some f ∧
 ((0 : Int) ≤ 1 ∧ 1 < (argsN : Int)) ∧
 ∃ ad : Int, hat H13 (f.add (Int.toNat 1 * 1)) = some (.int .u64 ad) ∧
 ((0 : Int) ≤ 2 ∧ 2 < (argsN : Int)) ∧
 ∃ ag : Int, hat H13 (f.add (Int.toNat 2 * 1)) = some (.int .u64 ag) ∧
 texts_number.C ad H13 (fun b7 bu => ∃ aq : Int, b7 = .int .i64 aq ∧ RowAt bu (m.add (Int.toNat 0 * 1)) 0 [.slice r o p] ∧ RowAt bu (f.add (Int.toNat 2 * 1)) 0 [.int .u64 ag] ∧ 
 texts_number.C ag bu (fun b3 b6 => ∃ a8 : Int, b3 = .int .i64 a8 ∧ RowAt b6 (m.add (Int.toNat 0 * 1)) 0 [.slice r o p] ∧ 
 texts_cut.C hv r o p aq a8 b6 (fun bz cp => ∃ u : Int, ∃ ab : Int, bz = .tuple #[.int .u64 u, .int .i64 ab] ∧ 
 R (.tuple #[.int .u64 u, .int .i64 ab]) cp))))
 else
 if nv = 26 then (
 ∃ y : Addr, d = some y ∧
 ((0 : Int) ≤ 0 ∧ 0 < (allN : Int)) ∧
 ∃ ay : Option Addr, ∃ ao : Nat, ∃ au : Nat, hat H13 (y.add (Int.toNat 0 * 1)) = some (.slice ay ao au) ∧
 texts_chars.C ay ao au H13 (fun bx cl => ∃ bh : Option Addr, ∃ a7 : Nat, ∃ a9 : Nat, bx = .slice bh a7 a9 ∧ 
 texts_row.C hv bh a7 a9 cl (fun b8 cb => ∃ a0 : Int, ∃ aw : Int, b8 = .tuple #[.int .u64 a0, .int .i64 aw] ∧ 
 R (.tuple #[.int .u64 a0, .int .i64 aw]) cb)))
 else
 if nv = 28 then (
 ∃ z : Addr, d = some z ∧
 ((0 : Int) ≤ 0 ∧ 0 < (allN : Int)) ∧
 ∃ al : Option Addr, ∃ a3 : Nat, ∃ bf : Nat, hat H13 (z.add (Int.toNat 0 * 1)) = some (.slice al a3 bf) ∧
 ∃ rs : List Int, (SrcAt H13 al (rs.map (Value.int .i32)) ∧ (al ≠ none → rs.length = a3)) ∧
 syms_Intern.C hv (runesStr rs) H13 (fun b0 cc => ∃ a1 : Int, ∃ a4 : Int, b0 = .tuple #[.int .u64 a1, .int .i64 a4] ∧ 
 R (.tuple #[.int .u64 a1, .int .i64 a4]) cc))
 else
 slices_Concat_rune_rune.C d allN allC H13 (fun b1 cj => ∃ be : Option Addr, ∃ bb : Nat, ∃ bg : Nat, b1 = .slice be bb bg ∧ 
 texts_made.C hv be bb bg cj (fun b2 co => ∃ az : Int, ∃ am : Int, b2 = .tuple #[.int .u64 az, .int .i64 am] ∧ 
 R (.tuple #[.int .u64 az, .int .i64 am]) co))
namespace texts_ofText
set_option maxRecDepth 100000 in
theorem link {hv : Option Addr} {nv : Int} {argsB : Option Addr} {argsN : Nat} {argsC : Nat} {H : Array Obj} {R : Value → Array Obj → Prop} (h : pt hv nv argsB argsN argsC H R) : C hv nv argsB argsN argsC H R := by
 refine S_enter (fn := Tryz.f71) (c := kk0) 140 Tryz.func71 (by kernel_rfl) (by kernel_rfl) (Nat.le_of_ble_eq_true (by kernel_rfl)) ?_
 intro w0 Q hQ
 unfold pt at h
 refine T_su [(0, vp hv), (1, vi nv), (2, vs argsB argsN argsC)] ?_
 refine T_sr 0 kk1 kk2 ?_
 refine T_ne 2 [(0, vp hv), (1, vi nv), (2, vs argsB argsN argsC)] ?_
 refine T_sr 1 kk3 kk4 ?_
 refine T_ne 1 [(0, vp hv), (1, vi nv), (2, vs argsB argsN argsC), (8, vs none 0 0)] ?_
 refine T_s kk5 kk6 ?_
 refine T_sr 2 kk7 kk8 ?_
 refine T_ne 3 [(0, vp hv), (1, vi nv), (2, vs argsB argsN argsC), (8, vs none 0 0), (14, vs argsB argsN argsC), (15, vi argsN), (16, vi 0)] ?_
 refine T_b 0 kk9 ?_
 obtain ⟨bl, m11, i1, i2⟩ := h
 refine S_loop (x := kk10) (σ := (Option Addr) × Nat × Nat × Int) (fun s_ => [(0, vp hv), (1, vi nv), (2, vs argsB argsN argsC), (8, vs s_.1 s_.2.1 s_.2.2.1), (14, vs argsB argsN argsC), (15, vi argsN), (16, vi s_.2.2.2)]) (fun s_ H => bl s_.1 s_.2.1 s_.2.2.1 s_.2.2.2 H) (fun s_ H => m11 s_.1 s_.2.1 s_.2.2.1 s_.2.2.2 H) ((none, 0, 0, 0) : (Option Addr) × Nat × Nat × Int) (by kernel_rfl) i1 sk ?_
 rintro ⟨d, allN, allC, s16⟩ H1 i3
 have h := i2 d allN allC s16 H1 i3
 refine T_su [(0, vp hv), (1, vi nv), (2, vs argsB argsN argsC), (8, vs d allN allC), (14, vs argsB argsN argsC), (15, vi argsN), (16, vi s16)] ?_
 refine T_sr 3 kk11 kk12 ?_
 refine T_ne 1 [(0, vp hv), (1, vi nv), (2, vs argsB argsN argsC), (8, vs d allN allC), (14, vs argsB argsN argsC), (15, vi argsN), (16, vi s16), (17, .bool (decide (s16 < (argsN : Int))))] ?_
 refine T_s kk13 kk14 ?_
 by_cases c4 : s16 < (argsN : Int)
 ·rw [if_pos c4] at h
  have b5 : (decide (s16 < (argsN : Int))) = true := decide_eq_true c4
  refine S_env [(0, vp hv), (1, vi nv), (2, vs argsB argsN argsC), (8, vs d allN allC), (14, vs argsB argsN argsC), (15, vi argsN), (16, vi s16), (17, .bool true)] (by simp only [b5, Bool.not_true, Bool.not_false]) ?_
  clear b5
  refine T_t 17 kk15 kk16 ?_
  refine T_kt ?_
  refine T_s kk17 kk18 ?_
  refine T_b 1 kk19 ?_
  refine T_sr 4 kk20 kk21 ?_
  refine T_nu [(0, vp hv), (1, vi nv), (2, vs argsB argsN argsC), (8, vs d allN allC), (14, vs argsB argsN argsC), (15, vi argsN), (16, vi s16)] ?_
  obtain ⟨g, rfl, h⟩ := h
  obtain ⟨q6, h⟩ := h
  refine T_ix (some 18) 43 35 1 g argsN argsC .i64 s16 Tryz.underlying43 q6.1 q6.2 [(0, vp hv), (1, vi nv), (2, vs (some g) argsN argsC), (8, vs d allN allC), (14, vs (some g) argsN argsC), (15, vi argsN), (16, vi s16), (18, vp (some (g.add (Int.toNat s16 * 1))))] ?_
  obtain ⟨x, q7, h⟩ := h
  refine T_l (some 19) 35 q7 [(0, vp hv), (1, vi nv), (2, vs (some g) argsN argsC), (8, vs d allN allC), (14, vs (some g) argsN argsC), (15, vi argsN), (16, vi s16), (19, vu x)] ?_
  refine T_ne 1 [(0, vp hv), (1, vi nv), (2, vs (some g) argsN argsC), (8, vs d allN allC), (10, vu x), (14, vs (some g) argsN argsC), (15, vi argsN), (16, vi s16)] ?_
  refine T_sr 5 kk22 kk23 ?_
  refine T_n 2 [(0, vp hv), (1, vi nv), (2, vs (some g) argsN argsC), (8, vs d allN allC), (10, vu x), (14, vs (some g) argsN argsC), (15, vi argsN), (16, vi s16), (20, vp hv), (21, vu x)] ?_
  refine N_call (some 22) 57 #[vp hv, vu x, vi 2] (fun _=>by kernel_rfl) h ?_; clear h
  rintro v H2 ⟨bd, rfl, h⟩
  refine ⟨[(0, vp hv), (1, vi nv), (2, vs (some g) argsN argsC), (8, vs d allN allC), (10, vu x), (14, vs (some g) argsN argsC), (15, vi argsN), (16, vi s16), (22, .bool bd)], pk, ?_⟩
  refine T_e ?_
  by_cases c8 : bd = true
  ·rw [if_pos c8] at h
   have b9 : bd = true := c8
   refine S_env [(0, vp hv), (1, vi nv), (2, vs (some g) argsN argsC), (8, vs d allN allC), (10, vu x), (14, vs (some g) argsN argsC), (15, vi argsN), (16, vi s16), (22, .bool true)] (by simp only [b9, Bool.not_true, Bool.not_false]) ?_
   clear b9
   refine T_t 22 kk24 kk25 ?_
   refine T_r 6 kk24 ?_
   refine T_n 3 [(0, vp hv), (1, vi nv), (2, vs (some g) argsN argsC), (14, vs (some g) argsN argsC), (15, vi argsN), (16, vi s16), (23, vs d allN allC), (24, vp hv), (25, vu x)] ?_
   refine N_call (some 26) 120 #[vp hv, vu x] (fun _=>by kernel_rfl) h ?_; clear h
   rintro bn H3 ⟨-, h⟩
   refine ⟨[(0, vp hv), (1, vi nv), (2, vs (some g) argsN argsC), (14, vs (some g) argsN argsC), (15, vi argsN), (16, vi s16), (23, vs d allN allC), (26, bn)], pk, ?_⟩
   refine N_call (some 27) 119 #[bn] (fun _=>by kernel_rfl) h ?_; clear h
   rintro ce H4 ⟨xB, xN, xC, rfl, h⟩
   refine ⟨[(0, vp hv), (1, vi nv), (2, vs (some g) argsN argsC), (14, vs (some g) argsN argsC), (15, vi argsN), (16, vi s16), (23, vs d allN allC), (27, vs xB xN xC)], pk, ?_⟩
   refine N_new (some 28) (fun b => vs (pa b) 1 1) (.cells #[vs xB xN xC] 65) (fun _=>by kernel_rfl) ?_
   intro b H5 e10 e11
   replace h := h b H5 e10 e11
   refine ⟨[(0, vp hv), (1, vi nv), (2, vs (some g) argsN argsC), (14, vs (some g) argsN argsC), (15, vi argsN), (16, vi s16), (23, vs d allN allC), (28, vs (pa b) 1 1)], pk, ?_⟩
   refine N_op (some 29) (appendN #[134, 134] 134 #[vs d allN allC, vs (pa b) 1 1]) _ (fun _=>by kernel_rfl) (ss_append (T := 65) (sz := 1) (bytes := 24) (zero := (vs none 0 0 : Value)) Tryz.underlying134 Tryz.underlying134 rfl (show Tryz.prog.info? 65 = some Tryz.t65 from by kernel_rfl) (by kernel_rfl) (by kernel_rfl) (by decide) (by kernel_rfl) (by first | exact h | (simpa only [Value.cells, List.toList_toArray] using h))) ?_; clear h
   rintro _ H6 ⟨ap, bc, rfl, h⟩
   refine ⟨[(0, vp hv), (1, vi nv), (2, vs (some g) argsN argsC), (14, vs (some g) argsN argsC), (15, vi argsN), (16, vi s16), (29, vs ap (allN + 1) bc)], pk, ?_⟩
   refine T_n 1 [(0, vp hv), (1, vi nv), (2, vs (some g) argsN argsC), (8, vs ap (allN + 1) bc), (14, vs (some g) argsN argsC), (15, vi argsN), (16, vi s16)] ?_
   refine N_end (by kernel_rfl) ?_
   refine S_blockEnd ?_
   refine S_then ?_
   refine T_r 7 kk18 ?_
   refine T_ne 2 [(0, vp hv), (1, vi nv), (2, vs (some g) argsN argsC), (8, vs ap (allN + 1) bc), (14, vs (some g) argsN argsC), (15, vi argsN), (16, vi (IntKind.wrap .i64 (s16 + 1)))] ?_
   exact S_round ((ap, (allN + 1), bc, (IntKind.wrap .i64 (s16 + 1))) : (Option Addr) × Nat × Nat × Int) sk h
  ·rw [if_neg c8] at h
   have b9 : bd = false := eq_false_of_ne_true c8
   refine S_env [(0, vp hv), (1, vi nv), (2, vs (some g) argsN argsC), (8, vs d allN allC), (10, vu x), (14, vs (some g) argsN argsC), (15, vi argsN), (16, vi s16), (22, .bool false)] (by simp only [b9, Bool.not_true, Bool.not_false]) ?_
   clear b9
   refine T_f 22 kk24 kk25 ?_
   refine T_k ?_
   refine S_blockEnd ?_
   refine S_then ?_
   refine T_r 7 kk18 ?_
   refine T_ne 2 [(0, vp hv), (1, vi nv), (2, vs (some g) argsN argsC), (8, vs d allN allC), (14, vs (some g) argsN argsC), (15, vi argsN), (16, vi (IntKind.wrap .i64 (s16 + 1)))] ?_
   exact S_round ((d, allN, allC, (IntKind.wrap .i64 (s16 + 1))) : (Option Addr) × Nat × Nat × Int) sk h
 ·rw [if_neg c4] at h
  have b5 : (decide (s16 < (argsN : Int))) = false := decide_eq_false c4
  refine S_env [(0, vp hv), (1, vi nv), (2, vs argsB argsN argsC), (8, vs d allN allC), (14, vs argsB argsN argsC), (15, vi argsN), (16, vi s16), (17, .bool false)] (by simp only [b5, Bool.not_true, Bool.not_false]) ?_
  clear b5
  refine T_f 17 kk15 kk16 ?_
  refine S_exit 0 (by kernel_rfl) ?_
  refine S_exitThen ?_
  refine S_exitThen ?_
  refine S_exitHere ?_
  refine S_then ?_
  refine T_s kk26 kk27 ?_
  refine T_sr 8 kk28 kk29 ?_
  refine T_ne 1 [(0, vp hv), (1, vi nv), (2, vs argsB argsN argsC), (8, vs d allN allC), (31, vi nv)] ?_
  refine T_b 2 kk30 ?_
  refine T_sr 9 kk31 kk32 ?_
  refine T_ne 2 [(0, vp hv), (1, vi nv), (2, vs argsB argsN argsC), (8, vs d allN allC), (31, vi nv), (32, .bool (nv == 17))] ?_
  by_cases c12 : nv = 17
  ·rw [if_pos c12] at h
   have b13 : (nv == 17) = true := beq_iff_eq.mpr c12
   refine S_env [(0, vp hv), (1, vi nv), (2, vs argsB argsN argsC), (8, vs d allN allC), (31, vi nv), (32, .bool true)] (by simp only [b13, Bool.not_true, Bool.not_false]) ?_
   clear b13
   refine T_t 32 kk33 kk34 ?_
   refine T_sr 10 kk35 kk36 ?_
   refine T_n 1 [(34, vs d allN allC)] ?_
   obtain ⟨ac, rfl, h⟩ := h
   obtain ⟨q14, h⟩ := h
   refine T_ix (some 35) 134 65 1 ac allN allC .i64 0 Tryz.underlying134 q14.1 q14.2 [(35, vp (some (ac.add (Int.toNat 0 * 1))))] ?_
   obtain ⟨bp, ak, br, q15, h⟩ := h
   refine T_l (some 36) 65 q15 [(36, vs bp ak br)] ?_
   refine T_n 1 [(37, vi ak)] ?_
   refine N_call (some 38) 82 #[vi ak] (fun _=>by kernel_rfl) h ?_; clear h
   rintro cd H7 ⟨ra, rb, rfl, h⟩
   refine ⟨[(38, .tuple #[vu ra, vi rb])], pk, ?_⟩
   refine T_ne 4 [(6, vu ra), (7, vi rb)] ?_
   refine S_ret (by kernel_rfl) ?_
   show At _ _ _ _ _ (Q .ret)
   exact S_done (fn := Tryz.f71) [vu ra, vi rb] hQ (show ResOK _ _ _ [.tmp 6, .tmp 7] _ from .tmp (by kernel_rfl) (.tmp (by kernel_rfl) (.nil))) h
  ·rw [if_neg c12] at h
   have b13 : (nv == 17) = false := beq_eq_false_iff_ne.mpr c12
   refine S_env [(0, vp hv), (1, vi nv), (2, vs argsB argsN argsC), (8, vs d allN allC), (31, vi nv), (32, .bool false)] (by simp only [b13, Bool.not_true, Bool.not_false]) ?_
   clear b13
   refine T_f 32 kk33 kk34 ?_
   refine T_sr 11 kk37 kk38 ?_
   refine T_ne 2 [(0, vp hv), (1, vi nv), (2, vs argsB argsN argsC), (8, vs d allN allC), (31, vi nv), (41, .bool (nv == 18))] ?_
   by_cases c16 : nv = 18
   ·rw [if_pos c16] at h
    have b17 : (nv == 18) = true := beq_iff_eq.mpr c16
    refine S_env [(0, vp hv), (1, vi nv), (2, vs argsB argsN argsC), (8, vs d allN allC), (31, vi nv), (41, .bool true)] (by simp only [b17, Bool.not_true, Bool.not_false]) ?_
    clear b17
    refine T_t 41 kk39 kk40 ?_
    refine T_s kk41 kk42 ?_
    refine T_sr 12 kk43 kk44 ?_
    refine T_n 1 [(8, vs d allN allC), (43, vs argsB argsN argsC)] ?_
    obtain ⟨q, rfl, h⟩ := h
    obtain ⟨q18, h⟩ := h
    refine T_ix (some 44) 43 35 1 q argsN argsC .i64 1 Tryz.underlying43 q18.1 q18.2 [(8, vs d allN allC), (44, vp (some (q.add (Int.toNat 1 * 1))))] ?_
    obtain ⟨bk, q19, h⟩ := h
    refine T_l (some 45) 35 q19 [(8, vs d allN allC), (45, vu bk)] ?_
    refine N_call (some 46) 114 #[vu bk] (fun _=>by kernel_rfl) h ?_; clear h
    rintro cg H8 ⟨l, rfl, h⟩
    refine ⟨[(8, vs d allN allC), (46, vi l)], pk, ?_⟩
    refine T_ne 1 [(8, vs d allN allC), (11, vi l)] ?_
    refine T_sr 13 kk45 kk46 ?_
    refine T_n 3 [(8, vs d allN allC), (11, vi l), (49, .bool (decide (l ≥ 0)))] ?_
    by_cases c20 : l ≥ 0
    ·rw [if_pos c20] at h
     have b21 : (decide (l ≥ 0)) = true := decide_eq_true c20
     refine N_env [(8, vs d allN allC), (11, vi l), (49, .bool true)] (by simp only [b21, Bool.not_true, Bool.not_false]) ?_
     clear b21
     refine T_n 2 [(8, vs d allN allC), (11, vi l), (49, .bool true), (50, vi l), (51, vs d allN allC)] ?_
     obtain ⟨j, rfl, h⟩ := h
     obtain ⟨q22, h⟩ := h
     refine T_ix (some 52) 134 65 1 j allN allC .i64 0 Tryz.underlying134 q22.1 q22.2 [(8, vs (some j) allN allC), (11, vi l), (49, .bool true), (50, vi l), (52, vp (some (j.add (Int.toNat 0 * 1))))] ?_
     obtain ⟨bq, af, bo, q23, h⟩ := h
     refine T_l (some 53) 65 q23 [(8, vs (some j) allN allC), (11, vi l), (49, .bool true), (50, vi l), (53, vs bq af bo)] ?_
     refine T_ne 3 [(8, vs (some j) allN allC), (11, vi l), (56, .bool (decide (l < (af : Int))))] ?_
     by_cases c24 : l < (af : Int)
     ·rw [if_pos c24] at h
      have b25 : (decide (l < (af : Int))) = true := decide_eq_true c24
      refine S_env [(8, vs (some j) allN allC), (11, vi l), (56, .bool true)] (by simp only [b25, Bool.not_true, Bool.not_false]) ?_
      clear b25
      refine T_t 56 kk47 kk48 ?_
      refine T_sr 14 kk49 kk50 ?_
      refine T_n 1 [(11, vi l), (57, vs (some j) allN allC)] ?_
      obtain ⟨q26, h⟩ := h
      refine T_ix (some 58) 134 65 1 j allN allC .i64 0 Tryz.underlying134 q26.1 q26.2 [(11, vi l), (58, vp (some (j.add (Int.toNat 0 * 1))))] ?_
      obtain ⟨ax, ai, aj, q27, h⟩ := h
      refine T_l (some 59) 65 q27 [(11, vi l), (59, vs ax ai aj)] ?_
      refine T_n 1 [(59, vs ax ai aj), (60, vi l)] ?_
      obtain ⟨ah, rfl, h⟩ := h
      obtain ⟨q28, h⟩ := h
      refine T_ix (some 61) 65 21 1 ah ai aj .i64 l Tryz.underlying65 q28.1 q28.2 [(61, vp (some (ah.add (Int.toNat l * 1))))] ?_
      obtain ⟨bj, q29, h⟩ := h
      refine T_l (some 62) 21 q29 [(62, .int .i32 bj)] ?_
      refine N_call (some 63) 38 #[.int .i32 bj] (fun _=>by kernel_rfl) h ?_; clear h
      rintro cm H9 ⟨av, ar, rfl, h⟩
      refine ⟨[(63, .tuple #[vu av, vi ar])], pk, ?_⟩
      refine T_ne 4 [(6, vu av), (7, vi ar)] ?_
      refine S_ret (by kernel_rfl) ?_
      show At _ _ _ _ _ (Q .ret)
      exact S_done (fn := Tryz.f71) [vu av, vi ar] hQ (show ResOK _ _ _ [.tmp 6, .tmp 7] _ from .tmp (by kernel_rfl) (.tmp (by kernel_rfl) (.nil))) h
     ·rw [if_neg c24] at h
      have b25 : (decide (l < (af : Int))) = false := decide_eq_false c24
      refine S_env [(8, vs (some j) allN allC), (11, vi l), (56, .bool false)] (by simp only [b25, Bool.not_true, Bool.not_false]) ?_
      clear b25
      refine T_f 56 kk47 kk48 ?_
      refine T_kt ?_
      refine T_sr 15 kk51 kk52 ?_
      refine T_ne 2 [(6, vu 0), (7, vi 4)] ?_
      refine S_ret (by kernel_rfl) ?_
      show At _ _ _ _ _ (Q .ret)
      exact S_done (fn := Tryz.f71) [vu 0, vi 4] hQ (show ResOK _ _ _ [.tmp 6, .tmp 7] _ from .tmp (by kernel_rfl) (.tmp (by kernel_rfl) (.nil))) h
    ·rw [if_neg c20] at h
     have b21 : (decide (l ≥ 0)) = false := decide_eq_false c20
     refine N_env [(8, vs d allN allC), (11, vi l), (49, .bool false)] (by simp only [b21, Bool.not_true, Bool.not_false]) ?_
     clear b21
     refine T_ne 7 [(8, vs d allN allC), (11, vi l), (56, .bool false)] ?_
     refine T_f 56 kk47 kk48 ?_
     refine T_kt ?_
     refine T_sr 15 kk51 kk52 ?_
     refine T_ne 2 [(6, vu 0), (7, vi 4)] ?_
     refine S_ret (by kernel_rfl) ?_
     show At _ _ _ _ _ (Q .ret)
     exact S_done (fn := Tryz.f71) [vu 0, vi 4] hQ (show ResOK _ _ _ [.tmp 6, .tmp 7] _ from .tmp (by kernel_rfl) (.tmp (by kernel_rfl) (.nil))) h
   ·rw [if_neg c16] at h
    have b17 : (nv == 18) = false := beq_eq_false_iff_ne.mpr c16
    refine S_env [(0, vp hv), (1, vi nv), (2, vs argsB argsN argsC), (8, vs d allN allC), (31, vi nv), (41, .bool false)] (by simp only [b17, Bool.not_true, Bool.not_false]) ?_
    clear b17
    refine T_f 41 kk39 kk40 ?_
    refine T_sr 16 kk53 kk54 ?_
    refine T_ne 2 [(0, vp hv), (1, vi nv), (2, vs argsB argsN argsC), (8, vs d allN allC), (31, vi nv), (66, .bool (nv == 19))] ?_
    by_cases c30 : nv = 19
    ·rw [if_pos c30] at h
     have b31 : (nv == 19) = true := beq_iff_eq.mpr c30
     refine S_env [(0, vp hv), (1, vi nv), (2, vs argsB argsN argsC), (8, vs d allN allC), (31, vi nv), (66, .bool true)] (by simp only [b31, Bool.not_true, Bool.not_false]) ?_
     clear b31
     refine T_t 66 kk55 kk56 ?_
     refine T_sr 17 kk57 kk58 ?_
     refine T_n 1 [(0, vp hv), (2, vs argsB argsN argsC), (69, vs argsB argsN argsC)] ?_
     obtain ⟨e, rfl, h⟩ := h
     obtain ⟨q32, h⟩ := h
     refine T_ix (some 70) 43 35 1 e argsN argsC .i64 2 Tryz.underlying43 q32.1 q32.2 [(0, vp hv), (2, vs (some e) argsN argsC), (70, vp (some (e.add (Int.toNat 2 * 1))))] ?_
     obtain ⟨bm, q33, h⟩ := h
     refine T_l (some 71) 35 q33 [(0, vp hv), (2, vs (some e) argsN argsC), (71, vu bm)] ?_
     refine N_call (some 72) 110 #[vu bm] (fun _=>by kernel_rfl) h ?_; clear h
     rintro ci bt ⟨n, bs, rfl, h⟩
     refine ⟨[(0, vp hv), (2, vs (some e) argsN argsC), (72, .tuple #[.int .i32 n, .bool bs])], pk, ?_⟩
     refine T_ne 5 [(0, vp hv), (2, vs (some e) argsN argsC), (12, .int .i32 n)] ?_
     refine T_s kk59 kk60 ?_
     obtain ⟨q34, h⟩ := h
     obtain ⟨ae, q35, h⟩ := h
     obtain ⟨q36, h⟩ := h
     obtain ⟨a6, q37, h⟩ := h
     refine S_regionG 18 (Code.ops kk59) [(9, (e.add (Int.toNat 0 * 1)), [vu ae]), (7, (e.add (Int.toNat 1 * 1)), [vu a6])] 14 #[false, false, false, false, false, false, false, false, false, false, false, false, false, false] (by kernel_rfl) (by kernel_rfl) (by kernel_rfl) (by kernel_rfl) (by kernel_rfl) (show FactsAt _ _ _ from ⟨⟨q35, trivial⟩, ⟨q37, trivial⟩, trivial⟩) ?_
     refine T_gp 0 (some 75) (vp hv) #[true, false, false, false, false, false, false, false, false, false, false, false, false, false] [(2, vs (some e) argsN argsC), (12, .int .i32 n), (75, vp hv)] ?_
     refine T_gp 1 (some 76) (vs (some e) argsN argsC) #[true, true, false, false, false, false, false, false, false, false, false, false, false, false] [(2, vs (some e) argsN argsC), (12, .int .i32 n), (75, vp hv), (76, vs (some e) argsN argsC)] ?_
     refine T_g 2 (some 77) (vp (some (e.add (Int.toNat 0 * 1)))) #[true, true, true, false, false, false, false, false, false, false, false, false, false, false] [(2, vs (some e) argsN argsC), (12, .int .i32 n), (75, vp hv), (77, vp (some (e.add (Int.toNat 0 * 1))))] (indexAtN 43 (vs (some e) argsN argsC) (vi 0)) (fun _ w _ _ _ => indexAt_run (P := Tryz.prog) (t := 43) (elem := 35) (sz := 1) (a := e) (len := argsN) (cap := argsC) (k := .i64) (i := 0) Tryz.underlying43 (fun _=>by kernel_rfl) q34.1 q34.2 w) ?_
     refine T_g 3 (some 78) (vu ae) #[true, true, true, true, false, false, false, false, false, false, false, false, false, false] [(2, vs (some e) argsN argsC), (12, .int .i32 n), (75, vp hv), (78, vu ae)] (loadN 35 (vp (some (e.add (Int.toNat 0 * 1))))) (held_one 9 (fun _=>by kernel_rfl) (List.Mem.head _) (.inl (by kernel_rfl))) ?_
     refine T_gp 4 (some 79) (vs (some e) argsN argsC) #[true, true, true, true, true, false, false, false, false, false, false, false, false, false] [(12, .int .i32 n), (75, vp hv), (78, vu ae), (79, vs (some e) argsN argsC)] ?_
     refine T_g 5 (some 80) (vp (some (e.add (Int.toNat 1 * 1)))) #[true, true, true, true, true, true, false, false, false, false, false, false, false, false] [(12, .int .i32 n), (75, vp hv), (78, vu ae), (80, vp (some (e.add (Int.toNat 1 * 1))))] (indexAtN 43 (vs (some e) argsN argsC) (vi 1)) (fun _ w _ _ _ => indexAt_run (P := Tryz.prog) (t := 43) (elem := 35) (sz := 1) (a := e) (len := argsN) (cap := argsC) (k := .i64) (i := 1) Tryz.underlying43 (fun _=>by kernel_rfl) q36.1 q36.2 w) ?_
     refine T_g 6 (some 81) (vu a6) #[true, true, true, true, true, true, true, false, false, false, false, false, false, false] [(12, .int .i32 n), (75, vp hv), (78, vu ae), (81, vu a6)] (loadN 35 (vp (some (e.add (Int.toNat 1 * 1))))) (held_one 7 (fun _=>by kernel_rfl) (List.Mem.tail _ (List.Mem.head _)) (.inl (by kernel_rfl))) ?_
     refine T_gp 8 (some 83) (.int .i32 n) #[true, true, true, true, true, true, true, false, true, false, false, false, false, false] [(75, vp hv), (78, vu ae), (81, vu a6), (83, .int .i32 n)] ?_
     refine G_call 7 (some 82) #[true, true, true, true, true, true, true, true, true, false, false, false, false, false] 114 #[vu a6] (by kernel_rfl) (fun _=>by kernel_rfl) h (by kernel_rfl) ?_; clear h
     rintro cf b4 ⟨ba, rfl, h⟩
     obtain ⟨f38, h⟩ := h
     refine ⟨[(75, vp hv), (78, vu ae), (82, vi ba), (83, .int .i32 n)], pk, (show FactsAt _ _ _ from ⟨f38, trivial, trivial⟩), ?_⟩
     refine G_call 9 (some 84) #[true, true, true, true, true, true, true, true, true, true, false, false, false, false] 121 #[vp hv, vu ae, vi ba, .int .i32 n] (by kernel_rfl) (fun _=>by kernel_rfl) h (by kernel_rfl) ?_; clear h
     rintro ca cn ⟨s, aa, rfl, h⟩
     refine ⟨[(84, .tuple #[vu s, vi aa])], pk, (show FactsAt _ _ _ from ⟨trivial, trivial, trivial⟩), ?_⟩
     refine T_g 10 (some 85) (vu s) #[true, true, true, true, true, true, true, true, true, true, true, false, false, false] [(84, .tuple #[vu s, vi aa]), (85, vu s)] (pure (.value (vu s)) : Sem Next) (fun _ _ _ _ _ => rfl) ?_
     refine T_g 11 (some 86) (vi aa) #[true, true, true, true, true, true, true, true, true, true, true, true, false, false] [(85, vu s), (86, vi aa)] (pure (.value (vi aa)) : Sem Next) (fun _ _ _ _ _ => rfl) ?_
     refine T_g 12 (some 6) (vu s) #[true, true, true, true, true, true, true, true, true, true, true, true, true, false] [(6, vu s), (86, vi aa)] (pure (.value (vu s)) : Sem Next) (fun _ _ _ _ _ => rfl) ?_
     refine T_g 13 (some 7) (vi aa) #[true, true, true, true, true, true, true, true, true, true, true, true, true, true] [(6, vu s), (7, vi aa)] (pure (.value (vi aa)) : Sem Next) (fun _ _ _ _ _ => rfl) ?_
     refine G_sub [(6, vu s), (7, vi aa)] sk ?_
     refine G_end (by kernel_rfl) ?_
     refine S_then ?_
     refine S_ret (by kernel_rfl) ?_
     show At _ _ _ _ _ (Q .ret)
     exact S_done (fn := Tryz.f71) [vu s, vi aa] hQ (show ResOK _ _ _ [.tmp 6, .tmp 7] _ from .tmp (by kernel_rfl) (.tmp (by kernel_rfl) (.nil))) h
    ·rw [if_neg c30] at h
     have b31 : (nv == 19) = false := beq_eq_false_iff_ne.mpr c30
     refine S_env [(0, vp hv), (1, vi nv), (2, vs argsB argsN argsC), (8, vs d allN allC), (31, vi nv), (66, .bool false)] (by simp only [b31, Bool.not_true, Bool.not_false]) ?_
     clear b31
     refine T_f 66 kk55 kk56 ?_
     refine T_s kk61 kk62 ?_
     refine T_sr 19 kk63 kk64 ?_
     refine T_ne 2 [(0, vp hv), (1, vi nv), (2, vs argsB argsN argsC), (8, vs d allN allC), (31, vi nv), (87, .bool (nv == 20))] ?_
     obtain ⟨J, h, j40⟩ := h
     refine S_join (σ := Bool) (fun s_ => [(0, vp hv), (1, vi nv), (2, vs argsB argsN argsC), (8, vs d allN allC), (31, vi nv), (87, .bool s_)]) (fun s_ H => J s_ H) ?_ ?_
     ·rintro a5 H13 j41
      replace h := j40 a5 H13 j41
      refine T_su [(0, vp hv), (1, vi nv), (2, vs argsB argsN argsC), (8, vs d allN allC), (31, vi nv), (87, .bool a5)] ?_
      refine S_then ?_
      by_cases c42 : a5 = true
      ·rw [if_pos c42] at h
       have b43 : a5 = true := c42
       refine S_env [(0, vp hv), (1, vi nv), (2, vs argsB argsN argsC), (8, vs d allN allC), (31, vi nv), (87, .bool true)] (by simp only [b43, Bool.not_true, Bool.not_false]) ?_
       clear b43
       refine T_t 87 kk67 kk68 ?_
       refine T_sr 22 kk69 kk70 ?_
       refine T_n 2 [(91, vi nv), (92, vs d allN allC)] ?_
       refine N_call (some 93) 63 #[vi nv, vs d allN allC] (fun _=>by kernel_rfl) h ?_; clear h
       rintro bw ck ⟨bi, rfl, h⟩
       refine ⟨[(93, .bool bi)], pk, ?_⟩
       refine N_call (some 94) 62 #[.bool bi] (fun _=>by kernel_rfl) h ?_; clear h
       rintro bv ch ⟨a2, an, rfl, h⟩
       refine ⟨[(94, .tuple #[vu a2, vi an])], pk, ?_⟩
       refine T_ne 4 [(6, vu a2), (7, vi an)] ?_
       refine S_ret (by kernel_rfl) ?_
       show At _ _ _ _ _ (Q .ret)
       exact S_done (fn := Tryz.f71) [vu a2, vi an] hQ (show ResOK _ _ _ [.tmp 6, .tmp 7] _ from .tmp (by kernel_rfl) (.tmp (by kernel_rfl) (.nil))) h
      ·rw [if_neg c42] at h
       have b43 : a5 = false := eq_false_of_ne_true c42
       refine S_env [(0, vp hv), (1, vi nv), (2, vs argsB argsN argsC), (8, vs d allN allC), (31, vi nv), (87, .bool false)] (by simp only [b43, Bool.not_true, Bool.not_false]) ?_
       clear b43
       refine T_f 87 kk67 kk68 ?_
       refine T_sr 23 kk71 kk72 ?_
       refine T_ne 2 [(0, vp hv), (2, vs argsB argsN argsC), (8, vs d allN allC), (31, vi nv), (97, .bool (nv == 23))] ?_
       by_cases c44 : nv = 23
       ·rw [if_pos c44] at h
        have b45 : (nv == 23) = true := beq_iff_eq.mpr c44
        refine S_env [(0, vp hv), (2, vs argsB argsN argsC), (8, vs d allN allC), (31, vi nv), (97, .bool true)] (by simp only [b45, Bool.not_true, Bool.not_false]) ?_
        clear b45
        refine T_t 97 kk73 kk74 ?_
        refine T_s kk75 kk76 ?_
        obtain ⟨m, rfl, h⟩ := h
        obtain ⟨q46, h⟩ := h
        obtain ⟨r, o, p, q47, h⟩ := h
        obtain ⟨f, rfl, h⟩ := h
        obtain ⟨q48, h⟩ := h
        obtain ⟨ad, q49, h⟩ := h
        obtain ⟨q50, h⟩ := h
        obtain ⟨ag, q51, h⟩ := h
        refine S_regionG 24 (Code.ops kk75) [(12, (m.add (Int.toNat 0 * 1)), [vs r o p]), (7, (f.add (Int.toNat 1 * 1)), [vu ad]), (11, (f.add (Int.toNat 2 * 1)), [vu ag])] 17 #[false, false, false, false, false, false, false, false, false, false, false, false, false, false, false, false, false] (by kernel_rfl) (by kernel_rfl) (by kernel_rfl) (by kernel_rfl) (by kernel_rfl) (show FactsAt _ _ _ from ⟨⟨q47, trivial⟩, ⟨q49, trivial⟩, ⟨q51, trivial⟩, trivial⟩) ?_
        refine T_gp 0 (some 99) (vp hv) #[true, false, false, false, false, false, false, false, false, false, false, false, false, false, false, false, false] [(2, vs (some f) argsN argsC), (8, vs (some m) allN allC), (99, vp hv)] ?_
        refine T_gp 1 (some 100) (vs (some m) allN allC) #[true, true, false, false, false, false, false, false, false, false, false, false, false, false, false, false, false] [(2, vs (some f) argsN argsC), (99, vp hv), (100, vs (some m) allN allC)] ?_
        refine T_g 2 (some 101) (vp (some (m.add (Int.toNat 0 * 1)))) #[true, true, true, false, false, false, false, false, false, false, false, false, false, false, false, false, false] [(2, vs (some f) argsN argsC), (99, vp hv), (101, vp (some (m.add (Int.toNat 0 * 1))))] (indexAtN 134 (vs (some m) allN allC) (vi 0)) (fun _ w _ _ _ => indexAt_run (P := Tryz.prog) (t := 134) (elem := 65) (sz := 1) (a := m) (len := allN) (cap := allC) (k := .i64) (i := 0) Tryz.underlying134 (fun _=>by kernel_rfl) q46.1 q46.2 w) ?_
        refine T_g 3 (some 102) (vs r o p) #[true, true, true, true, false, false, false, false, false, false, false, false, false, false, false, false, false] [(2, vs (some f) argsN argsC), (99, vp hv), (102, vs r o p)] (loadN 65 (vp (some (m.add (Int.toNat 0 * 1))))) (held_one 12 (fun _=>by kernel_rfl) (List.Mem.head _) (.inl (by kernel_rfl))) ?_
        refine T_gp 4 (some 103) (vs (some f) argsN argsC) #[true, true, true, true, true, false, false, false, false, false, false, false, false, false, false, false, false] [(2, vs (some f) argsN argsC), (99, vp hv), (102, vs r o p), (103, vs (some f) argsN argsC)] ?_
        refine T_g 5 (some 104) (vp (some (f.add (Int.toNat 1 * 1)))) #[true, true, true, true, true, true, false, false, false, false, false, false, false, false, false, false, false] [(2, vs (some f) argsN argsC), (99, vp hv), (102, vs r o p), (104, vp (some (f.add (Int.toNat 1 * 1))))] (indexAtN 43 (vs (some f) argsN argsC) (vi 1)) (fun _ w _ _ _ => indexAt_run (P := Tryz.prog) (t := 43) (elem := 35) (sz := 1) (a := f) (len := argsN) (cap := argsC) (k := .i64) (i := 1) Tryz.underlying43 (fun _=>by kernel_rfl) q48.1 q48.2 w) ?_
        refine T_g 6 (some 105) (vu ad) #[true, true, true, true, true, true, true, false, false, false, false, false, false, false, false, false, false] [(2, vs (some f) argsN argsC), (99, vp hv), (102, vs r o p), (105, vu ad)] (loadN 35 (vp (some (f.add (Int.toNat 1 * 1))))) (held_one 7 (fun _=>by kernel_rfl) (List.Mem.tail _ (List.Mem.head _)) (.inl (by kernel_rfl))) ?_
        refine T_gp 8 (some 107) (vs (some f) argsN argsC) #[true, true, true, true, true, true, true, false, true, false, false, false, false, false, false, false, false] [(99, vp hv), (102, vs r o p), (105, vu ad), (107, vs (some f) argsN argsC)] ?_
        refine T_g 9 (some 108) (vp (some (f.add (Int.toNat 2 * 1)))) #[true, true, true, true, true, true, true, false, true, true, false, false, false, false, false, false, false] [(99, vp hv), (102, vs r o p), (105, vu ad), (108, vp (some (f.add (Int.toNat 2 * 1))))] (indexAtN 43 (vs (some f) argsN argsC) (vi 2)) (fun _ w _ _ _ => indexAt_run (P := Tryz.prog) (t := 43) (elem := 35) (sz := 1) (a := f) (len := argsN) (cap := argsC) (k := .i64) (i := 2) Tryz.underlying43 (fun _=>by kernel_rfl) q50.1 q50.2 w) ?_
        refine T_g 10 (some 109) (vu ag) #[true, true, true, true, true, true, true, false, true, true, true, false, false, false, false, false, false] [(99, vp hv), (102, vs r o p), (105, vu ad), (109, vu ag)] (loadN 35 (vp (some (f.add (Int.toNat 2 * 1))))) (held_one 11 (fun _=>by kernel_rfl) (List.Mem.tail _ (List.Mem.tail _ (List.Mem.head _))) (.inl (by kernel_rfl))) ?_
        refine G_call 7 (some 106) #[true, true, true, true, true, true, true, true, true, true, true, false, false, false, false, false, false] 114 #[vu ad] (by kernel_rfl) (fun _=>by kernel_rfl) h (by kernel_rfl) ?_; clear h
        rintro b7 bu ⟨aq, rfl, h⟩
        obtain ⟨f52, f53, h⟩ := h
        refine ⟨[(99, vp hv), (102, vs r o p), (106, vi aq), (109, vu ag)], pk, (show FactsAt _ _ _ from ⟨f52, trivial, f53, trivial⟩), ?_⟩
        refine G_call 11 (some 110) #[true, true, true, true, true, true, true, true, true, true, true, true, false, false, false, false, false] 114 #[vu ag] (by kernel_rfl) (fun _=>by kernel_rfl) h (by kernel_rfl) ?_; clear h
        rintro b3 b6 ⟨a8, rfl, h⟩
        obtain ⟨f54, h⟩ := h
        refine ⟨[(99, vp hv), (102, vs r o p), (106, vi aq), (110, vi a8)], pk, (show FactsAt _ _ _ from ⟨f54, trivial, trivial, trivial⟩), ?_⟩
        refine G_call 12 (some 111) #[true, true, true, true, true, true, true, true, true, true, true, true, true, false, false, false, false] 122 #[vp hv, vs r o p, vi aq, vi a8] (by kernel_rfl) (fun _=>by kernel_rfl) h (by kernel_rfl) ?_; clear h
        rintro bz cp ⟨u, ab, rfl, h⟩
        refine ⟨[(111, .tuple #[vu u, vi ab])], pk, (show FactsAt _ _ _ from ⟨trivial, trivial, trivial, trivial⟩), ?_⟩
        refine T_g 13 (some 112) (vu u) #[true, true, true, true, true, true, true, true, true, true, true, true, true, true, false, false, false] [(111, .tuple #[vu u, vi ab]), (112, vu u)] (pure (.value (vu u)) : Sem Next) (fun _ _ _ _ _ => rfl) ?_
        refine T_g 14 (some 113) (vi ab) #[true, true, true, true, true, true, true, true, true, true, true, true, true, true, true, false, false] [(112, vu u), (113, vi ab)] (pure (.value (vi ab)) : Sem Next) (fun _ _ _ _ _ => rfl) ?_
        refine T_g 15 (some 6) (vu u) #[true, true, true, true, true, true, true, true, true, true, true, true, true, true, true, true, false] [(6, vu u), (113, vi ab)] (pure (.value (vu u)) : Sem Next) (fun _ _ _ _ _ => rfl) ?_
        refine T_g 16 (some 7) (vi ab) #[true, true, true, true, true, true, true, true, true, true, true, true, true, true, true, true, true] [(6, vu u), (7, vi ab)] (pure (.value (vi ab)) : Sem Next) (fun _ _ _ _ _ => rfl) ?_
        refine G_sub [(6, vu u), (7, vi ab)] sk ?_
        refine G_end (by kernel_rfl) ?_
        refine S_then ?_
        refine S_ret (by kernel_rfl) ?_
        show At _ _ _ _ _ (Q .ret)
        exact S_done (fn := Tryz.f71) [vu u, vi ab] hQ (show ResOK _ _ _ [.tmp 6, .tmp 7] _ from .tmp (by kernel_rfl) (.tmp (by kernel_rfl) (.nil))) h
       ·rw [if_neg c44] at h
        have b45 : (nv == 23) = false := beq_eq_false_iff_ne.mpr c44
        refine S_env [(0, vp hv), (2, vs argsB argsN argsC), (8, vs d allN allC), (31, vi nv), (97, .bool false)] (by simp only [b45, Bool.not_true, Bool.not_false]) ?_
        clear b45
        refine T_f 97 kk73 kk74 ?_
        refine T_sr 25 kk77 kk78 ?_
        refine T_ne 2 [(0, vp hv), (8, vs d allN allC), (31, vi nv), (114, .bool (nv == 26))] ?_
        by_cases c55 : nv = 26
        ·rw [if_pos c55] at h
         have b56 : (nv == 26) = true := beq_iff_eq.mpr c55
         refine S_env [(0, vp hv), (8, vs d allN allC), (31, vi nv), (114, .bool true)] (by simp only [b56, Bool.not_true, Bool.not_false]) ?_
         clear b56
         refine T_t 114 kk79 kk80 ?_
         refine T_sr 26 kk81 kk82 ?_
         refine T_n 2 [(116, vp hv), (117, vs d allN allC)] ?_
         obtain ⟨y, rfl, h⟩ := h
         obtain ⟨q57, h⟩ := h
         refine T_ix (some 118) 134 65 1 y allN allC .i64 0 Tryz.underlying134 q57.1 q57.2 [(116, vp hv), (118, vp (some (y.add (Int.toNat 0 * 1))))] ?_
         obtain ⟨ay, ao, au, q58, h⟩ := h
         refine T_l (some 119) 65 q58 [(116, vp hv), (119, vs ay ao au)] ?_
         refine N_call (some 120) 123 #[vs ay ao au] (fun _=>by kernel_rfl) h ?_; clear h
         rintro bx cl ⟨bh, a7, a9, rfl, h⟩
         refine ⟨[(116, vp hv), (120, vs bh a7 a9)], pk, ?_⟩
         refine N_call (some 121) 69 #[vp hv, vs bh a7 a9] (fun _=>by kernel_rfl) h ?_; clear h
         rintro b8 cb ⟨a0, aw, rfl, h⟩
         refine ⟨[(121, .tuple #[vu a0, vi aw])], pk, ?_⟩
         refine T_ne 4 [(6, vu a0), (7, vi aw)] ?_
         refine S_ret (by kernel_rfl) ?_
         show At _ _ _ _ _ (Q .ret)
         exact S_done (fn := Tryz.f71) [vu a0, vi aw] hQ (show ResOK _ _ _ [.tmp 6, .tmp 7] _ from .tmp (by kernel_rfl) (.tmp (by kernel_rfl) (.nil))) h
        ·rw [if_neg c55] at h
         have b56 : (nv == 26) = false := beq_eq_false_iff_ne.mpr c55
         refine S_env [(0, vp hv), (8, vs d allN allC), (31, vi nv), (114, .bool false)] (by simp only [b56, Bool.not_true, Bool.not_false]) ?_
         clear b56
         refine T_f 114 kk79 kk80 ?_
         refine T_sr 27 kk83 kk84 ?_
         refine T_ne 2 [(0, vp hv), (8, vs d allN allC), (124, .bool (nv == 28))] ?_
         by_cases c59 : nv = 28
         ·rw [if_pos c59] at h
          have b60 : (nv == 28) = true := beq_iff_eq.mpr c59
          refine S_env [(0, vp hv), (8, vs d allN allC), (124, .bool true)] (by simp only [b60, Bool.not_true, Bool.not_false]) ?_
          clear b60
          refine T_t 124 kk85 kk86 ?_
          refine T_sr 28 kk87 kk88 ?_
          refine T_n 2 [(126, vp hv), (127, vs d allN allC)] ?_
          obtain ⟨z, rfl, h⟩ := h
          obtain ⟨q61, h⟩ := h
          refine T_ix (some 128) 134 65 1 z allN allC .i64 0 Tryz.underlying134 q61.1 q61.2 [(126, vp hv), (128, vp (some (z.add (Int.toNat 0 * 1))))] ?_
          obtain ⟨al, a3, bf, q62, h⟩ := h
          refine T_l (some 129) 65 q62 [(126, vp hv), (129, vs al a3 bf)] ?_
          obtain ⟨rs, q63, h⟩ := h
          refine T_v (some 130) (convertN 65 9 (vs al a3 bf)) (.string (runesStr rs)) (fun w hw => convert_runes Tryz.underlying65 Tryz.underlying9 Tryz.underlying21 (by rw [hw]; exact q63.1) q63.2) [(126, vp hv), (130, .string (runesStr rs))] ?_
          refine N_call (some 131) 40 #[vp hv, .string (runesStr rs)] (fun _=>by kernel_rfl) h ?_; clear h
          rintro b0 cc ⟨a1, a4, rfl, h⟩
          refine ⟨[(131, .tuple #[vu a1, vi a4])], pk, ?_⟩
          refine T_ne 4 [(6, vu a1), (7, vi a4)] ?_
          refine S_ret (by kernel_rfl) ?_
          show At _ _ _ _ _ (Q .ret)
          exact S_done (fn := Tryz.f71) [vu a1, vi a4] hQ (show ResOK _ _ _ [.tmp 6, .tmp 7] _ from .tmp (by kernel_rfl) (.tmp (by kernel_rfl) (.nil))) h
         ·rw [if_neg c59] at h
          have b60 : (nv == 28) = false := beq_eq_false_iff_ne.mpr c59
          refine S_env [(0, vp hv), (8, vs d allN allC), (124, .bool false)] (by simp only [b60, Bool.not_true, Bool.not_false]) ?_
          clear b60
          refine T_f 124 kk85 kk86 ?_
          refine T_k ?_
          refine S_blockEnd ?_
          refine S_then ?_
          refine T_sr 29 kk89 kk90 ?_
          refine T_n 2 [(134, vp hv), (135, vs d allN allC)] ?_
          refine N_call (some 136) 124 #[vs d allN allC] (fun _=>by kernel_rfl) h ?_; clear h
          rintro b1 cj ⟨be, bb, bg, rfl, h⟩
          refine ⟨[(134, vp hv), (136, vs be bb bg)], pk, ?_⟩
          refine N_call (some 137) 65 #[vp hv, vs be bb bg] (fun _=>by kernel_rfl) h ?_; clear h
          rintro b2 co ⟨az, am, rfl, h⟩
          refine ⟨[(137, .tuple #[vu az, vi am])], pk, ?_⟩
          refine T_ne 4 [(6, vu az), (7, vi am)] ?_
          refine S_ret (by kernel_rfl) ?_
          show At _ _ _ _ _ (Q .ret)
          exact S_done (fn := Tryz.f71) [vu az, vi am] hQ (show ResOK _ _ _ [.tmp 6, .tmp 7] _ from .tmp (by kernel_rfl) (.tmp (by kernel_rfl) (.nil))) h
     ·by_cases c64 : nv = 20
      ·rw [if_pos c64] at h
       have b65 : (nv == 20) = true := beq_iff_eq.mpr c64
       refine S_env [(0, vp hv), (1, vi nv), (2, vs argsB argsN argsC), (8, vs d allN allC), (31, vi nv), (87, .bool true)] (by simp only [b65, Bool.not_true, Bool.not_false]) ?_
       clear b65
       refine T_t 87 kk65 kk66 ?_
       refine T_kt ?_
       exact S_meet (true : Bool) sk h
      ·rw [if_neg c64] at h
       have b65 : (nv == 20) = false := beq_eq_false_iff_ne.mpr c64
       refine S_env [(0, vp hv), (1, vi nv), (2, vs argsB argsN argsC), (8, vs d allN allC), (31, vi nv), (87, .bool false)] (by simp only [b65, Bool.not_true, Bool.not_false]) ?_
       clear b65
       refine T_f 87 kk65 kk66 ?_
       refine T_sr 20 kk91 kk92 ?_
       refine T_ne 2 [(0, vp hv), (1, vi nv), (2, vs argsB argsN argsC), (8, vs d allN allC), (31, vi nv), (87, .bool (nv == 21))] ?_
       by_cases c66 : nv = 21
       ·rw [if_pos c66] at h
        have b67 : (nv == 21) = true := beq_iff_eq.mpr c66
        refine S_env [(0, vp hv), (1, vi nv), (2, vs argsB argsN argsC), (8, vs d allN allC), (31, vi nv), (87, .bool true)] (by simp only [b67, Bool.not_true, Bool.not_false]) ?_
        clear b67
        refine T_t 87 kk93 kk94 ?_
        refine T_kt ?_
        exact S_meet (true : Bool) sk h
       ·rw [if_neg c66] at h
        have b67 : (nv == 21) = false := beq_eq_false_iff_ne.mpr c66
        refine S_env [(0, vp hv), (1, vi nv), (2, vs argsB argsN argsC), (8, vs d allN allC), (31, vi nv), (87, .bool false)] (by simp only [b67, Bool.not_true, Bool.not_false]) ?_
        clear b67
        refine T_f 87 kk93 kk94 ?_
        refine T_r 21 kk94 ?_
        refine T_ne 2 [(0, vp hv), (1, vi nv), (2, vs argsB argsN argsC), (8, vs d allN allC), (31, vi nv), (87, .bool (nv == 22))] ?_
        exact S_meet ((nv == 22) : Bool) sk h
end texts_ofText

end Go.Proofs.YthlohokmnajpoaaGreatDoor
