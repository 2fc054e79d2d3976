/-
 Written by a program of mine (gen.py): for functions of this translation a predicate transformer over heaps (.pt), and the proof that it is sound for the call (.link).
-/
import Derived.Test.YthlohokmnajpoaaFnsC
set_option linter.unusedSimpArgs false
set_option linter.unusedVariables false
set_option maxHeartbeats 1000000
noncomputable section
namespace Go.Proofs.Ythlohokmnajpoaa
open Go
/-! moraine/morainelaw22.ListsAssoc -/
namespace morainelaw22_ListsAssoc
def kk0 := Func.code Try.f4
def kk1 := Code.fa kk0
def kk2 := Code.fb kk0
def kk3 := Code.fa kk2
def kk4 := Code.fb kk2
def kk5 := Code.fa kk4
def kk6 := Code.fb kk4
def kk7 := Code.fa kk5
def kk8 := Code.fb kk5
def kk9 := Code.fa kk8
def kk10 := Code.fb kk8
def kk11 := Code.fa kk9
def kk12 := Code.fb kk9
def kk13 := Code.fa kk6
def kk14 := Code.fb kk6
def kk15 := Code.fa kk14
def kk16 := Code.fb kk14
def kk17 := Code.fa kk16
def kk18 := Code.fb kk16
def kk19 := Code.fa kk17
def kk20 := Code.fb kk17
def kk21 := Code.fa kk20
def kk22 := Code.fa kk21
def kk23 := Code.fa kk22
def kk24 := Code.fb kk22
def kk25 := Code.fa kk23
def kk26 := Code.fb kk23
def kk27 := Code.fa kk26
def kk28 := Code.fb kk26
def kk29 := Code.fa kk24
def kk30 := Code.fb kk24
def kk31 := Code.fa kk29
def kk32 := Code.fa kk31
def kk33 := Code.fb kk31
def kk34 := Code.fa kk33
def kk35 := Code.fb kk33
def kk36 := Code.fa kk35
def kk37 := Code.fb kk35
def kk38 := Code.fa kk37
def kk39 := Code.fb kk37
def kk40 := Code.fa kk18
def kk41 := Code.fb kk18
def kk42 := Code.fa kk41
def kk43 := Code.fb kk41
def kk44 := Code.fa kk42
def kk45 := Code.fb kk42
def kk46 := Code.fa kk45
def kk47 := Code.fb kk45
def kk48 := Code.fa kk43
def kk49 := Code.fb kk43
def kk50 := Code.fa kk48
def kk51 := Code.fb kk48
def kk52 := Code.fa kk51
def kk53 := Code.fa kk52
def kk54 := Code.fa kk53
def kk55 := Code.fb kk53
def kk56 := Code.fa kk54
def kk57 := Code.fb kk54
def kk58 := Code.fa kk57
def kk59 := Code.fb kk57
def kk60 := Code.fa kk55
def kk61 := Code.fb kk55
def kk62 := Code.fa kk60
def kk63 := Code.fa kk62
def kk64 := Code.fb kk62
def kk65 := Code.fa kk64
def kk66 := Code.fb kk64
def kk67 := Code.fa kk66
def kk68 := Code.fb kk66
def kk69 := Code.fa kk67
def kk70 := Code.fb kk67
def kk71 := Code.fa kk49
def kk72 := Code.fb kk49
def kk73 := Code.fa kk71
def kk74 := Code.fb kk71
def kk75 := Code.fa kk74
def kk76 := Code.fb kk74
def kk77 := Code.fa kk75
def kk78 := Code.fb kk75
def kk79 := Code.fa kk72
def kk80 := Code.fb kk72
def kk81 := Code.fa kk80
def kk82 := Code.fb kk80
def kk83 := Code.fa kk82
def kk84 := Code.fb kk82
def kk85 := Code.fa kk46
def kk86 := Code.fb kk46
end morainelaw22_ListsAssoc
def morainelaw22_ListsAssoc.pt (keysB : Option Addr) (keysN : Nat) (keysC : Nat) (x : Int) (H : Array Obj) (R : Value → Array Obj → Prop) : Prop :=
 obj_New.C 400 H (fun v H1 => ∃ ra : Option Addr, ∃ rb : Int, v = .tuple #[.pointer ra, .int .i64 rb] ∧ 
 if ((rb != 0) || (decide ((keysN : Int) > 200))) = true then (
 ∃ J : Bool → Array Obj → Prop, (
 if rb = 0 then (
 morainelaw22_awake.C  H1 (fun v_2 H3 => ∃ x_2 : Bool, v_2 = .bool x_2 ∧ 
 J x_2 H3))
 else
 J false H1) ∧ ∀ (s4 : Bool) (H2 : Array Obj), J s4 H2 →
 R (.bool s4) H2)
 else
 ∃ (I23 : (Option Addr) → Nat → Nat → Int → Int → Array Obj → Prop) (m23 : (Option Addr) → Nat → Nat → Int → Int → Array Obj → Nat), I23 none 0 0 (-1) 0 H1 ∧ ∀ (lB : Option Addr) (lN : Nat) (lC : Nat) (atv : Int) (i : Int) (H4 : Array Obj), I23 lB lN lC atv i H4 →
 if i < (keysN : Int) then (
 ∃ keysBA : Addr, keysB = some keysBA ∧
 ((0 : Int) ≤ i ∧ i < (keysN : Int)) ∧
 ∃ x_3 : Int, hat H4 (keysBA.add (Int.toNat i * 1)) = some (.int .i32 x_3) ∧
 obj_Heap_Cons.C ra (ishl .u64 (IntKind.wrap .u64 x_3) 3) (ishl .u64 (IntKind.wrap .u64 i) 3) H4 (fun v_3 H5 => ∃ ra_2 : Int, ∃ rb_2 : Int, v_3 = .tuple #[.int .u64 ra_2, .int .i64 rb_2] ∧ 
 ∀ (b : Nat) (H6 : Array Obj), b = H5.size → H6 = H5.push (.cells #[.int .u64 ra_2] 31) →
 appendK 1 31 8 [.int .u64 0] lB lN lC (some (Addr.mk b 0 none)) 1 H6 (fun ap apC H7 =>
 if atv < 0 then (
 ((0 : Int) ≤ i ∧ i < (keysN : Int)) ∧
 ∃ x_4 : Int, hat H7 (keysBA.add (Int.toNat i * 1)) = some (.int .i32 x_4) ∧
 if x_4 = x then (
 (I23 ap (lN + 1) apC i (IntKind.wrap .i64 (i + 1)) H7 ∧ m23 ap (lN + 1) apC i (IntKind.wrap .i64 (i + 1)) H7 < m23 lB lN lC atv i H4))
 else
 (I23 ap (lN + 1) apC atv (IntKind.wrap .i64 (i + 1)) H7 ∧ m23 ap (lN + 1) apC atv (IntKind.wrap .i64 (i + 1)) H7 < m23 lB lN lC atv i H4))
 else
 (I23 ap (lN + 1) apC atv (IntKind.wrap .i64 (i + 1)) H7 ∧ m23 ap (lN + 1) apC atv (IntKind.wrap .i64 (i + 1)) H7 < m23 lB lN lC atv i H4))))
 else
 morainelaw22_of.C ra lB lN lC H4 (fun v_4 H8 => ∃ ra_3 : Int, ∃ rb_3 : Bool, v_4 = .tuple #[.int .u64 ra_3, .bool rb_3] ∧ 
 if rb_3 = true then (
 ∃ (I54 : Int → Array Obj → Prop) (m54 : Int → Array Obj → Nat), I54 21 H8 ∧ ∀ (nv : Int) (H9 : Array Obj), I54 nv H9 →
 if nv ≤ 23 then (
 ∀ (b_2 : Nat) (H10 : Array Obj), b_2 = H9.size → H10 = H9.push (.cells #[.int .u64 (ishl .u64 (IntKind.wrap .u64 x) 3), .int .u64 ra_3] 31) →
 lists_Apply.C ra nv (some (Addr.mk b_2 0 none)) 2 2 H10 (fun v_5 H11 => ∃ ra_4 : Int, ∃ rb_4 : Int, v_5 = .tuple #[.int .u64 ra_4, .int .i64 rb_4] ∧ 
 if rb_4 = 0 then (
 if atv < 0 then (
 if ra_4 = 4 then (
 if atv ≥ 0 then (
 ∃ lBA : Addr, lB = some lBA ∧
 ((0 : Int) ≤ atv ∧ atv < (lN : Int)) ∧
 ∃ x_5 : Int, hat H11 (lBA.add (Int.toNat atv * 1)) = some (.int .u64 x_5) ∧
 if ra_4 = x_5 then (
 (I54 (IntKind.wrap .i64 (nv + 1)) H11 ∧ m54 (IntKind.wrap .i64 (nv + 1)) H11 < m54 nv H9))
 else
 R (.bool false) H11)
 else
 (I54 (IntKind.wrap .i64 (nv + 1)) H11 ∧ m54 (IntKind.wrap .i64 (nv + 1)) H11 < m54 nv H9))
 else
 R (.bool false) H11)
 else
 if atv ≥ 0 then (
 ∃ lBA_2 : Addr, lB = some lBA_2 ∧
 ((0 : Int) ≤ atv ∧ atv < (lN : Int)) ∧
 ∃ x_6 : Int, hat H11 (lBA_2.add (Int.toNat atv * 1)) = some (.int .u64 x_6) ∧
 if ra_4 = x_6 then (
 (I54 (IntKind.wrap .i64 (nv + 1)) H11 ∧ m54 (IntKind.wrap .i64 (nv + 1)) H11 < m54 nv H9))
 else
 R (.bool false) H11)
 else
 (I54 (IntKind.wrap .i64 (nv + 1)) H11 ∧ m54 (IntKind.wrap .i64 (nv + 1)) H11 < m54 nv H9))
 else
 R (.bool false) H11))
 else
 if atv < 0 then (
 morainelaw22_awake.C  H9 (fun v_6 H12 => ∃ x_7 : Bool, v_6 = .bool x_7 ∧ 
 R (.bool x_7) H12))
 else
 ∃ lBA_3 : Addr, lB = some lBA_3 ∧
 ((0 : Int) ≤ atv ∧ atv < (lN : Int)) ∧
 ∃ x_8 : Int, hat H9 (lBA_3.add (Int.toNat atv * 1)) = some (.int .u64 x_8) ∧
 ∀ (b_3 : Nat) (H13 : Array Obj), b_3 = H9.size → H13 = H9.push (.cells #[.int .u64 x_8, .int .u64 ra_3] 31) →
 lists_Apply.C ra 18 (some (Addr.mk b_3 0 none)) 2 2 H13 (fun v_7 H14 => ∃ ra_5 : Int, ∃ rb_5 : Int, v_7 = .tuple #[.int .u64 ra_5, .int .i64 rb_5] ∧ 
 lists_List.C ra ra_5 H14 (fun v_8 H15 => ∃ raB : Option Addr, ∃ raN : Nat, ∃ raC : Nat, ∃ rb_6 : Bool, v_8 = .tuple #[.slice raB raN raC, .bool rb_6] ∧ 
 if rb_5 = 0 then (
 if rb_6 = true then (
 ∃ (lo hi : Nat), atv = (lo : Int) ∧ hi = lN ∧ lo ≤ hi ∧ hi ≤ lC ∧
 ∀ sl : Option Addr, sl = (if lC = lo then (some lBA_3) else Option.map (fun a : Addr => a.add (lo * 1)) (some lBA_3)) →
 morainelaw22_same.C raB raN raC sl (hi - lo) (lC - lo) H15 (fun v_9 H16 => ∃ x_9 : Bool, v_9 = .bool x_9 ∧ 
 if x_9 = true then (
 morainelaw22_awake.C  H16 (fun v_10 H17 => ∃ x_10 : Bool, v_10 = .bool x_10 ∧ 
 R (.bool x_10) H17))
 else
 R (.bool false) H16))
 else
 R (.bool false) H15)
 else
 R (.bool false) H15)))
 else
 R (.bool false) H8))
namespace morainelaw22_ListsAssoc
set_option maxRecDepth 100000 in
theorem link {keysB : Option Addr} {keysN : Nat} {keysC : Nat} {x : Int} {H : Array Obj} {R : Value → Array Obj → Prop} (h : pt keysB keysN keysC x H R) : C keysB keysN keysC x H R := by
 refine S_enter (fn := Try.f4) (c := kk0) 152 Try.func4 (by kernel_rfl) (by kernel_rfl) (Nat.le_of_ble_eq_true (by kernel_rfl)) ?_
 intro w0 Q hQ
 unfold pt at h
 refine S_sub [(0, .slice keysB keysN keysC), (1, .int .i32 x)] (sb (by kernel_rfl)) ?_
 refine S_seq kk1 kk2 (by kernel_rfl) ?_
 refine S_region 0 (Code.ops kk1) (by kernel_rfl) ?_
 refine N_run 1 [(0, .slice keysB keysN keysC), (1, .int .i32 x)] (fun _=>by kernel_rfl) ?_
 refine N_end (by kernel_rfl) ?_
 refine S_then ?_
 refine S_seq kk3 kk4 (by kernel_rfl) ?_
 refine S_region 1 (Code.ops kk3) (by kernel_rfl) ?_
 refine N_call (some 22) 6 #[.int .i64 400] (fun _=>by kernel_rfl) h ?_; clear h
 rintro v H1 ⟨ra, rb, rfl, h⟩
 refine ⟨[(0, .slice keysB keysN keysC), (1, .int .i32 x), (22, .tuple #[.pointer ra, .int .i64 rb])], ps (by kernel_rfl), ?_⟩
 refine N_run 5 [(0, .slice keysB keysN keysC), (1, .int .i32 x), (5, .pointer ra), (6, .int .i64 rb)] (fun _=>by kernel_rfl) ?_
 refine N_end (by kernel_rfl) ?_
 refine S_then ?_
 refine S_seq kk5 kk6 (by kernel_rfl) ?_
 refine S_seq kk7 kk8 (by kernel_rfl) ?_
 refine S_region 2 (Code.ops kk7) (by kernel_rfl) ?_
 refine N_cut [(0, .slice keysB keysN keysC), (1, .int .i32 x), (5, .pointer ra), (6, .int .i64 rb), (31, .bool ((rb != 0) || (decide ((keysN : Int) > 200))))] ?_ ?_
 ·refine S_then ?_
  by_cases c3 : ((rb != 0) || (decide ((keysN : Int) > 200))) = true
  ·rw [if_pos c3] at h
   have b4 : ((rb != 0) || (decide ((keysN : Int) > 200))) = true := c3
   refine S_env [(0, .slice keysB keysN keysC), (1, .int .i32 x), (5, .pointer ra), (6, .int .i64 rb), (31, .bool true)] (by simp only [b4, Bool.not_true, Bool.not_false]) ?_
   clear b4
   refine S_condT (.tmp 31) kk9 kk10 (by kernel_rfl) (by kernel_rfl) ?_
   refine S_seq kk11 kk12 (by kernel_rfl) ?_
   obtain ⟨J, h, j6⟩ := h
   refine S_join (σ := Bool) (fun s_ => [(4, .bool s_)]) (fun s_ H => J s_ H) ?_ ?_
   ·rintro s4 H2 j7
    replace h := j6 s4 H2 j7
    refine S_sub [(4, .bool s4)] (sb (by kernel_rfl)) ?_
    refine S_then ?_
    refine S_ret (by kernel_rfl) ?_
    show At _ _ _ _ _ (Q .ret)
    exact S_done (fn := Try.f4) [.bool s4] hQ (show ResOK _ _ _ [.tmp 4] _ from .tmp (by kernel_rfl) (.nil)) h
   ·refine S_region 3 (Code.ops kk11) (by kernel_rfl) ?_
    refine N_run 3 [(34, .bool (rb == 0))] (fun _=>by kernel_rfl) ?_
    by_cases c8 : rb = 0
    ·rw [if_pos c8] at h
     have b9 : (rb == 0) = true := beq_iff_eq.mpr c8
     refine N_env [(34, .bool true)] (by simp only [b9, Bool.not_true, Bool.not_false]) ?_
     clear b9
     refine N_call (some 35) 7 #[] (fun _=>by kernel_rfl) h ?_; clear h
     rintro v_2 H3 ⟨x_2, rfl, h⟩
     refine ⟨[(34, .bool true), (35, .bool x_2)], ps (by kernel_rfl), ?_⟩
     refine N_run 2 [(4, .bool x_2)] (fun _=>by kernel_rfl) ?_
     refine N_end (by kernel_rfl) ?_
     refine S_then ?_
     exact S_meet (x_2 : Bool) (sb (by kernel_rfl)) h
    ·rw [if_neg c8] at h
     have b9 : (rb == 0) = false := beq_eq_false_iff_ne.mpr c8
     refine N_env [(34, .bool false)] (by simp only [b9, Bool.not_true, Bool.not_false]) ?_
     clear b9
     refine N_run 3 [(4, .bool false)] (fun _=>by kernel_rfl) ?_
     refine N_end (by kernel_rfl) ?_
     refine S_then ?_
     exact S_meet (false : Bool) (sb (by kernel_rfl)) h
  ·rw [if_neg c3] at h
   have b4 : ((rb != 0) || (decide ((keysN : Int) > 200))) = false := eq_false_of_ne_true c3
   refine S_env [(0, .slice keysB keysN keysC), (1, .int .i32 x), (5, .pointer ra), (6, .int .i64 rb), (31, .bool false)] (by simp only [b4, Bool.not_true, Bool.not_false]) ?_
   clear b4
   refine S_condF (.tmp 31) kk9 kk10 (by kernel_rfl) (by kernel_rfl) ?_
   refine S_skip (by kernel_rfl) ?_
   refine S_then ?_
   refine S_seq kk13 kk14 (by kernel_rfl) ?_
   refine S_region 4 (Code.ops kk13) (by kernel_rfl) ?_
   refine N_run 1 [(0, .slice keysB keysN keysC), (1, .int .i32 x), (5, .pointer ra), (7, .slice none 0 0)] (fun _=>by kernel_rfl) ?_
   refine N_end (by kernel_rfl) ?_
   refine S_then ?_
   refine S_seq kk15 kk16 (by kernel_rfl) ?_
   refine S_region 5 (Code.ops kk15) (by kernel_rfl) ?_
   refine N_run 1 [(0, .slice keysB keysN keysC), (1, .int .i32 x), (5, .pointer ra), (7, .slice none 0 0), (8, .int .i64 (-1))] (fun _=>by kernel_rfl) ?_
   refine N_end (by kernel_rfl) ?_
   refine S_then ?_
   refine S_seq kk17 kk18 (by kernel_rfl) ?_
   refine S_seq kk19 kk20 (by kernel_rfl) ?_
   refine S_region 6 (Code.ops kk19) (by kernel_rfl) ?_
   refine N_run 1 [(0, .slice keysB keysN keysC), (1, .int .i32 x), (5, .pointer ra), (7, .slice none 0 0), (8, .int .i64 (-1)), (9, .int .i64 0)] (fun _=>by kernel_rfl) ?_
   refine N_end (by kernel_rfl) ?_
   refine S_then ?_
   refine S_block 0 kk21 (by kernel_rfl) ?_
   obtain ⟨I23, m23, i10, i11⟩ := h
   refine S_loop (x := kk22) (σ := (Option Addr) × Nat × Nat × Int × Int) (fun s_ => [(0, .slice keysB keysN keysC), (1, .int .i32 x), (5, .pointer ra), (7, .slice s_.1 s_.2.1 s_.2.2.1), (8, .int .i64 s_.2.2.2.1), (9, .int .i64 s_.2.2.2.2)]) (fun s_ H => I23 s_.1 s_.2.1 s_.2.2.1 s_.2.2.2.1 s_.2.2.2.2 H) (fun s_ H => m23 s_.1 s_.2.1 s_.2.2.1 s_.2.2.2.1 s_.2.2.2.2 H) ((none, 0, 0, (-1), 0) : (Option Addr) × Nat × Nat × Int × Int) (by kernel_rfl) i10 (sb (by kernel_rfl)) ?_
   rintro ⟨lB, lN, lC, atv, i⟩ H4 i12
   have h := i11 lB lN lC atv i H4 i12
   refine S_sub [(0, .slice keysB keysN keysC), (1, .int .i32 x), (5, .pointer ra), (7, .slice lB lN lC), (8, .int .i64 atv), (9, .int .i64 i)] (sb (by kernel_rfl)) ?_
   refine S_seq kk23 kk24 (by kernel_rfl) ?_
   refine S_seq kk25 kk26 (by kernel_rfl) ?_
   refine S_region 7 (Code.ops kk25) (by kernel_rfl) ?_
   refine N_run 4 [(0, .slice keysB keysN keysC), (1, .int .i32 x), (5, .pointer ra), (7, .slice lB lN lC), (8, .int .i64 atv), (9, .int .i64 i), (40, .bool (decide (i < (keysN : Int))))] (fun _=>by kernel_rfl) ?_
   refine N_end (by kernel_rfl) ?_
   refine S_then ?_
   by_cases c13 : i < (keysN : Int)
   ·rw [if_pos c13] at h
    have b14 : (decide (i < (keysN : Int))) = true := decide_eq_true c13
    refine S_env [(0, .slice keysB keysN keysC), (1, .int .i32 x), (5, .pointer ra), (7, .slice lB lN lC), (8, .int .i64 atv), (9, .int .i64 i), (40, .bool true)] (by simp only [b14, Bool.not_true, Bool.not_false]) ?_
    clear b14
    refine S_condT (.tmp 40) kk27 kk28 (by kernel_rfl) (by kernel_rfl) ?_
    refine S_skip (by kernel_rfl) ?_
    refine S_then ?_
    refine S_seq kk29 kk30 (by kernel_rfl) ?_
    refine S_block 1 kk31 (by kernel_rfl) ?_
    refine S_seq kk32 kk33 (by kernel_rfl) ?_
    refine S_region 9 (Code.ops kk32) (by kernel_rfl) ?_
    refine N_run 3 [(0, .slice keysB keysN keysC), (1, .int .i32 x), (5, .pointer ra), (7, .slice lB lN lC), (8, .int .i64 atv), (9, .int .i64 i), (44, .pointer ra), (45, .slice keysB keysN keysC), (46, .int .i64 i)] (fun _=>by kernel_rfl) ?_
    obtain ⟨keysBA, rfl, h⟩ := h
    obtain ⟨q15, h⟩ := h
    refine N_val (some 47) (indexAtN 22 (.slice (some keysBA) keysN keysC) (.int .i64 i)) (.pointer (some (keysBA.add (Int.toNat i * 1)))) (fun _=>by kernel_rfl) (fun w _ => indexAt_run (P := Try.prog) (t := 22) (elem := 21) (sz := 1) (a := keysBA) (len := keysN) (cap := keysC) (k := .i64) (i := i) Try.underlying22 (fun _=>by kernel_rfl) q15.1 q15.2 w) [(0, .slice (some keysBA) keysN keysC), (1, .int .i32 x), (5, .pointer ra), (7, .slice lB lN lC), (8, .int .i64 atv), (9, .int .i64 i), (44, .pointer ra), (47, .pointer (some (keysBA.add (Int.toNat i * 1))))] (ps (by kernel_rfl)) ?_
    obtain ⟨x_3, q16, h⟩ := h
    refine N_val (some 48) (loadN 21 (.pointer (some (keysBA.add (Int.toNat i * 1))))) (.int .i32 x_3) (fun _=>by kernel_rfl) (loadN_run (loadOK_one (fun _=>by kernel_rfl) q16)) [(0, .slice (some keysBA) keysN keysC), (1, .int .i32 x), (5, .pointer ra), (7, .slice lB lN lC), (8, .int .i64 atv), (9, .int .i64 i), (44, .pointer ra), (48, .int .i32 x_3)] (ps (by kernel_rfl)) ?_
    refine N_run 5 [(0, .slice (some keysBA) keysN keysC), (1, .int .i32 x), (5, .pointer ra), (7, .slice lB lN lC), (8, .int .i64 atv), (9, .int .i64 i), (44, .pointer ra), (50, .int .u64 (ishl .u64 (IntKind.wrap .u64 x_3) 3)), (53, .int .u64 (ishl .u64 (IntKind.wrap .u64 i) 3))] (fun _=>by kernel_rfl) ?_
    refine N_call (some 54) 13 #[.pointer ra, .int .u64 (ishl .u64 (IntKind.wrap .u64 x_3) 3), .int .u64 (ishl .u64 (IntKind.wrap .u64 i) 3)] (fun _=>by kernel_rfl) h ?_; clear h
    rintro v_3 H5 ⟨ra_2, rb_2, rfl, h⟩
    refine ⟨[(0, .slice (some keysBA) keysN keysC), (1, .int .i32 x), (5, .pointer ra), (7, .slice lB lN lC), (8, .int .i64 atv), (9, .int .i64 i), (54, .tuple #[.int .u64 ra_2, .int .i64 rb_2])], ps (by kernel_rfl), ?_⟩
    refine N_run 5 [(0, .slice (some keysBA) keysN keysC), (1, .int .i32 x), (5, .pointer ra), (7, .slice lB lN lC), (8, .int .i64 atv), (9, .int .i64 i), (10, .int .u64 ra_2)] (fun _=>by kernel_rfl) ?_
    refine N_end (by kernel_rfl) ?_
    refine S_then ?_
    refine S_seq kk34 kk35 (by kernel_rfl) ?_
    refine S_region 10 (Code.ops kk34) (by kernel_rfl) ?_
    refine N_run 2 [(0, .slice (some keysBA) keysN keysC), (1, .int .i32 x), (5, .pointer ra), (8, .int .i64 atv), (9, .int .i64 i), (57, .slice lB lN lC), (58, .int .u64 ra_2)] (fun _=>by kernel_rfl) ?_
    refine N_new (some 59) (fun b => .slice (some (Addr.mk b 0 none)) 1 1) (.cells #[.int .u64 ra_2] 31) (fun _=>by kernel_rfl) ?_
    intro b H6 e17 e18
    replace h := h b H6 e17 e18
    refine ⟨[(0, .slice (some keysBA) keysN keysC), (1, .int .i32 x), (5, .pointer ra), (8, .int .i64 atv), (9, .int .i64 i), (57, .slice lB lN lC), (59, .slice (some (Addr.mk b 0 none)) 1 1)], ps (by kernel_rfl), ?_⟩
    refine N_op (some 60) (appendN #[28, 28] 28 #[.slice lB lN lC, .slice (some (Addr.mk b 0 none)) 1 1]) _ (fun _=>by kernel_rfl) (ss_append (T := 31) (sz := 1) (bytes := 8) (zero := (.int .u64 0 : Value)) Try.underlying28 Try.underlying28 rfl (show Try.prog.info? 31 = some Try.t31 from by kernel_rfl) (by kernel_rfl) (by kernel_rfl) (by decide) (by kernel_rfl) (by first | exact h | (simpa only [Value.cells, List.toList_toArray] using h))) ?_; clear h
    rintro _ H7 ⟨ap, apC, rfl, h⟩
    refine ⟨[(0, .slice (some keysBA) keysN keysC), (1, .int .i32 x), (5, .pointer ra), (8, .int .i64 atv), (9, .int .i64 i), (60, .slice ap (lN + 1) apC)], ps (by kernel_rfl), ?_⟩
    refine N_run 1 [(0, .slice (some keysBA) keysN keysC), (1, .int .i32 x), (5, .pointer ra), (7, .slice ap (lN + 1) apC), (8, .int .i64 atv), (9, .int .i64 i)] (fun _=>by kernel_rfl) ?_
    refine N_end (by kernel_rfl) ?_
    refine S_then ?_
    refine S_seq kk36 kk37 (by kernel_rfl) ?_
    refine S_region 11 (Code.ops kk36) (by kernel_rfl) ?_
    refine N_run 3 [(0, .slice (some keysBA) keysN keysC), (1, .int .i32 x), (5, .pointer ra), (7, .slice ap (lN + 1) apC), (8, .int .i64 atv), (9, .int .i64 i), (63, .bool (decide (atv < 0)))] (fun _=>by kernel_rfl) ?_
    by_cases c19 : atv < 0
    ·rw [if_pos c19] at h
     have b20 : (decide (atv < 0)) = true := decide_eq_true c19
     refine N_env [(0, .slice (some keysBA) keysN keysC), (1, .int .i32 x), (5, .pointer ra), (7, .slice ap (lN + 1) apC), (8, .int .i64 atv), (9, .int .i64 i), (63, .bool true)] (by simp only [b20, Bool.not_true, Bool.not_false]) ?_
     clear b20
     refine N_run 2 [(0, .slice (some keysBA) keysN keysC), (1, .int .i32 x), (5, .pointer ra), (7, .slice ap (lN + 1) apC), (8, .int .i64 atv), (9, .int .i64 i), (63, .bool true), (64, .slice (some keysBA) keysN keysC), (65, .int .i64 i)] (fun _=>by kernel_rfl) ?_
     obtain ⟨q21, h⟩ := h
     refine N_val (some 66) (indexAtN 22 (.slice (some keysBA) keysN keysC) (.int .i64 i)) (.pointer (some (keysBA.add (Int.toNat i * 1)))) (fun _=>by kernel_rfl) (fun w _ => indexAt_run (P := Try.prog) (t := 22) (elem := 21) (sz := 1) (a := keysBA) (len := keysN) (cap := keysC) (k := .i64) (i := i) Try.underlying22 (fun _=>by kernel_rfl) q21.1 q21.2 w) [(0, .slice (some keysBA) keysN keysC), (1, .int .i32 x), (5, .pointer ra), (7, .slice ap (lN + 1) apC), (8, .int .i64 atv), (9, .int .i64 i), (63, .bool true), (66, .pointer (some (keysBA.add (Int.toNat i * 1))))] (ps (by kernel_rfl)) ?_
     obtain ⟨x_4, q22, h⟩ := h
     refine N_val (some 67) (loadN 21 (.pointer (some (keysBA.add (Int.toNat i * 1))))) (.int .i32 x_4) (fun _=>by kernel_rfl) (loadN_run (loadOK_one (fun _=>by kernel_rfl) q22)) [(0, .slice (some keysBA) keysN keysC), (1, .int .i32 x), (5, .pointer ra), (7, .slice ap (lN + 1) apC), (8, .int .i64 atv), (9, .int .i64 i), (63, .bool true), (67, .int .i32 x_4)] (ps (by kernel_rfl)) ?_
     refine N_run 3 [(0, .slice (some keysBA) keysN keysC), (1, .int .i32 x), (5, .pointer ra), (7, .slice ap (lN + 1) apC), (8, .int .i64 atv), (9, .int .i64 i), (70, .bool (x_4 == x))] (fun _=>by kernel_rfl) ?_
     refine N_end (by kernel_rfl) ?_
     refine S_then ?_
     by_cases c23 : x_4 = x
     ·rw [if_pos c23] at h
      have b24 : (x_4 == x) = true := beq_iff_eq.mpr c23
      refine S_env [(0, .slice (some keysBA) keysN keysC), (1, .int .i32 x), (5, .pointer ra), (7, .slice ap (lN + 1) apC), (8, .int .i64 atv), (9, .int .i64 i), (70, .bool true)] (by simp only [b24, Bool.not_true, Bool.not_false]) ?_
      clear b24
      refine S_condT (.tmp 70) kk38 kk39 (by kernel_rfl) (by kernel_rfl) ?_
      refine S_region 12 (Code.ops kk38) (by kernel_rfl) ?_
      refine N_run 2 [(0, .slice (some keysBA) keysN keysC), (1, .int .i32 x), (5, .pointer ra), (7, .slice ap (lN + 1) apC), (8, .int .i64 i), (9, .int .i64 i)] (fun _=>by kernel_rfl) ?_
      refine N_end (by kernel_rfl) ?_
      refine S_blockEnd ?_
      refine S_then ?_
      refine S_region 8 (Code.ops kk30) (by kernel_rfl) ?_
      refine N_run 3 [(0, .slice (some keysBA) keysN keysC), (1, .int .i32 x), (5, .pointer ra), (7, .slice ap (lN + 1) apC), (8, .int .i64 i), (9, .int .i64 (IntKind.wrap .i64 (i + 1)))] (fun _=>by kernel_rfl) ?_
      refine N_end (by kernel_rfl) ?_
      refine S_then ?_
      exact S_round ((ap, (lN + 1), apC, i, (IntKind.wrap .i64 (i + 1))) : (Option Addr) × Nat × Nat × Int × Int) (sb (by kernel_rfl)) h
     ·rw [if_neg c23] at h
      have b24 : (x_4 == x) = false := beq_eq_false_iff_ne.mpr c23
      refine S_env [(0, .slice (some keysBA) keysN keysC), (1, .int .i32 x), (5, .pointer ra), (7, .slice ap (lN + 1) apC), (8, .int .i64 atv), (9, .int .i64 i), (70, .bool false)] (by simp only [b24, Bool.not_true, Bool.not_false]) ?_
      clear b24
      refine S_condF (.tmp 70) kk38 kk39 (by kernel_rfl) (by kernel_rfl) ?_
      refine S_skip (by kernel_rfl) ?_
      refine S_blockEnd ?_
      refine S_then ?_
      refine S_region 8 (Code.ops kk30) (by kernel_rfl) ?_
      refine N_run 3 [(0, .slice (some keysBA) keysN keysC), (1, .int .i32 x), (5, .pointer ra), (7, .slice ap (lN + 1) apC), (8, .int .i64 atv), (9, .int .i64 (IntKind.wrap .i64 (i + 1)))] (fun _=>by kernel_rfl) ?_
      refine N_end (by kernel_rfl) ?_
      refine S_then ?_
      exact S_round ((ap, (lN + 1), apC, atv, (IntKind.wrap .i64 (i + 1))) : (Option Addr) × Nat × Nat × Int × Int) (sb (by kernel_rfl)) h
    ·rw [if_neg c19] at h
     have b20 : (decide (atv < 0)) = false := decide_eq_false c19
     refine N_env [(0, .slice (some keysBA) keysN keysC), (1, .int .i32 x), (5, .pointer ra), (7, .slice ap (lN + 1) apC), (8, .int .i64 atv), (9, .int .i64 i), (63, .bool false)] (by simp only [b20, Bool.not_true, Bool.not_false]) ?_
     clear b20
     refine N_run 7 [(0, .slice (some keysBA) keysN keysC), (1, .int .i32 x), (5, .pointer ra), (7, .slice ap (lN + 1) apC), (8, .int .i64 atv), (9, .int .i64 i), (70, .bool false)] (fun _=>by kernel_rfl) ?_
     refine N_end (by kernel_rfl) ?_
     refine S_then ?_
     refine S_condF (.tmp 70) kk38 kk39 (by kernel_rfl) (by kernel_rfl) ?_
     refine S_skip (by kernel_rfl) ?_
     refine S_blockEnd ?_
     refine S_then ?_
     refine S_region 8 (Code.ops kk30) (by kernel_rfl) ?_
     refine N_run 3 [(0, .slice (some keysBA) keysN keysC), (1, .int .i32 x), (5, .pointer ra), (7, .slice ap (lN + 1) apC), (8, .int .i64 atv), (9, .int .i64 (IntKind.wrap .i64 (i + 1)))] (fun _=>by kernel_rfl) ?_
     refine N_end (by kernel_rfl) ?_
     refine S_then ?_
     exact S_round ((ap, (lN + 1), apC, atv, (IntKind.wrap .i64 (i + 1))) : (Option Addr) × Nat × Nat × Int × Int) (sb (by kernel_rfl)) h
   ·rw [if_neg c13] at h
    have b14 : (decide (i < (keysN : Int))) = false := decide_eq_false c13
    refine S_env [(0, .slice keysB keysN keysC), (1, .int .i32 x), (5, .pointer ra), (7, .slice lB lN lC), (8, .int .i64 atv), (9, .int .i64 i), (40, .bool false)] (by simp only [b14, Bool.not_true, Bool.not_false]) ?_
    clear b14
    refine S_condF (.tmp 40) kk27 kk28 (by kernel_rfl) (by kernel_rfl) ?_
    refine S_exit 0 (by kernel_rfl) ?_
    refine S_exitThen ?_
    refine S_exitThen ?_
    refine S_exitHere ?_
    refine S_then ?_
    refine S_seq kk40 kk41 (by kernel_rfl) ?_
    refine S_region 13 (Code.ops kk40) (by kernel_rfl) ?_
    refine N_run 2 [(1, .int .i32 x), (5, .pointer ra), (7, .slice lB lN lC), (8, .int .i64 atv), (73, .pointer ra), (74, .slice lB lN lC)] (fun _=>by kernel_rfl) ?_
    refine N_call (some 75) 9 #[.pointer ra, .slice lB lN lC] (fun _=>by kernel_rfl) h ?_; clear h
    rintro v_4 H8 ⟨ra_3, rb_3, rfl, h⟩
    refine ⟨[(1, .int .i32 x), (5, .pointer ra), (7, .slice lB lN lC), (8, .int .i64 atv), (75, .tuple #[.int .u64 ra_3, .bool rb_3])], ps (by kernel_rfl), ?_⟩
    refine N_run 5 [(1, .int .i32 x), (5, .pointer ra), (7, .slice lB lN lC), (8, .int .i64 atv), (12, .int .u64 ra_3), (13, .bool rb_3)] (fun _=>by kernel_rfl) ?_
    refine N_end (by kernel_rfl) ?_
    refine S_then ?_
    refine S_seq kk42 kk43 (by kernel_rfl) ?_
    refine S_seq kk44 kk45 (by kernel_rfl) ?_
    refine S_region 14 (Code.ops kk44) (by kernel_rfl) ?_
    refine N_run 2 [(1, .int .i32 x), (5, .pointer ra), (7, .slice lB lN lC), (8, .int .i64 atv), (12, .int .u64 ra_3), (79, .bool (!rb_3))] (fun _=>by kernel_rfl) ?_
    refine N_end (by kernel_rfl) ?_
    refine S_then ?_
    by_cases c25 : rb_3 = true
    ·rw [if_pos c25] at h
     have b26 : (!rb_3) = false := congrArg Bool.not (c25)
     have b262 : rb_3 = true := c25
     refine S_env [(1, .int .i32 x), (5, .pointer ra), (7, .slice lB lN lC), (8, .int .i64 atv), (12, .int .u64 ra_3), (79, .bool false)] (by simp only [b26, b262, Bool.not_true, Bool.not_false]) ?_
     clear b26 b262
     refine S_condF (.tmp 79) kk46 kk47 (by kernel_rfl) (by kernel_rfl) ?_
     refine S_skip (by kernel_rfl) ?_
     refine S_then ?_
     refine S_seq kk48 kk49 (by kernel_rfl) ?_
     refine S_seq kk50 kk51 (by kernel_rfl) ?_
     refine S_region 16 (Code.ops kk50) (by kernel_rfl) ?_
     refine N_run 1 [(1, .int .i32 x), (5, .pointer ra), (7, .slice lB lN lC), (8, .int .i64 atv), (12, .int .u64 ra_3), (14, .int .i64 21)] (fun _=>by kernel_rfl) ?_
     refine N_end (by kernel_rfl) ?_
     refine S_then ?_
     refine S_block 2 kk52 (by kernel_rfl) ?_
     obtain ⟨I54, m54, i27, i28⟩ := h
     refine S_loop (x := kk53) (σ := Int) (fun s_ => [(1, .int .i32 x), (5, .pointer ra), (7, .slice lB lN lC), (8, .int .i64 atv), (12, .int .u64 ra_3), (14, .int .i64 s_)]) (fun s_ H => I54 s_ H) (fun s_ H => m54 s_ H) (21 : Int) (by kernel_rfl) i27 (sb (by kernel_rfl)) ?_
     rintro nv H9 i29
     have h := i28 nv H9 i29
     refine S_sub [(1, .int .i32 x), (5, .pointer ra), (7, .slice lB lN lC), (8, .int .i64 atv), (12, .int .u64 ra_3), (14, .int .i64 nv)] (sb (by kernel_rfl)) ?_
     refine S_seq kk54 kk55 (by kernel_rfl) ?_
     refine S_seq kk56 kk57 (by kernel_rfl) ?_
     refine S_region 17 (Code.ops kk56) (by kernel_rfl) ?_
     refine N_run 2 [(1, .int .i32 x), (5, .pointer ra), (7, .slice lB lN lC), (8, .int .i64 atv), (12, .int .u64 ra_3), (14, .int .i64 nv), (81, .bool (decide (nv ≤ 23)))] (fun _=>by kernel_rfl) ?_
     refine N_end (by kernel_rfl) ?_
     refine S_then ?_
     by_cases c30 : nv ≤ 23
     ·rw [if_pos c30] at h
      have b31 : (decide (nv ≤ 23)) = true := decide_eq_true c30
      refine S_env [(1, .int .i32 x), (5, .pointer ra), (7, .slice lB lN lC), (8, .int .i64 atv), (12, .int .u64 ra_3), (14, .int .i64 nv), (81, .bool true)] (by simp only [b31, Bool.not_true, Bool.not_false]) ?_
      clear b31
      refine S_condT (.tmp 81) kk58 kk59 (by kernel_rfl) (by kernel_rfl) ?_
      refine S_skip (by kernel_rfl) ?_
      refine S_then ?_
      refine S_seq kk60 kk61 (by kernel_rfl) ?_
      refine S_block 3 kk62 (by kernel_rfl) ?_
      refine S_seq kk63 kk64 (by kernel_rfl) ?_
      refine S_region 19 (Code.ops kk63) (by kernel_rfl) ?_
      refine N_run 6 [(1, .int .i32 x), (5, .pointer ra), (7, .slice lB lN lC), (8, .int .i64 atv), (12, .int .u64 ra_3), (14, .int .i64 nv), (85, .pointer ra), (86, .int .i64 nv), (89, .int .u64 (ishl .u64 (IntKind.wrap .u64 x) 3)), (90, .int .u64 ra_3)] (fun _=>by kernel_rfl) ?_
      refine N_new (some 91) (fun b => .slice (some (Addr.mk b 0 none)) 2 2) (.cells #[.int .u64 (ishl .u64 (IntKind.wrap .u64 x) 3), .int .u64 ra_3] 31) (fun _=>by kernel_rfl) ?_
      intro b_2 H10 e32 e33
      replace h := h b_2 H10 e32 e33
      refine ⟨[(1, .int .i32 x), (5, .pointer ra), (7, .slice lB lN lC), (8, .int .i64 atv), (12, .int .u64 ra_3), (14, .int .i64 nv), (85, .pointer ra), (86, .int .i64 nv), (91, .slice (some (Addr.mk b_2 0 none)) 2 2)], ps (by kernel_rfl), ?_⟩
      refine N_call (some 92) 10 #[.pointer ra, .int .i64 nv, .slice (some (Addr.mk b_2 0 none)) 2 2] (fun _=>by kernel_rfl) h ?_; clear h
      rintro v_5 H11 ⟨ra_4, rb_4, rfl, h⟩
      refine ⟨[(1, .int .i32 x), (5, .pointer ra), (7, .slice lB lN lC), (8, .int .i64 atv), (12, .int .u64 ra_3), (14, .int .i64 nv), (92, .tuple #[.int .u64 ra_4, .int .i64 rb_4])], ps (by kernel_rfl), ?_⟩
      refine N_run 5 [(1, .int .i32 x), (5, .pointer ra), (7, .slice lB lN lC), (8, .int .i64 atv), (12, .int .u64 ra_3), (14, .int .i64 nv), (15, .int .u64 ra_4), (16, .int .i64 rb_4)] (fun _=>by kernel_rfl) ?_
      refine N_end (by kernel_rfl) ?_
      refine S_then ?_
      refine S_seq kk65 kk66 (by kernel_rfl) ?_
      refine S_region 20 (Code.ops kk65) (by kernel_rfl) ?_
      refine N_run 3 [(1, .int .i32 x), (5, .pointer ra), (7, .slice lB lN lC), (8, .int .i64 atv), (12, .int .u64 ra_3), (14, .int .i64 nv), (15, .int .u64 ra_4), (97, .bool (rb_4 != 0))] (fun _=>by kernel_rfl) ?_
      by_cases c34 : rb_4 = 0
      ·rw [if_pos c34] at h
       have b35 : (rb_4 != 0) = false := bne_eq_false_iff_eq.mpr c34
       refine N_env [(1, .int .i32 x), (5, .pointer ra), (7, .slice lB lN lC), (8, .int .i64 atv), (12, .int .u64 ra_3), (14, .int .i64 nv), (15, .int .u64 ra_4), (97, .bool false)] (by simp only [b35, Bool.not_true, Bool.not_false]) ?_
       clear b35
       refine N_run 3 [(1, .int .i32 x), (5, .pointer ra), (7, .slice lB lN lC), (8, .int .i64 atv), (12, .int .u64 ra_3), (14, .int .i64 nv), (15, .int .u64 ra_4), (97, .bool false), (100, .bool (decide (atv < 0)))] (fun _=>by kernel_rfl) ?_
       by_cases c36 : atv < 0
       ·rw [if_pos c36] at h
        have b37 : (decide (atv < 0)) = true := decide_eq_true c36
        refine N_env [(1, .int .i32 x), (5, .pointer ra), (7, .slice lB lN lC), (8, .int .i64 atv), (12, .int .u64 ra_3), (14, .int .i64 nv), (15, .int .u64 ra_4), (97, .bool false), (100, .bool true)] (by simp only [b37, Bool.not_true, Bool.not_false]) ?_
        clear b37
        refine N_run 5 [(1, .int .i32 x), (5, .pointer ra), (7, .slice lB lN lC), (8, .int .i64 atv), (12, .int .u64 ra_3), (14, .int .i64 nv), (15, .int .u64 ra_4), (105, .bool (ra_4 != 4))] (fun _=>by kernel_rfl) ?_
        by_cases c38 : ra_4 = 4
        ·rw [if_pos c38] at h
         have b39 : (ra_4 != 4) = false := bne_eq_false_iff_eq.mpr c38
         refine N_env [(1, .int .i32 x), (5, .pointer ra), (7, .slice lB lN lC), (8, .int .i64 atv), (12, .int .u64 ra_3), (14, .int .i64 nv), (15, .int .u64 ra_4), (105, .bool false)] (by simp only [b39, Bool.not_true, Bool.not_false]) ?_
         clear b39
         refine N_run 3 [(1, .int .i32 x), (5, .pointer ra), (7, .slice lB lN lC), (8, .int .i64 atv), (12, .int .u64 ra_3), (14, .int .i64 nv), (15, .int .u64 ra_4), (105, .bool false), (108, .bool (decide (atv ≥ 0)))] (fun _=>by kernel_rfl) ?_
         by_cases c40 : atv ≥ 0
         ·rw [if_pos c40] at h
          have b41 : (decide (atv ≥ 0)) = true := decide_eq_true c40
          refine N_env [(1, .int .i32 x), (5, .pointer ra), (7, .slice lB lN lC), (8, .int .i64 atv), (12, .int .u64 ra_3), (14, .int .i64 nv), (15, .int .u64 ra_4), (105, .bool false), (108, .bool true)] (by simp only [b41, Bool.not_true, Bool.not_false]) ?_
          clear b41
          refine N_run 3 [(1, .int .i32 x), (5, .pointer ra), (7, .slice lB lN lC), (8, .int .i64 atv), (12, .int .u64 ra_3), (14, .int .i64 nv), (105, .bool false), (108, .bool true), (109, .int .u64 ra_4), (110, .slice lB lN lC), (111, .int .i64 atv)] (fun _=>by kernel_rfl) ?_
          obtain ⟨lBA, rfl, h⟩ := h
          obtain ⟨q42, h⟩ := h
          refine N_val (some 112) (indexAtN 28 (.slice (some lBA) lN lC) (.int .i64 atv)) (.pointer (some (lBA.add (Int.toNat atv * 1)))) (fun _=>by kernel_rfl) (fun w _ => indexAt_run (P := Try.prog) (t := 28) (elem := 31) (sz := 1) (a := lBA) (len := lN) (cap := lC) (k := .i64) (i := atv) Try.underlying28 (fun _=>by kernel_rfl) q42.1 q42.2 w) [(1, .int .i32 x), (5, .pointer ra), (7, .slice (some lBA) lN lC), (8, .int .i64 atv), (12, .int .u64 ra_3), (14, .int .i64 nv), (105, .bool false), (108, .bool true), (109, .int .u64 ra_4), (112, .pointer (some (lBA.add (Int.toNat atv * 1))))] (ps (by kernel_rfl)) ?_
          obtain ⟨x_5, q43, h⟩ := h
          refine N_val (some 113) (loadN 31 (.pointer (some (lBA.add (Int.toNat atv * 1))))) (.int .u64 x_5) (fun _=>by kernel_rfl) (loadN_run (loadOK_one (fun _=>by kernel_rfl) q43)) [(1, .int .i32 x), (5, .pointer ra), (7, .slice (some lBA) lN lC), (8, .int .i64 atv), (12, .int .u64 ra_3), (14, .int .i64 nv), (105, .bool false), (108, .bool true), (109, .int .u64 ra_4), (113, .int .u64 x_5)] (ps (by kernel_rfl)) ?_
          refine N_run 3 [(1, .int .i32 x), (5, .pointer ra), (7, .slice (some lBA) lN lC), (8, .int .i64 atv), (12, .int .u64 ra_3), (14, .int .i64 nv), (116, .bool (ra_4 != x_5))] (fun _=>by kernel_rfl) ?_
          refine N_end (by kernel_rfl) ?_
          refine S_then ?_
          by_cases c44 : ra_4 = x_5
          ·rw [if_pos c44] at h
           have b45 : (ra_4 != x_5) = false := bne_eq_false_iff_eq.mpr c44
           refine S_env [(1, .int .i32 x), (5, .pointer ra), (7, .slice (some lBA) lN lC), (8, .int .i64 atv), (12, .int .u64 ra_3), (14, .int .i64 nv), (116, .bool false)] (by simp only [b45, Bool.not_true, Bool.not_false]) ?_
           clear b45
           refine S_condF (.tmp 116) kk67 kk68 (by kernel_rfl) (by kernel_rfl) ?_
           refine S_skip (by kernel_rfl) ?_
           refine S_blockEnd ?_
           refine S_then ?_
           refine S_region 18 (Code.ops kk61) (by kernel_rfl) ?_
           refine N_run 3 [(1, .int .i32 x), (5, .pointer ra), (7, .slice (some lBA) lN lC), (8, .int .i64 atv), (12, .int .u64 ra_3), (14, .int .i64 (IntKind.wrap .i64 (nv + 1)))] (fun _=>by kernel_rfl) ?_
           refine N_end (by kernel_rfl) ?_
           refine S_then ?_
           exact S_round ((IntKind.wrap .i64 (nv + 1)) : Int) (sb (by kernel_rfl)) h
          ·rw [if_neg c44] at h
           have b45 : (ra_4 != x_5) = true := bne_iff_ne.mpr c44
           refine S_env [(1, .int .i32 x), (5, .pointer ra), (7, .slice (some lBA) lN lC), (8, .int .i64 atv), (12, .int .u64 ra_3), (14, .int .i64 nv), (116, .bool true)] (by simp only [b45, Bool.not_true, Bool.not_false]) ?_
           clear b45
           refine S_condT (.tmp 116) kk67 kk68 (by kernel_rfl) (by kernel_rfl) ?_
           refine S_seq kk69 kk70 (by kernel_rfl) ?_
           refine S_region 21 (Code.ops kk69) (by kernel_rfl) ?_
           refine N_run 1 [(4, .bool false)] (fun _=>by kernel_rfl) ?_
           refine N_end (by kernel_rfl) ?_
           refine S_then ?_
           refine S_ret (by kernel_rfl) ?_
           show At _ _ _ _ _ (Q .ret)
           exact S_done (fn := Try.f4) [.bool false] hQ (show ResOK _ _ _ [.tmp 4] _ from .tmp (by kernel_rfl) (.nil)) h
         ·rw [if_neg c40] at h
          have b41 : (decide (atv ≥ 0)) = false := decide_eq_false c40
          refine N_env [(1, .int .i32 x), (5, .pointer ra), (7, .slice lB lN lC), (8, .int .i64 atv), (12, .int .u64 ra_3), (14, .int .i64 nv), (15, .int .u64 ra_4), (105, .bool false), (108, .bool false)] (by simp only [b41, Bool.not_true, Bool.not_false]) ?_
          clear b41
          refine N_run 8 [(1, .int .i32 x), (5, .pointer ra), (7, .slice lB lN lC), (8, .int .i64 atv), (12, .int .u64 ra_3), (14, .int .i64 nv), (116, .bool false)] (fun _=>by kernel_rfl) ?_
          refine N_end (by kernel_rfl) ?_
          refine S_then ?_
          refine S_condF (.tmp 116) kk67 kk68 (by kernel_rfl) (by kernel_rfl) ?_
          refine S_skip (by kernel_rfl) ?_
          refine S_blockEnd ?_
          refine S_then ?_
          refine S_region 18 (Code.ops kk61) (by kernel_rfl) ?_
          refine N_run 3 [(1, .int .i32 x), (5, .pointer ra), (7, .slice lB lN lC), (8, .int .i64 atv), (12, .int .u64 ra_3), (14, .int .i64 (IntKind.wrap .i64 (nv + 1)))] (fun _=>by kernel_rfl) ?_
          refine N_end (by kernel_rfl) ?_
          refine S_then ?_
          exact S_round ((IntKind.wrap .i64 (nv + 1)) : Int) (sb (by kernel_rfl)) h
        ·rw [if_neg c38] at h
         have b39 : (ra_4 != 4) = true := bne_iff_ne.mpr c38
         refine N_env [(1, .int .i32 x), (5, .pointer ra), (7, .slice lB lN lC), (8, .int .i64 atv), (12, .int .u64 ra_3), (14, .int .i64 nv), (15, .int .u64 ra_4), (105, .bool true)] (by simp only [b39, Bool.not_true, Bool.not_false]) ?_
         clear b39
         refine N_run 11 [(1, .int .i32 x), (5, .pointer ra), (7, .slice lB lN lC), (8, .int .i64 atv), (12, .int .u64 ra_3), (14, .int .i64 nv), (116, .bool true)] (fun _=>by kernel_rfl) ?_
         refine N_end (by kernel_rfl) ?_
         refine S_then ?_
         refine S_condT (.tmp 116) kk67 kk68 (by kernel_rfl) (by kernel_rfl) ?_
         refine S_seq kk69 kk70 (by kernel_rfl) ?_
         refine S_region 21 (Code.ops kk69) (by kernel_rfl) ?_
         refine N_run 1 [(4, .bool false)] (fun _=>by kernel_rfl) ?_
         refine N_end (by kernel_rfl) ?_
         refine S_then ?_
         refine S_ret (by kernel_rfl) ?_
         show At _ _ _ _ _ (Q .ret)
         exact S_done (fn := Try.f4) [.bool false] hQ (show ResOK _ _ _ [.tmp 4] _ from .tmp (by kernel_rfl) (.nil)) h
       ·rw [if_neg c36] at h
        have b37 : (decide (atv < 0)) = false := decide_eq_false c36
        refine N_env [(1, .int .i32 x), (5, .pointer ra), (7, .slice lB lN lC), (8, .int .i64 atv), (12, .int .u64 ra_3), (14, .int .i64 nv), (15, .int .u64 ra_4), (97, .bool false), (100, .bool false)] (by simp only [b37, Bool.not_true, Bool.not_false]) ?_
        clear b37
        refine N_run 8 [(1, .int .i32 x), (5, .pointer ra), (7, .slice lB lN lC), (8, .int .i64 atv), (12, .int .u64 ra_3), (14, .int .i64 nv), (15, .int .u64 ra_4), (105, .bool false), (108, .bool (decide (atv ≥ 0)))] (fun _=>by kernel_rfl) ?_
        by_cases c46 : atv ≥ 0
        ·rw [if_pos c46] at h
         have b47 : (decide (atv ≥ 0)) = true := decide_eq_true c46
         refine N_env [(1, .int .i32 x), (5, .pointer ra), (7, .slice lB lN lC), (8, .int .i64 atv), (12, .int .u64 ra_3), (14, .int .i64 nv), (15, .int .u64 ra_4), (105, .bool false), (108, .bool true)] (by simp only [b47, Bool.not_true, Bool.not_false]) ?_
         clear b47
         refine N_run 3 [(1, .int .i32 x), (5, .pointer ra), (7, .slice lB lN lC), (8, .int .i64 atv), (12, .int .u64 ra_3), (14, .int .i64 nv), (105, .bool false), (108, .bool true), (109, .int .u64 ra_4), (110, .slice lB lN lC), (111, .int .i64 atv)] (fun _=>by kernel_rfl) ?_
         obtain ⟨lBA_2, rfl, h⟩ := h
         obtain ⟨q48, h⟩ := h
         refine N_val (some 112) (indexAtN 28 (.slice (some lBA_2) lN lC) (.int .i64 atv)) (.pointer (some (lBA_2.add (Int.toNat atv * 1)))) (fun _=>by kernel_rfl) (fun w _ => indexAt_run (P := Try.prog) (t := 28) (elem := 31) (sz := 1) (a := lBA_2) (len := lN) (cap := lC) (k := .i64) (i := atv) Try.underlying28 (fun _=>by kernel_rfl) q48.1 q48.2 w) [(1, .int .i32 x), (5, .pointer ra), (7, .slice (some lBA_2) lN lC), (8, .int .i64 atv), (12, .int .u64 ra_3), (14, .int .i64 nv), (105, .bool false), (108, .bool true), (109, .int .u64 ra_4), (112, .pointer (some (lBA_2.add (Int.toNat atv * 1))))] (ps (by kernel_rfl)) ?_
         obtain ⟨x_6, q49, h⟩ := h
         refine N_val (some 113) (loadN 31 (.pointer (some (lBA_2.add (Int.toNat atv * 1))))) (.int .u64 x_6) (fun _=>by kernel_rfl) (loadN_run (loadOK_one (fun _=>by kernel_rfl) q49)) [(1, .int .i32 x), (5, .pointer ra), (7, .slice (some lBA_2) lN lC), (8, .int .i64 atv), (12, .int .u64 ra_3), (14, .int .i64 nv), (105, .bool false), (108, .bool true), (109, .int .u64 ra_4), (113, .int .u64 x_6)] (ps (by kernel_rfl)) ?_
         refine N_run 3 [(1, .int .i32 x), (5, .pointer ra), (7, .slice (some lBA_2) lN lC), (8, .int .i64 atv), (12, .int .u64 ra_3), (14, .int .i64 nv), (116, .bool (ra_4 != x_6))] (fun _=>by kernel_rfl) ?_
         refine N_end (by kernel_rfl) ?_
         refine S_then ?_
         by_cases c50 : ra_4 = x_6
         ·rw [if_pos c50] at h
          have b51 : (ra_4 != x_6) = false := bne_eq_false_iff_eq.mpr c50
          refine S_env [(1, .int .i32 x), (5, .pointer ra), (7, .slice (some lBA_2) lN lC), (8, .int .i64 atv), (12, .int .u64 ra_3), (14, .int .i64 nv), (116, .bool false)] (by simp only [b51, Bool.not_true, Bool.not_false]) ?_
          clear b51
          refine S_condF (.tmp 116) kk67 kk68 (by kernel_rfl) (by kernel_rfl) ?_
          refine S_skip (by kernel_rfl) ?_
          refine S_blockEnd ?_
          refine S_then ?_
          refine S_region 18 (Code.ops kk61) (by kernel_rfl) ?_
          refine N_run 3 [(1, .int .i32 x), (5, .pointer ra), (7, .slice (some lBA_2) lN lC), (8, .int .i64 atv), (12, .int .u64 ra_3), (14, .int .i64 (IntKind.wrap .i64 (nv + 1)))] (fun _=>by kernel_rfl) ?_
          refine N_end (by kernel_rfl) ?_
          refine S_then ?_
          exact S_round ((IntKind.wrap .i64 (nv + 1)) : Int) (sb (by kernel_rfl)) h
         ·rw [if_neg c50] at h
          have b51 : (ra_4 != x_6) = true := bne_iff_ne.mpr c50
          refine S_env [(1, .int .i32 x), (5, .pointer ra), (7, .slice (some lBA_2) lN lC), (8, .int .i64 atv), (12, .int .u64 ra_3), (14, .int .i64 nv), (116, .bool true)] (by simp only [b51, Bool.not_true, Bool.not_false]) ?_
          clear b51
          refine S_condT (.tmp 116) kk67 kk68 (by kernel_rfl) (by kernel_rfl) ?_
          refine S_seq kk69 kk70 (by kernel_rfl) ?_
          refine S_region 21 (Code.ops kk69) (by kernel_rfl) ?_
          refine N_run 1 [(4, .bool false)] (fun _=>by kernel_rfl) ?_
          refine N_end (by kernel_rfl) ?_
          refine S_then ?_
          refine S_ret (by kernel_rfl) ?_
          show At _ _ _ _ _ (Q .ret)
          exact S_done (fn := Try.f4) [.bool false] hQ (show ResOK _ _ _ [.tmp 4] _ from .tmp (by kernel_rfl) (.nil)) h
        ·rw [if_neg c46] at h
         have b47 : (decide (atv ≥ 0)) = false := decide_eq_false c46
         refine N_env [(1, .int .i32 x), (5, .pointer ra), (7, .slice lB lN lC), (8, .int .i64 atv), (12, .int .u64 ra_3), (14, .int .i64 nv), (15, .int .u64 ra_4), (105, .bool false), (108, .bool false)] (by simp only [b47, Bool.not_true, Bool.not_false]) ?_
         clear b47
         refine N_run 8 [(1, .int .i32 x), (5, .pointer ra), (7, .slice lB lN lC), (8, .int .i64 atv), (12, .int .u64 ra_3), (14, .int .i64 nv), (116, .bool false)] (fun _=>by kernel_rfl) ?_
         refine N_end (by kernel_rfl) ?_
         refine S_then ?_
         refine S_condF (.tmp 116) kk67 kk68 (by kernel_rfl) (by kernel_rfl) ?_
         refine S_skip (by kernel_rfl) ?_
         refine S_blockEnd ?_
         refine S_then ?_
         refine S_region 18 (Code.ops kk61) (by kernel_rfl) ?_
         refine N_run 3 [(1, .int .i32 x), (5, .pointer ra), (7, .slice lB lN lC), (8, .int .i64 atv), (12, .int .u64 ra_3), (14, .int .i64 (IntKind.wrap .i64 (nv + 1)))] (fun _=>by kernel_rfl) ?_
         refine N_end (by kernel_rfl) ?_
         refine S_then ?_
         exact S_round ((IntKind.wrap .i64 (nv + 1)) : Int) (sb (by kernel_rfl)) h
      ·rw [if_neg c34] at h
       have b35 : (rb_4 != 0) = true := bne_iff_ne.mpr c34
       refine N_env [(1, .int .i32 x), (5, .pointer ra), (7, .slice lB lN lC), (8, .int .i64 atv), (12, .int .u64 ra_3), (14, .int .i64 nv), (15, .int .u64 ra_4), (97, .bool true)] (by simp only [b35, Bool.not_true, Bool.not_false]) ?_
       clear b35
       refine N_run 19 [(1, .int .i32 x), (5, .pointer ra), (7, .slice lB lN lC), (8, .int .i64 atv), (12, .int .u64 ra_3), (14, .int .i64 nv), (116, .bool true)] (fun _=>by kernel_rfl) ?_
       refine N_end (by kernel_rfl) ?_
       refine S_then ?_
       refine S_condT (.tmp 116) kk67 kk68 (by kernel_rfl) (by kernel_rfl) ?_
       refine S_seq kk69 kk70 (by kernel_rfl) ?_
       refine S_region 21 (Code.ops kk69) (by kernel_rfl) ?_
       refine N_run 1 [(4, .bool false)] (fun _=>by kernel_rfl) ?_
       refine N_end (by kernel_rfl) ?_
       refine S_then ?_
       refine S_ret (by kernel_rfl) ?_
       show At _ _ _ _ _ (Q .ret)
       exact S_done (fn := Try.f4) [.bool false] hQ (show ResOK _ _ _ [.tmp 4] _ from .tmp (by kernel_rfl) (.nil)) h
     ·rw [if_neg c30] at h
      have b31 : (decide (nv ≤ 23)) = false := decide_eq_false c30
      refine S_env [(1, .int .i32 x), (5, .pointer ra), (7, .slice lB lN lC), (8, .int .i64 atv), (12, .int .u64 ra_3), (14, .int .i64 nv), (81, .bool false)] (by simp only [b31, Bool.not_true, Bool.not_false]) ?_
      clear b31
      refine S_condF (.tmp 81) kk58 kk59 (by kernel_rfl) (by kernel_rfl) ?_
      refine S_exit 2 (by kernel_rfl) ?_
      refine S_exitThen ?_
      refine S_exitThen ?_
      refine S_exitHere ?_
      refine S_then ?_
      refine S_seq kk71 kk72 (by kernel_rfl) ?_
      refine S_seq kk73 kk74 (by kernel_rfl) ?_
      refine S_region 22 (Code.ops kk73) (by kernel_rfl) ?_
      refine N_run 2 [(5, .pointer ra), (7, .slice lB lN lC), (8, .int .i64 atv), (12, .int .u64 ra_3), (118, .bool (decide (atv < 0)))] (fun _=>by kernel_rfl) ?_
      refine N_end (by kernel_rfl) ?_
      refine S_then ?_
      by_cases c52 : atv < 0
      ·rw [if_pos c52] at h
       have b53 : (decide (atv < 0)) = true := decide_eq_true c52
       refine S_env [(5, .pointer ra), (7, .slice lB lN lC), (8, .int .i64 atv), (12, .int .u64 ra_3), (118, .bool true)] (by simp only [b53, Bool.not_true, Bool.not_false]) ?_
       clear b53
       refine S_condT (.tmp 118) kk75 kk76 (by kernel_rfl) (by kernel_rfl) ?_
       refine S_seq kk77 kk78 (by kernel_rfl) ?_
       refine S_region 23 (Code.ops kk77) (by kernel_rfl) ?_
       refine N_sub [] (sb (by kernel_rfl)) ?_
       refine N_call (some 119) 7 #[] (fun _=>by kernel_rfl) h ?_; clear h
       rintro v_6 H12 ⟨x_7, rfl, h⟩
       refine ⟨[(119, .bool x_7)], ps (by kernel_rfl), ?_⟩
       refine N_run 1 [(4, .bool x_7)] (fun _=>by kernel_rfl) ?_
       refine N_end (by kernel_rfl) ?_
       refine S_then ?_
       refine S_ret (by kernel_rfl) ?_
       show At _ _ _ _ _ (Q .ret)
       exact S_done (fn := Try.f4) [.bool x_7] hQ (show ResOK _ _ _ [.tmp 4] _ from .tmp (by kernel_rfl) (.nil)) h
      ·rw [if_neg c52] at h
       have b53 : (decide (atv < 0)) = false := decide_eq_false c52
       refine S_env [(5, .pointer ra), (7, .slice lB lN lC), (8, .int .i64 atv), (12, .int .u64 ra_3), (118, .bool false)] (by simp only [b53, Bool.not_true, Bool.not_false]) ?_
       clear b53
       refine S_condF (.tmp 118) kk75 kk76 (by kernel_rfl) (by kernel_rfl) ?_
       refine S_skip (by kernel_rfl) ?_
       refine S_then ?_
       refine S_seq kk79 kk80 (by kernel_rfl) ?_
       refine S_region 24 (Code.ops kk79) (by kernel_rfl) ?_
       refine N_run 3 [(5, .pointer ra), (7, .slice lB lN lC), (8, .int .i64 atv), (12, .int .u64 ra_3), (121, .pointer ra), (122, .slice lB lN lC), (123, .int .i64 atv)] (fun _=>by kernel_rfl) ?_
       obtain ⟨lBA_3, rfl, h⟩ := h
       obtain ⟨q54, h⟩ := h
       refine N_val (some 124) (indexAtN 28 (.slice (some lBA_3) lN lC) (.int .i64 atv)) (.pointer (some (lBA_3.add (Int.toNat atv * 1)))) (fun _=>by kernel_rfl) (fun w _ => indexAt_run (P := Try.prog) (t := 28) (elem := 31) (sz := 1) (a := lBA_3) (len := lN) (cap := lC) (k := .i64) (i := atv) Try.underlying28 (fun _=>by kernel_rfl) q54.1 q54.2 w) [(5, .pointer ra), (7, .slice (some lBA_3) lN lC), (8, .int .i64 atv), (12, .int .u64 ra_3), (121, .pointer ra), (124, .pointer (some (lBA_3.add (Int.toNat atv * 1))))] (ps (by kernel_rfl)) ?_
       obtain ⟨x_8, q55, h⟩ := h
       refine N_val (some 125) (loadN 31 (.pointer (some (lBA_3.add (Int.toNat atv * 1))))) (.int .u64 x_8) (fun _=>by kernel_rfl) (loadN_run (loadOK_one (fun _=>by kernel_rfl) q55)) [(5, .pointer ra), (7, .slice (some lBA_3) lN lC), (8, .int .i64 atv), (12, .int .u64 ra_3), (121, .pointer ra), (125, .int .u64 x_8)] (ps (by kernel_rfl)) ?_
       refine N_run 1 [(5, .pointer ra), (7, .slice (some lBA_3) lN lC), (8, .int .i64 atv), (121, .pointer ra), (125, .int .u64 x_8), (126, .int .u64 ra_3)] (fun _=>by kernel_rfl) ?_
       refine N_new (some 127) (fun b => .slice (some (Addr.mk b 0 none)) 2 2) (.cells #[.int .u64 x_8, .int .u64 ra_3] 31) (fun _=>by kernel_rfl) ?_
       intro b_3 H13 e56 e57
       replace h := h b_3 H13 e56 e57
       refine ⟨[(5, .pointer ra), (7, .slice (some lBA_3) lN lC), (8, .int .i64 atv), (121, .pointer ra), (127, .slice (some (Addr.mk b_3 0 none)) 2 2)], ps (by kernel_rfl), ?_⟩
       refine N_call (some 128) 10 #[.pointer ra, .int .i64 18, .slice (some (Addr.mk b_3 0 none)) 2 2] (fun _=>by kernel_rfl) h ?_; clear h
       rintro v_7 H14 ⟨ra_5, rb_5, rfl, h⟩
       refine ⟨[(5, .pointer ra), (7, .slice (some lBA_3) lN lC), (8, .int .i64 atv), (128, .tuple #[.int .u64 ra_5, .int .i64 rb_5])], ps (by kernel_rfl), ?_⟩
       refine N_run 5 [(5, .pointer ra), (7, .slice (some lBA_3) lN lC), (8, .int .i64 atv), (17, .int .u64 ra_5), (18, .int .i64 rb_5)] (fun _=>by kernel_rfl) ?_
       refine N_end (by kernel_rfl) ?_
       refine S_then ?_
       refine S_seq kk81 kk82 (by kernel_rfl) ?_
       refine S_region 25 (Code.ops kk81) (by kernel_rfl) ?_
       refine N_run 2 [(7, .slice (some lBA_3) lN lC), (8, .int .i64 atv), (18, .int .i64 rb_5), (132, .pointer ra), (133, .int .u64 ra_5)] (fun _=>by kernel_rfl) ?_
       refine N_call (some 134) 11 #[.pointer ra, .int .u64 ra_5] (fun _=>by kernel_rfl) h ?_; clear h
       rintro v_8 H15 ⟨raB, raN, raC, rb_6, rfl, h⟩
       refine ⟨[(7, .slice (some lBA_3) lN lC), (8, .int .i64 atv), (18, .int .i64 rb_5), (134, .tuple #[.slice raB raN raC, .bool rb_6])], ps (by kernel_rfl), ?_⟩
       refine N_run 5 [(7, .slice (some lBA_3) lN lC), (8, .int .i64 atv), (18, .int .i64 rb_5), (19, .slice raB raN raC), (20, .bool rb_6)] (fun _=>by kernel_rfl) ?_
       refine N_end (by kernel_rfl) ?_
       refine S_then ?_
       refine S_seq kk83 kk84 (by kernel_rfl) ?_
       refine S_region 26 (Code.ops kk83) (by kernel_rfl) ?_
       refine N_run 3 [(7, .slice (some lBA_3) lN lC), (8, .int .i64 atv), (19, .slice raB raN raC), (20, .bool rb_6), (139, .bool (rb_5 == 0))] (fun _=>by kernel_rfl) ?_
       by_cases c58 : rb_5 = 0
       ·rw [if_pos c58] at h
        have b59 : (rb_5 == 0) = true := beq_iff_eq.mpr c58
        refine N_env [(7, .slice (some lBA_3) lN lC), (8, .int .i64 atv), (19, .slice raB raN raC), (20, .bool rb_6), (139, .bool true)] (by simp only [b59, Bool.not_true, Bool.not_false]) ?_
        clear b59
        refine N_run 3 [(7, .slice (some lBA_3) lN lC), (8, .int .i64 atv), (19, .slice raB raN raC), (142, .bool rb_6)] (fun _=>by kernel_rfl) ?_
        by_cases c60 : rb_6 = true
        ·rw [if_pos c60] at h
         have b61 : rb_6 = true := c60
         refine N_env [(7, .slice (some lBA_3) lN lC), (8, .int .i64 atv), (19, .slice raB raN raC), (142, .bool true)] (by simp only [b61, Bool.not_true, Bool.not_false]) ?_
         clear b61
         refine N_run 3 [(142, .bool true), (143, .slice raB raN raC), (144, .slice (some lBA_3) lN lC), (145, .int .i64 atv)] (fun _=>by kernel_rfl) ?_
         obtain ⟨lo, hi, q62, q63, q64, q65, h⟩ := h
         obtain ⟨sl, e66⟩ : ∃ B, B = (if lC = lo then (some lBA_3) else Option.map (fun a : Addr => a.add (lo * 1)) (some lBA_3)) := ⟨_, rfl⟩
         replace h := h sl e66
         refine N_val (some 146) (sliceN 28 (.slice (some lBA_3) lN lC) (some (.int .i64 atv)) none none) (.slice sl (hi - lo) (lC - lo)) (fun _=>by kernel_rfl) (fun w _ => (slice_run (P := Try.prog) (t := 28) (elem := 31) (sz := 1) (a := (some lBA_3)) (len := lN) (cap := lC) (some (.int .i64 atv)) none lo hi Try.underlying28 (fun _=>by kernel_rfl) (.inr ⟨.i64, by rw [q62]⟩) (.inl ⟨rfl, q63⟩) q64 q65 w).trans (by rw [e66]; try rfl)) [(142, .bool true), (143, .slice raB raN raC), (146, .slice sl (hi - lo) (lC - lo))] (ps (by kernel_rfl)) ?_
         refine N_call (some 147) 12 #[.slice raB raN raC, .slice sl (hi - lo) (lC - lo)] (fun _=>by kernel_rfl) h ?_; clear h
         rintro v_9 H16 ⟨x_9, rfl, h⟩
         refine ⟨[(142, .bool true), (147, .bool x_9)], ps (by kernel_rfl), ?_⟩
         refine N_run 2 [(149, .bool x_9)] (fun _=>by kernel_rfl) ?_
         by_cases c67 : x_9 = true
         ·rw [if_pos c67] at h
          have b68 : x_9 = true := c67
          refine N_env [(149, .bool true)] (by simp only [b68, Bool.not_true, Bool.not_false]) ?_
          clear b68
          refine N_call (some 150) 7 #[] (fun _=>by kernel_rfl) h ?_; clear h
          rintro v_10 H17 ⟨x_10, rfl, h⟩
          refine ⟨[(149, .bool true), (150, .bool x_10)], ps (by kernel_rfl), ?_⟩
          refine N_run 2 [(4, .bool x_10)] (fun _=>by kernel_rfl) ?_
          refine N_end (by kernel_rfl) ?_
          refine S_then ?_
          refine S_ret (by kernel_rfl) ?_
          show At _ _ _ _ _ (Q .ret)
          exact S_done (fn := Try.f4) [.bool x_10] hQ (show ResOK _ _ _ [.tmp 4] _ from .tmp (by kernel_rfl) (.nil)) h
         ·rw [if_neg c67] at h
          have b68 : x_9 = false := eq_false_of_ne_true c67
          refine N_env [(149, .bool false)] (by simp only [b68, Bool.not_true, Bool.not_false]) ?_
          clear b68
          refine N_run 3 [(4, .bool false)] (fun _=>by kernel_rfl) ?_
          refine N_end (by kernel_rfl) ?_
          refine S_then ?_
          refine S_ret (by kernel_rfl) ?_
          show At _ _ _ _ _ (Q .ret)
          exact S_done (fn := Try.f4) [.bool false] hQ (show ResOK _ _ _ [.tmp 4] _ from .tmp (by kernel_rfl) (.nil)) h
        ·rw [if_neg c60] at h
         have b61 : rb_6 = false := eq_false_of_ne_true c60
         refine N_env [(7, .slice (some lBA_3) lN lC), (8, .int .i64 atv), (19, .slice raB raN raC), (142, .bool false)] (by simp only [b61, Bool.not_true, Bool.not_false]) ?_
         clear b61
         refine N_run 10 [(4, .bool false)] (fun _=>by kernel_rfl) ?_
         refine N_end (by kernel_rfl) ?_
         refine S_then ?_
         refine S_ret (by kernel_rfl) ?_
         show At _ _ _ _ _ (Q .ret)
         exact S_done (fn := Try.f4) [.bool false] hQ (show ResOK _ _ _ [.tmp 4] _ from .tmp (by kernel_rfl) (.nil)) h
       ·rw [if_neg c58] at h
        have b59 : (rb_5 == 0) = false := beq_eq_false_iff_ne.mpr c58
        refine N_env [(7, .slice (some lBA_3) lN lC), (8, .int .i64 atv), (19, .slice raB raN raC), (20, .bool rb_6), (139, .bool false)] (by simp only [b59, Bool.not_true, Bool.not_false]) ?_
        clear b59
        refine N_run 13 [(4, .bool false)] (fun _=>by kernel_rfl) ?_
        refine N_end (by kernel_rfl) ?_
        refine S_then ?_
        refine S_ret (by kernel_rfl) ?_
        show At _ _ _ _ _ (Q .ret)
        exact S_done (fn := Try.f4) [.bool false] hQ (show ResOK _ _ _ [.tmp 4] _ from .tmp (by kernel_rfl) (.nil)) h
    ·rw [if_neg c25] at h
     have b26 : (!rb_3) = true := congrArg Bool.not (eq_false_of_ne_true c25)
     have b262 : rb_3 = false := eq_false_of_ne_true c25
     refine S_env [(1, .int .i32 x), (5, .pointer ra), (7, .slice lB lN lC), (8, .int .i64 atv), (12, .int .u64 ra_3), (79, .bool true)] (by simp only [b26, b262, Bool.not_true, Bool.not_false]) ?_
     clear b26 b262
     refine S_condT (.tmp 79) kk46 kk47 (by kernel_rfl) (by kernel_rfl) ?_
     refine S_seq kk85 kk86 (by kernel_rfl) ?_
     refine S_region 15 (Code.ops kk85) (by kernel_rfl) ?_
     refine N_run 1 [(4, .bool false)] (fun _=>by kernel_rfl) ?_
     refine N_end (by kernel_rfl) ?_
     refine S_then ?_
     refine S_ret (by kernel_rfl) ?_
     show At _ _ _ _ _ (Q .ret)
     exact S_done (fn := Try.f4) [.bool false] hQ (show ResOK _ _ _ [.tmp 4] _ from .tmp (by kernel_rfl) (.nil)) h
 ·intro hk
  refine N_run 3 [(0, .slice keysB keysN keysC), (1, .int .i32 x), (5, .pointer ra), (6, .int .i64 rb), (27, .bool (rb != 0))] (fun _=>by kernel_rfl) ?_
  by_cases c1 : rb = 0
  ·have b2 : (rb != 0) = false := bne_eq_false_iff_eq.mpr c1
   refine N_env [(0, .slice keysB keysN keysC), (1, .int .i32 x), (5, .pointer ra), (6, .int .i64 rb), (27, .bool false)] (by simp only [b2, Bool.not_true, Bool.not_false]) ?_
   refine N_run 4 [(0, .slice keysB keysN keysC), (1, .int .i32 x), (5, .pointer ra), (6, .int .i64 rb), (31, .bool (decide ((keysN : Int) > 200)))] (fun _=>by kernel_rfl) ?_
   refine N_end (by kernel_rfl) ?_
   refine S_env [(0, .slice keysB keysN keysC), (1, .int .i32 x), (5, .pointer ra), (6, .int .i64 rb), (31, .bool ((rb != 0) || (decide ((keysN : Int) > 200))))] (by simp only [b2, Bool.true_or, Bool.false_or, Bool.or_true, Bool.or_false, Bool.true_and, Bool.false_and, Bool.and_true, Bool.and_false, Bool.not_true, Bool.not_false, cond_true, cond_false]) ?_
   exact hk
  ·have b2 : (rb != 0) = true := bne_iff_ne.mpr c1
   refine N_env [(0, .slice keysB keysN keysC), (1, .int .i32 x), (5, .pointer ra), (6, .int .i64 rb), (27, .bool true)] (by simp only [b2, Bool.not_true, Bool.not_false]) ?_
   refine N_run 4 [(0, .slice keysB keysN keysC), (1, .int .i32 x), (5, .pointer ra), (6, .int .i64 rb), (31, .bool true)] (fun _=>by kernel_rfl) ?_
   refine N_end (by kernel_rfl) ?_
   refine S_env [(0, .slice keysB keysN keysC), (1, .int .i32 x), (5, .pointer ra), (6, .int .i64 rb), (31, .bool ((rb != 0) || (decide ((keysN : Int) > 200))))] (by simp only [b2, Bool.true_or, Bool.false_or, Bool.or_true, Bool.or_false, Bool.true_and, Bool.false_and, Bool.and_true, Bool.and_false, Bool.not_true, Bool.not_false, cond_true, cond_false]) ?_
   exact hk
end morainelaw22_ListsAssoc

end Go.Proofs.Ythlohokmnajpoaa
