/-
 Written by a program of mine (gen.py): for functions of this translation a predicate transformer over heaps (.pt), and the proof that it is sound for the call (.link).
-/
import Derived.Test.YthlohokmnajpoaaFnsC
set_option linter.unusedSimpArgs false
set_option linter.unusedVariables false
set_option maxHeartbeats 1000000
noncomputable section
namespace Go.Proofs.Ythlohokmnajpoaa
open Go
/-! moraine/morainelaw22.ListsSame -/
namespace morainelaw22_ListsSame
def kk0 := Func.code Try.f5
def kk1 := Code.fa kk0
def kk2 := Code.fb kk0
def kk3 := Code.fa kk2
def kk4 := Code.fb kk2
def kk5 := Code.fa kk4
def kk6 := Code.fb kk4
def kk7 := Code.fa kk5
def kk8 := Code.fb kk5
def kk9 := Code.fa kk8
def kk10 := Code.fb kk8
def kk11 := Code.fa kk9
def kk12 := Code.fb kk9
def kk13 := Code.fa kk6
def kk14 := Code.fb kk6
def kk15 := Code.fa kk14
def kk16 := Code.fb kk14
def kk17 := Code.fa kk16
def kk18 := Code.fb kk16
def kk19 := Code.fa kk18
def kk20 := Code.fb kk18
def kk21 := Code.fa kk19
def kk22 := Code.fb kk19
def kk23 := Code.fa kk22
def kk24 := Code.fb kk22
def kk25 := Code.fa kk23
def kk26 := Code.fb kk23
def kk27 := Code.fa kk20
def kk28 := Code.fb kk20
def kk29 := Code.fa kk28
def kk30 := Code.fb kk28
def kk31 := Code.fa kk30
def kk32 := Code.fb kk30
def kk33 := Code.fa kk32
def kk34 := Code.fb kk32
def kk35 := Code.fa kk34
def kk36 := Code.fb kk34
def kk37 := Code.fa kk36
def kk38 := Code.fb kk36
def kk39 := Code.fa kk37
def kk40 := Code.fb kk37
def kk41 := Code.fa kk40
def kk42 := Code.fb kk40
def kk43 := Code.fa kk38
def kk44 := Code.fb kk38
def kk45 := Code.fa kk43
def kk46 := Code.fb kk43
def kk47 := Code.fa kk46
def kk48 := Code.fb kk46
def kk49 := Code.fa kk47
def kk50 := Code.fb kk47
def kk51 := Code.fa kk44
def kk52 := Code.fb kk44
def kk53 := Code.fa kk52
def kk54 := Code.fb kk52
def kk55 := Code.fa kk53
def kk56 := Code.fb kk53
def kk57 := Code.fa kk56
def kk58 := Code.fb kk56
def kk59 := Code.fa kk54
def kk60 := Code.fb kk54
def kk61 := Code.fa kk60
def kk62 := Code.fb kk60
def kk63 := Code.fa kk61
def kk64 := Code.fb kk61
def kk65 := Code.fa kk64
def kk66 := Code.fa kk65
def kk67 := Code.fa kk66
def kk68 := Code.fb kk66
def kk69 := Code.fa kk67
def kk70 := Code.fb kk67
def kk71 := Code.fa kk70
def kk72 := Code.fb kk70
def kk73 := Code.fa kk68
def kk74 := Code.fb kk68
def kk75 := Code.fa kk73
def kk76 := Code.fa kk75
def kk77 := Code.fb kk75
def kk78 := Code.fa kk77
def kk79 := Code.fb kk77
def kk80 := Code.fa kk62
def kk81 := Code.fb kk62
def kk82 := Code.fa kk80
def kk83 := Code.fb kk80
def kk84 := Code.fa kk83
def kk85 := Code.fb kk83
def kk86 := Code.fa kk84
def kk87 := Code.fb kk84
def kk88 := Code.fa kk81
def kk89 := Code.fb kk81
def kk90 := Code.fa kk89
def kk91 := Code.fb kk89
def kk92 := Code.fa kk57
def kk93 := Code.fb kk57
def kk94 := Code.fa kk41
def kk95 := Code.fb kk41
end morainelaw22_ListsSame
def morainelaw22_ListsSame.pt (aB : Option Addr) (aN : Nat) (aC : Nat) (bB : Option Addr) (bN : Nat) (bC : Nat) (x : Int) (H : Array Obj) (R : Value → Array Obj → Prop) : Prop :=
 obj_New.C 400 H (fun v H1 => ∃ ra : Option Addr, ∃ rb : Int, v = .tuple #[.pointer ra, .int .i64 rb] ∧ 
 if (((rb != 0) || (decide ((aN : Int) > 300))) || (decide ((bN : Int) > 300))) = true then (
 ∃ J : Bool → Array Obj → Prop, (
 if rb = 0 then (
 morainelaw22_awake.C  H1 (fun v_2 H3 => ∃ x_2 : Bool, v_2 = .bool x_2 ∧ 
 J x_2 H3))
 else
 J false H1) ∧ ∀ (s6 : Bool) (H2 : Array Obj), J s6 H2 →
 R (.bool s6) H2)
 else
 morainelaw22_fixes.C aB aN aC H1 (fun v_3 H4 => ∃ xB : Option Addr, ∃ xN : Nat, ∃ xC : Nat, v_3 = .slice xB xN xC ∧ 
 morainelaw22_of.C ra xB xN xC H4 (fun v_4 H5 => ∃ ra_2 : Int, ∃ rb_2 : Bool, v_4 = .tuple #[.int .u64 ra_2, .bool rb_2] ∧ 
 morainelaw22_fixes.C bB bN bC H5 (fun v_5 H6 => ∃ xB_2 : Option Addr, ∃ xN_2 : Nat, ∃ xC_2 : Nat, v_5 = .slice xB_2 xN_2 xC_2 ∧ 
 morainelaw22_of.C ra xB_2 xN_2 xC_2 H6 (fun v_6 H7 => ∃ ra_3 : Int, ∃ rb_3 : Bool, v_6 = .tuple #[.int .u64 ra_3, .bool rb_3] ∧ 
 morainelaw22_fixes.C aB aN aC H7 (fun v_7 H8 => ∃ xB_3 : Option Addr, ∃ xN_3 : Nat, ∃ xC_3 : Nat, v_7 = .slice xB_3 xN_3 xC_3 ∧ 
 morainelaw22_of.C ra xB_3 xN_3 xC_3 H8 (fun v_8 H9 => ∃ ra_4 : Int, ∃ rb_4 : Bool, v_8 = .tuple #[.int .u64 ra_4, .bool rb_4] ∧ 
 if (((!rb_2) || (!rb_3)) || (!rb_4)) = true then (
 R (.bool false) H9)
 else
 ∀ (b : Nat) (H10 : Array Obj), b = H9.size → H10 = H9.push (.cells #[.int .u64 ra_2, .int .u64 ra_3] 31) →
 lists_Apply.C ra 24 (some (Addr.mk b 0 none)) 2 2 H10 (fun v_9 H11 => ∃ ra_5 : Int, ∃ rb_5 : Int, v_9 = .tuple #[.int .u64 ra_5, .int .i64 rb_5] ∧ 
 ∀ (b_2 : Nat) (H12 : Array Obj), b_2 = H11.size → H12 = H11.push (.cells #[.int .u64 ra_2, .int .u64 ra_3] 31) →
 lists_Apply.C ra 25 (some (Addr.mk b_2 0 none)) 2 2 H12 (fun v_10 H13 => ∃ ra_6 : Int, ∃ rb_6 : Int, v_10 = .tuple #[.int .u64 ra_6, .int .i64 rb_6] ∧ 
 lists_Equal.C ra ra_2 ra_3 H13 (fun v_11 H14 => ∃ ra_7 : Bool, ∃ rb_7 : Int, v_11 = .tuple #[.bool ra_7, .int .i64 rb_7] ∧ 
 lists_Equal.C ra ra_3 ra_2 H14 (fun v_12 H15 => ∃ ra_8 : Bool, ∃ rb_8 : Int, v_12 = .tuple #[.bool ra_8, .int .i64 rb_8] ∧ 
 lists_Equal.C ra ra_2 ra_4 H15 (fun v_13 H16 => ∃ ra_9 : Bool, ∃ rb_9 : Int, v_13 = .tuple #[.bool ra_9, .int .i64 rb_9] ∧ 
 if rb_7 = 0 then (
 if rb_8 = 0 then (
 if rb_9 = 0 then (
 if ra_7 = ra_8 then (
 if ra_9 = true then (
 morainelaw22_fixes.C aB aN aC H16 (fun v_14 H17 => ∃ xB_4 : Option Addr, ∃ xN_4 : Nat, ∃ xC_4 : Nat, v_14 = .slice xB_4 xN_4 xC_4 ∧ 
 morainelaw22_fixes.C bB bN bC H17 (fun v_15 H18 => ∃ xB_5 : Option Addr, ∃ xN_5 : Nat, ∃ xC_5 : Nat, v_15 = .slice xB_5 xN_5 xC_5 ∧ 
 morainelaw22_same.C xB_4 xN_4 xC_4 xB_5 xN_5 xC_5 H18 (fun v_16 H19 => ∃ x_3 : Bool, v_16 = .bool x_3 ∧ 
 if ra_7 = x_3 then (
 if (((ra_5 == 12) && (ra_6 != 12)) || ((ra_6 == 12) && (!ra_7))) = true then (
 R (.bool false) H19)
 else
 ∀ (b_3 : Nat) (H20 : Array Obj), b_3 = H19.size → H20 = H19.push (.cells #[.int .u64 (ishl .u64 (IntKind.wrap .u64 x) 3), .int .u64 ra_2] 31) →
 lists_Apply.C ra 20 (some (Addr.mk b_3 0 none)) 2 2 H20 (fun v_17 H21 => ∃ ra_10 : Int, ∃ rb_10 : Int, v_17 = .tuple #[.int .u64 ra_10, .int .i64 rb_10] ∧ 
 if rb_10 = 0 then (
 ∃ (I67 : Int → Int → Array Obj → Prop) (m67 : Int → Int → Array Obj → Nat), I67 (-1) (IntKind.wrap .i64 ((aN : Int) - 1)) H21 ∧ ∀ (atv : Int) (i : Int) (H22 : Array Obj), I67 atv i H22 →
 if i ≥ 0 then (
 ∃ aBA : Addr, aB = some aBA ∧
 ((0 : Int) ≤ i ∧ i < (aN : Int)) ∧
 ∃ x_4 : Int, hat H22 (aBA.add (Int.toNat i * 1)) = some (.int .i32 x_4) ∧
 if x_4 = x then (
 (I67 i (IntKind.wrap .i64 (i - 1)) H22 ∧ m67 i (IntKind.wrap .i64 (i - 1)) H22 < m67 atv i H22))
 else
 (I67 atv (IntKind.wrap .i64 (i - 1)) H22 ∧ m67 atv (IntKind.wrap .i64 (i - 1)) H22 < m67 atv i H22))
 else
 if atv < 0 then (
 if ra_10 = 4 then (
 morainelaw22_awake.C  H22 (fun v_18 H23 => ∃ x_5 : Bool, v_18 = .bool x_5 ∧ 
 R (.bool x_5) H23))
 else
 R (.bool false) H22)
 else
 lists_List.C ra ra_10 H22 (fun v_19 H24 => ∃ raB : Option Addr, ∃ raN : Nat, ∃ raC : Nat, ∃ rb_11 : Bool, v_19 = .tuple #[.slice raB raN raC, .bool rb_11] ∧ 
 if rb_11 = true then (
 ∃ (lo hi : Nat), atv = (lo : Int) ∧ hi = aN ∧ lo ≤ hi ∧ hi ≤ aC ∧
 ∀ sl : Option Addr, sl = (if aC = lo then aB else Option.map (fun a : Addr => a.add (lo * 1)) aB) →
 morainelaw22_fixes.C sl (hi - lo) (aC - lo) H24 (fun v_20 H25 => ∃ xB_6 : Option Addr, ∃ xN_6 : Nat, ∃ xC_6 : Nat, v_20 = .slice xB_6 xN_6 xC_6 ∧ 
 morainelaw22_same.C raB raN raC xB_6 xN_6 xC_6 H25 (fun v_21 H26 => ∃ x_6 : Bool, v_21 = .bool x_6 ∧ 
 if x_6 = true then (
 morainelaw22_awake.C  H26 (fun v_22 H27 => ∃ x_7 : Bool, v_22 = .bool x_7 ∧ 
 R (.bool x_7) H27))
 else
 R (.bool false) H26)))
 else
 R (.bool false) H24))
 else
 R (.bool false) H21))
 else
 R (.bool false) H19))))
 else
 R (.bool false) H16)
 else
 R (.bool false) H16)
 else
 R (.bool false) H16)
 else
 R (.bool false) H16)
 else
 R (.bool false) H16))))))))))))
namespace morainelaw22_ListsSame
set_option maxRecDepth 100000 in
theorem link {aB : Option Addr} {aN : Nat} {aC : Nat} {bB : Option Addr} {bN : Nat} {bC : Nat} {x : Int} {H : Array Obj} {R : Value → Array Obj → Prop} (h : pt aB aN aC bB bN bC x H R) : C aB aN aC bB bN bC x H R := by
 refine S_enter (fn := Try.f5) (c := kk0) 210 Try.func5 (by kernel_rfl) (by kernel_rfl) (Nat.le_of_ble_eq_true (by kernel_rfl)) ?_
 intro w0 Q hQ
 unfold pt at h
 refine S_sub [(0, .slice aB aN aC), (1, .slice bB bN bC), (2, .int .i32 x)] (sb (by kernel_rfl)) ?_
 refine T_sr 0 kk1 kk2 ?_
 refine N_run 1 [(0, .slice aB aN aC), (1, .slice bB bN bC), (2, .int .i32 x)] (fun _=>by kernel_rfl) ?_
 refine T_e ?_
 refine T_sr 1 kk3 kk4 ?_
 refine N_call (some 29) 6 #[.int .i64 400] (fun _=>by kernel_rfl) h ?_; clear h
 rintro v H1 ⟨ra, rb, rfl, h⟩
 refine ⟨[(0, .slice aB aN aC), (1, .slice bB bN bC), (2, .int .i32 x), (29, .tuple #[.pointer ra, .int .i64 rb])], ps (by kernel_rfl), ?_⟩
 refine N_run 5 [(0, .slice aB aN aC), (1, .slice bB bN bC), (2, .int .i32 x), (7, .pointer ra), (8, .int .i64 rb)] (fun _=>by kernel_rfl) ?_
 refine T_e ?_
 refine S_seq kk5 kk6 (by kernel_rfl) ?_
 refine T_sr 2 kk7 kk8 ?_
 refine N_cut [(0, .slice aB aN aC), (1, .slice bB bN bC), (2, .int .i32 x), (7, .pointer ra), (8, .int .i64 rb), (43, .bool (((rb != 0) || (decide ((aN : Int) > 300))) || (decide ((bN : Int) > 300))))] ?_ ?_
 ·refine S_then ?_
  by_cases c5 : (((rb != 0) || (decide ((aN : Int) > 300))) || (decide ((bN : Int) > 300))) = true
  ·rw [if_pos c5] at h
   have b6 : (((rb != 0) || (decide ((aN : Int) > 300))) || (decide ((bN : Int) > 300))) = true := c5
   refine S_env [(0, .slice aB aN aC), (1, .slice bB bN bC), (2, .int .i32 x), (7, .pointer ra), (8, .int .i64 rb), (43, .bool true)] (by simp only [b6, Bool.not_true, Bool.not_false]) ?_
   clear b6
   refine S_condT (.tmp 43) kk9 kk10 (by kernel_rfl) (by kernel_rfl) ?_
   refine S_seq kk11 kk12 (by kernel_rfl) ?_
   obtain ⟨J, h, j8⟩ := h
   refine S_join (σ := Bool) (fun s_ => [(6, .bool s_)]) (fun s_ H => J s_ H) ?_ ?_
   ·rintro s6 H2 j9
    replace h := j8 s6 H2 j9
    refine S_sub [(6, .bool s6)] (sb (by kernel_rfl)) ?_
    refine S_then ?_
    refine S_ret (by kernel_rfl) ?_
    show At _ _ _ _ _ (Q .ret)
    exact S_done (fn := Try.f5) [.bool s6] hQ (show ResOK _ _ _ [.tmp 6] _ from .tmp (by kernel_rfl) (.nil)) h
   ·refine S_region 3 (Code.ops kk11) (by kernel_rfl) ?_
    refine N_run 3 [(46, .bool (rb == 0))] (fun _=>by kernel_rfl) ?_
    by_cases c10 : rb = 0
    ·rw [if_pos c10] at h
     have b11 : (rb == 0) = true := beq_iff_eq.mpr c10
     refine N_env [(46, .bool true)] (by simp only [b11, Bool.not_true, Bool.not_false]) ?_
     clear b11
     refine N_call (some 47) 7 #[] (fun _=>by kernel_rfl) h ?_; clear h
     rintro v_2 H3 ⟨x_2, rfl, h⟩
     refine ⟨[(46, .bool true), (47, .bool x_2)], ps (by kernel_rfl), ?_⟩
     refine N_run 2 [(6, .bool x_2)] (fun _=>by kernel_rfl) ?_
     refine T_e ?_
     exact S_meet (x_2 : Bool) (sb (by kernel_rfl)) h
    ·rw [if_neg c10] at h
     have b11 : (rb == 0) = false := beq_eq_false_iff_ne.mpr c10
     refine N_env [(46, .bool false)] (by simp only [b11, Bool.not_true, Bool.not_false]) ?_
     clear b11
     refine N_run 3 [(6, .bool false)] (fun _=>by kernel_rfl) ?_
     refine T_e ?_
     exact S_meet (false : Bool) (sb (by kernel_rfl)) h
  ·rw [if_neg c5] at h
   have b6 : (((rb != 0) || (decide ((aN : Int) > 300))) || (decide ((bN : Int) > 300))) = false := eq_false_of_ne_true c5
   refine S_env [(0, .slice aB aN aC), (1, .slice bB bN bC), (2, .int .i32 x), (7, .pointer ra), (8, .int .i64 rb), (43, .bool false)] (by simp only [b6, Bool.not_true, Bool.not_false]) ?_
   clear b6
   refine S_condF (.tmp 43) kk9 kk10 (by kernel_rfl) (by kernel_rfl) ?_
   refine S_skip (by kernel_rfl) ?_
   refine S_then ?_
   refine T_sr 4 kk13 kk14 ?_
   refine N_run 2 [(0, .slice aB aN aC), (1, .slice bB bN bC), (2, .int .i32 x), (7, .pointer ra), (50, .pointer ra), (51, .slice aB aN aC)] (fun _=>by kernel_rfl) ?_
   refine N_call (some 52) 8 #[.slice aB aN aC] (fun _=>by kernel_rfl) h ?_; clear h
   rintro v_3 H4 ⟨xB, xN, xC, rfl, h⟩
   refine ⟨[(0, .slice aB aN aC), (1, .slice bB bN bC), (2, .int .i32 x), (7, .pointer ra), (50, .pointer ra), (52, .slice xB xN xC)], ps (by kernel_rfl), ?_⟩
   refine N_call (some 53) 9 #[.pointer ra, .slice xB xN xC] (fun _=>by kernel_rfl) h ?_; clear h
   rintro v_4 H5 ⟨ra_2, rb_2, rfl, h⟩
   refine ⟨[(0, .slice aB aN aC), (1, .slice bB bN bC), (2, .int .i32 x), (7, .pointer ra), (53, .tuple #[.int .u64 ra_2, .bool rb_2])], ps (by kernel_rfl), ?_⟩
   refine N_run 5 [(0, .slice aB aN aC), (1, .slice bB bN bC), (2, .int .i32 x), (7, .pointer ra), (9, .int .u64 ra_2), (10, .bool rb_2)] (fun _=>by kernel_rfl) ?_
   refine T_e ?_
   refine T_sr 5 kk15 kk16 ?_
   refine N_run 2 [(0, .slice aB aN aC), (1, .slice bB bN bC), (2, .int .i32 x), (7, .pointer ra), (9, .int .u64 ra_2), (10, .bool rb_2), (57, .pointer ra), (58, .slice bB bN bC)] (fun _=>by kernel_rfl) ?_
   refine N_call (some 59) 8 #[.slice bB bN bC] (fun _=>by kernel_rfl) h ?_; clear h
   rintro v_5 H6 ⟨xB_2, xN_2, xC_2, rfl, h⟩
   refine ⟨[(0, .slice aB aN aC), (1, .slice bB bN bC), (2, .int .i32 x), (7, .pointer ra), (9, .int .u64 ra_2), (10, .bool rb_2), (57, .pointer ra), (59, .slice xB_2 xN_2 xC_2)], ps (by kernel_rfl), ?_⟩
   refine N_call (some 60) 9 #[.pointer ra, .slice xB_2 xN_2 xC_2] (fun _=>by kernel_rfl) h ?_; clear h
   rintro v_6 H7 ⟨ra_3, rb_3, rfl, h⟩
   refine ⟨[(0, .slice aB aN aC), (1, .slice bB bN bC), (2, .int .i32 x), (7, .pointer ra), (9, .int .u64 ra_2), (10, .bool rb_2), (60, .tuple #[.int .u64 ra_3, .bool rb_3])], ps (by kernel_rfl), ?_⟩
   refine N_run 5 [(0, .slice aB aN aC), (1, .slice bB bN bC), (2, .int .i32 x), (7, .pointer ra), (9, .int .u64 ra_2), (10, .bool rb_2), (11, .int .u64 ra_3), (12, .bool rb_3)] (fun _=>by kernel_rfl) ?_
   refine T_e ?_
   refine T_sr 6 kk17 kk18 ?_
   refine N_run 2 [(0, .slice aB aN aC), (1, .slice bB bN bC), (2, .int .i32 x), (7, .pointer ra), (9, .int .u64 ra_2), (10, .bool rb_2), (11, .int .u64 ra_3), (12, .bool rb_3), (64, .pointer ra), (65, .slice aB aN aC)] (fun _=>by kernel_rfl) ?_
   refine N_call (some 66) 8 #[.slice aB aN aC] (fun _=>by kernel_rfl) h ?_; clear h
   rintro v_7 H8 ⟨xB_3, xN_3, xC_3, rfl, h⟩
   refine ⟨[(0, .slice aB aN aC), (1, .slice bB bN bC), (2, .int .i32 x), (7, .pointer ra), (9, .int .u64 ra_2), (10, .bool rb_2), (11, .int .u64 ra_3), (12, .bool rb_3), (64, .pointer ra), (66, .slice xB_3 xN_3 xC_3)], ps (by kernel_rfl), ?_⟩
   refine N_call (some 67) 9 #[.pointer ra, .slice xB_3 xN_3 xC_3] (fun _=>by kernel_rfl) h ?_; clear h
   rintro v_8 H9 ⟨ra_4, rb_4, rfl, h⟩
   refine ⟨[(0, .slice aB aN aC), (1, .slice bB bN bC), (2, .int .i32 x), (7, .pointer ra), (9, .int .u64 ra_2), (10, .bool rb_2), (11, .int .u64 ra_3), (12, .bool rb_3), (67, .tuple #[.int .u64 ra_4, .bool rb_4])], ps (by kernel_rfl), ?_⟩
   refine N_run 5 [(0, .slice aB aN aC), (1, .slice bB bN bC), (2, .int .i32 x), (7, .pointer ra), (9, .int .u64 ra_2), (10, .bool rb_2), (11, .int .u64 ra_3), (12, .bool rb_3), (13, .int .u64 ra_4), (14, .bool rb_4)] (fun _=>by kernel_rfl) ?_
   refine T_e ?_
   refine S_seq kk19 kk20 (by kernel_rfl) ?_
   refine T_sr 7 kk21 kk22 ?_
   refine N_cut [(0, .slice aB aN aC), (1, .slice bB bN bC), (2, .int .i32 x), (7, .pointer ra), (9, .int .u64 ra_2), (11, .int .u64 ra_3), (13, .int .u64 ra_4), (79, .bool (((!rb_2) || (!rb_3)) || (!rb_4)))] ?_ ?_
   ·refine S_then ?_
    by_cases c16 : (((!rb_2) || (!rb_3)) || (!rb_4)) = true
    ·rw [if_pos c16] at h
     have b17 : (((!rb_2) || (!rb_3)) || (!rb_4)) = true := c16
     refine S_env [(0, .slice aB aN aC), (1, .slice bB bN bC), (2, .int .i32 x), (7, .pointer ra), (9, .int .u64 ra_2), (11, .int .u64 ra_3), (13, .int .u64 ra_4), (79, .bool true)] (by simp only [b17, Bool.not_true, Bool.not_false]) ?_
     clear b17
     refine S_condT (.tmp 79) kk23 kk24 (by kernel_rfl) (by kernel_rfl) ?_
     refine T_sr 8 kk25 kk26 ?_
     refine N_run 1 [(6, .bool false)] (fun _=>by kernel_rfl) ?_
     refine T_e ?_
     refine S_ret (by kernel_rfl) ?_
     show At _ _ _ _ _ (Q .ret)
     exact S_done (fn := Try.f5) [.bool false] hQ (show ResOK _ _ _ [.tmp 6] _ from .tmp (by kernel_rfl) (.nil)) h
    ·rw [if_neg c16] at h
     have b17 : (((!rb_2) || (!rb_3)) || (!rb_4)) = false := eq_false_of_ne_true c16
     refine S_env [(0, .slice aB aN aC), (1, .slice bB bN bC), (2, .int .i32 x), (7, .pointer ra), (9, .int .u64 ra_2), (11, .int .u64 ra_3), (13, .int .u64 ra_4), (79, .bool false)] (by simp only [b17, Bool.not_true, Bool.not_false]) ?_
     clear b17
     refine S_condF (.tmp 79) kk23 kk24 (by kernel_rfl) (by kernel_rfl) ?_
     refine S_skip (by kernel_rfl) ?_
     refine S_then ?_
     refine T_sr 9 kk27 kk28 ?_
     refine N_run 3 [(0, .slice aB aN aC), (1, .slice bB bN bC), (2, .int .i32 x), (7, .pointer ra), (9, .int .u64 ra_2), (11, .int .u64 ra_3), (13, .int .u64 ra_4), (81, .pointer ra), (82, .int .u64 ra_2), (83, .int .u64 ra_3)] (fun _=>by kernel_rfl) ?_
     refine N_new (some 84) (fun b => .slice (some (Addr.mk b 0 none)) 2 2) (.cells #[.int .u64 ra_2, .int .u64 ra_3] 31) (fun _=>by kernel_rfl) ?_
     intro b H10 e18 e19
     replace h := h b H10 e18 e19
     refine ⟨[(0, .slice aB aN aC), (1, .slice bB bN bC), (2, .int .i32 x), (7, .pointer ra), (9, .int .u64 ra_2), (11, .int .u64 ra_3), (13, .int .u64 ra_4), (81, .pointer ra), (84, .slice (some (Addr.mk b 0 none)) 2 2)], ps (by kernel_rfl), ?_⟩
     refine N_call (some 85) 10 #[.pointer ra, .int .i64 24, .slice (some (Addr.mk b 0 none)) 2 2] (fun _=>by kernel_rfl) h ?_; clear h
     rintro v_9 H11 ⟨ra_5, rb_5, rfl, h⟩
     refine ⟨[(0, .slice aB aN aC), (1, .slice bB bN bC), (2, .int .i32 x), (7, .pointer ra), (9, .int .u64 ra_2), (11, .int .u64 ra_3), (13, .int .u64 ra_4), (85, .tuple #[.int .u64 ra_5, .int .i64 rb_5])], ps (by kernel_rfl), ?_⟩
     refine N_run 5 [(0, .slice aB aN aC), (1, .slice bB bN bC), (2, .int .i32 x), (7, .pointer ra), (9, .int .u64 ra_2), (11, .int .u64 ra_3), (13, .int .u64 ra_4), (15, .int .u64 ra_5)] (fun _=>by kernel_rfl) ?_
     refine T_e ?_
     refine T_sr 10 kk29 kk30 ?_
     refine N_run 3 [(0, .slice aB aN aC), (1, .slice bB bN bC), (2, .int .i32 x), (7, .pointer ra), (9, .int .u64 ra_2), (11, .int .u64 ra_3), (13, .int .u64 ra_4), (15, .int .u64 ra_5), (89, .pointer ra), (90, .int .u64 ra_2), (91, .int .u64 ra_3)] (fun _=>by kernel_rfl) ?_
     refine N_new (some 92) (fun b => .slice (some (Addr.mk b 0 none)) 2 2) (.cells #[.int .u64 ra_2, .int .u64 ra_3] 31) (fun _=>by kernel_rfl) ?_
     intro b_2 H12 e20 e21
     replace h := h b_2 H12 e20 e21
     refine ⟨[(0, .slice aB aN aC), (1, .slice bB bN bC), (2, .int .i32 x), (7, .pointer ra), (9, .int .u64 ra_2), (11, .int .u64 ra_3), (13, .int .u64 ra_4), (15, .int .u64 ra_5), (89, .pointer ra), (92, .slice (some (Addr.mk b_2 0 none)) 2 2)], ps (by kernel_rfl), ?_⟩
     refine N_call (some 93) 10 #[.pointer ra, .int .i64 25, .slice (some (Addr.mk b_2 0 none)) 2 2] (fun _=>by kernel_rfl) h ?_; clear h
     rintro v_10 H13 ⟨ra_6, rb_6, rfl, h⟩
     refine ⟨[(0, .slice aB aN aC), (1, .slice bB bN bC), (2, .int .i32 x), (7, .pointer ra), (9, .int .u64 ra_2), (11, .int .u64 ra_3), (13, .int .u64 ra_4), (15, .int .u64 ra_5), (93, .tuple #[.int .u64 ra_6, .int .i64 rb_6])], ps (by kernel_rfl), ?_⟩
     refine N_run 5 [(0, .slice aB aN aC), (1, .slice bB bN bC), (2, .int .i32 x), (7, .pointer ra), (9, .int .u64 ra_2), (11, .int .u64 ra_3), (13, .int .u64 ra_4), (15, .int .u64 ra_5), (17, .int .u64 ra_6)] (fun _=>by kernel_rfl) ?_
     refine T_e ?_
     refine T_sr 11 kk31 kk32 ?_
     refine N_run 3 [(0, .slice aB aN aC), (1, .slice bB bN bC), (2, .int .i32 x), (7, .pointer ra), (9, .int .u64 ra_2), (11, .int .u64 ra_3), (13, .int .u64 ra_4), (15, .int .u64 ra_5), (17, .int .u64 ra_6), (97, .pointer ra), (98, .int .u64 ra_2), (99, .int .u64 ra_3)] (fun _=>by kernel_rfl) ?_
     refine N_call (some 100) 14 #[.pointer ra, .int .u64 ra_2, .int .u64 ra_3] (fun _=>by kernel_rfl) h ?_; clear h
     rintro v_11 H14 ⟨ra_7, rb_7, rfl, h⟩
     refine ⟨[(0, .slice aB aN aC), (1, .slice bB bN bC), (2, .int .i32 x), (7, .pointer ra), (9, .int .u64 ra_2), (11, .int .u64 ra_3), (13, .int .u64 ra_4), (15, .int .u64 ra_5), (17, .int .u64 ra_6), (100, .tuple #[.bool ra_7, .int .i64 rb_7])], ps (by kernel_rfl), ?_⟩
     refine N_run 5 [(0, .slice aB aN aC), (1, .slice bB bN bC), (2, .int .i32 x), (7, .pointer ra), (8, .int .i64 rb_7), (9, .int .u64 ra_2), (11, .int .u64 ra_3), (13, .int .u64 ra_4), (15, .int .u64 ra_5), (17, .int .u64 ra_6), (19, .bool ra_7)] (fun _=>by kernel_rfl) ?_
     refine T_e ?_
     refine T_sr 12 kk33 kk34 ?_
     refine N_run 3 [(0, .slice aB aN aC), (1, .slice bB bN bC), (2, .int .i32 x), (7, .pointer ra), (8, .int .i64 rb_7), (9, .int .u64 ra_2), (13, .int .u64 ra_4), (15, .int .u64 ra_5), (17, .int .u64 ra_6), (19, .bool ra_7), (104, .pointer ra), (105, .int .u64 ra_3), (106, .int .u64 ra_2)] (fun _=>by kernel_rfl) ?_
     refine N_call (some 107) 14 #[.pointer ra, .int .u64 ra_3, .int .u64 ra_2] (fun _=>by kernel_rfl) h ?_; clear h
     rintro v_12 H15 ⟨ra_8, rb_8, rfl, h⟩
     refine ⟨[(0, .slice aB aN aC), (1, .slice bB bN bC), (2, .int .i32 x), (7, .pointer ra), (8, .int .i64 rb_7), (9, .int .u64 ra_2), (13, .int .u64 ra_4), (15, .int .u64 ra_5), (17, .int .u64 ra_6), (19, .bool ra_7), (107, .tuple #[.bool ra_8, .int .i64 rb_8])], ps (by kernel_rfl), ?_⟩
     refine N_run 5 [(0, .slice aB aN aC), (1, .slice bB bN bC), (2, .int .i32 x), (7, .pointer ra), (8, .int .i64 rb_7), (9, .int .u64 ra_2), (13, .int .u64 ra_4), (15, .int .u64 ra_5), (17, .int .u64 ra_6), (19, .bool ra_7), (20, .bool ra_8), (21, .int .i64 rb_8)] (fun _=>by kernel_rfl) ?_
     refine T_e ?_
     refine T_sr 13 kk35 kk36 ?_
     refine N_run 3 [(0, .slice aB aN aC), (1, .slice bB bN bC), (2, .int .i32 x), (7, .pointer ra), (8, .int .i64 rb_7), (9, .int .u64 ra_2), (15, .int .u64 ra_5), (17, .int .u64 ra_6), (19, .bool ra_7), (20, .bool ra_8), (21, .int .i64 rb_8), (111, .pointer ra), (112, .int .u64 ra_2), (113, .int .u64 ra_4)] (fun _=>by kernel_rfl) ?_
     refine N_call (some 114) 14 #[.pointer ra, .int .u64 ra_2, .int .u64 ra_4] (fun _=>by kernel_rfl) h ?_; clear h
     rintro v_13 H16 ⟨ra_9, rb_9, rfl, h⟩
     refine ⟨[(0, .slice aB aN aC), (1, .slice bB bN bC), (2, .int .i32 x), (7, .pointer ra), (8, .int .i64 rb_7), (9, .int .u64 ra_2), (15, .int .u64 ra_5), (17, .int .u64 ra_6), (19, .bool ra_7), (20, .bool ra_8), (21, .int .i64 rb_8), (114, .tuple #[.bool ra_9, .int .i64 rb_9])], ps (by kernel_rfl), ?_⟩
     refine N_run 5 [(0, .slice aB aN aC), (1, .slice bB bN bC), (2, .int .i32 x), (7, .pointer ra), (8, .int .i64 rb_7), (9, .int .u64 ra_2), (15, .int .u64 ra_5), (17, .int .u64 ra_6), (19, .bool ra_7), (20, .bool ra_8), (21, .int .i64 rb_8), (22, .bool ra_9), (23, .int .i64 rb_9)] (fun _=>by kernel_rfl) ?_
     refine T_e ?_
     refine S_seq kk37 kk38 (by kernel_rfl) ?_
     refine T_sr 14 kk39 kk40 ?_
     refine N_run 3 [(0, .slice aB aN aC), (1, .slice bB bN bC), (2, .int .i32 x), (7, .pointer ra), (9, .int .u64 ra_2), (15, .int .u64 ra_5), (17, .int .u64 ra_6), (19, .bool ra_7), (20, .bool ra_8), (21, .int .i64 rb_8), (22, .bool ra_9), (23, .int .i64 rb_9), (119, .bool (rb_7 != 0))] (fun _=>by kernel_rfl) ?_
     by_cases c22 : rb_7 = 0
     ·rw [if_pos c22] at h
      have b23 : (rb_7 != 0) = false := bne_eq_false_iff_eq.mpr c22
      refine N_env [(0, .slice aB aN aC), (1, .slice bB bN bC), (2, .int .i32 x), (7, .pointer ra), (9, .int .u64 ra_2), (15, .int .u64 ra_5), (17, .int .u64 ra_6), (19, .bool ra_7), (20, .bool ra_8), (21, .int .i64 rb_8), (22, .bool ra_9), (23, .int .i64 rb_9), (119, .bool false)] (by simp only [b23, Bool.not_true, Bool.not_false]) ?_
      clear b23
      refine N_run 4 [(0, .slice aB aN aC), (1, .slice bB bN bC), (2, .int .i32 x), (7, .pointer ra), (9, .int .u64 ra_2), (15, .int .u64 ra_5), (17, .int .u64 ra_6), (19, .bool ra_7), (20, .bool ra_8), (22, .bool ra_9), (23, .int .i64 rb_9), (123, .bool (rb_8 != 0))] (fun _=>by kernel_rfl) ?_
      by_cases c24 : rb_8 = 0
      ·rw [if_pos c24] at h
       have b25 : (rb_8 != 0) = false := bne_eq_false_iff_eq.mpr c24
       refine N_env [(0, .slice aB aN aC), (1, .slice bB bN bC), (2, .int .i32 x), (7, .pointer ra), (9, .int .u64 ra_2), (15, .int .u64 ra_5), (17, .int .u64 ra_6), (19, .bool ra_7), (20, .bool ra_8), (22, .bool ra_9), (23, .int .i64 rb_9), (123, .bool false)] (by simp only [b25, Bool.not_true, Bool.not_false]) ?_
       clear b25
       refine N_run 4 [(0, .slice aB aN aC), (1, .slice bB bN bC), (2, .int .i32 x), (7, .pointer ra), (9, .int .u64 ra_2), (15, .int .u64 ra_5), (17, .int .u64 ra_6), (19, .bool ra_7), (20, .bool ra_8), (22, .bool ra_9), (127, .bool (rb_9 != 0))] (fun _=>by kernel_rfl) ?_
       by_cases c26 : rb_9 = 0
       ·rw [if_pos c26] at h
        have b27 : (rb_9 != 0) = false := bne_eq_false_iff_eq.mpr c26
        refine N_env [(0, .slice aB aN aC), (1, .slice bB bN bC), (2, .int .i32 x), (7, .pointer ra), (9, .int .u64 ra_2), (15, .int .u64 ra_5), (17, .int .u64 ra_6), (19, .bool ra_7), (20, .bool ra_8), (22, .bool ra_9), (127, .bool false)] (by simp only [b27, Bool.not_true, Bool.not_false]) ?_
        clear b27
        refine N_run 5 [(0, .slice aB aN aC), (1, .slice bB bN bC), (2, .int .i32 x), (7, .pointer ra), (9, .int .u64 ra_2), (15, .int .u64 ra_5), (17, .int .u64 ra_6), (19, .bool ra_7), (22, .bool ra_9), (132, .bool (!(ra_7 == ra_8)))] (fun _=>by kernel_rfl) ?_
        by_cases c28 : ra_7 = ra_8
        ·rw [if_pos c28] at h
         have b29 : (!(ra_7 == ra_8)) = false := congrArg Bool.not (beq_iff_eq.mpr c28)
         refine N_env [(0, .slice aB aN aC), (1, .slice bB bN bC), (2, .int .i32 x), (7, .pointer ra), (9, .int .u64 ra_2), (15, .int .u64 ra_5), (17, .int .u64 ra_6), (19, .bool ra_7), (22, .bool ra_9), (132, .bool false)] (by simp only [b29, Bool.not_true, Bool.not_false]) ?_
         clear b29
         refine N_run 4 [(0, .slice aB aN aC), (1, .slice bB bN bC), (2, .int .i32 x), (7, .pointer ra), (9, .int .u64 ra_2), (15, .int .u64 ra_5), (17, .int .u64 ra_6), (19, .bool ra_7), (136, .bool (!ra_9))] (fun _=>by kernel_rfl) ?_
         by_cases c30 : ra_9 = true
         ·rw [if_pos c30] at h
          have b31 : (!ra_9) = false := congrArg Bool.not (c30)
          have b312 : ra_9 = true := c30
          refine N_env [(0, .slice aB aN aC), (1, .slice bB bN bC), (2, .int .i32 x), (7, .pointer ra), (9, .int .u64 ra_2), (15, .int .u64 ra_5), (17, .int .u64 ra_6), (19, .bool ra_7), (136, .bool false)] (by simp only [b31, b312, Bool.not_true, Bool.not_false]) ?_
          clear b31 b312
          refine N_run 2 [(0, .slice aB aN aC), (1, .slice bB bN bC), (2, .int .i32 x), (7, .pointer ra), (9, .int .u64 ra_2), (15, .int .u64 ra_5), (17, .int .u64 ra_6), (19, .bool ra_7), (136, .bool false), (137, .bool ra_7), (138, .slice aB aN aC)] (fun _=>by kernel_rfl) ?_
          refine N_call (some 139) 8 #[.slice aB aN aC] (fun _=>by kernel_rfl) h ?_; clear h
          rintro v_14 H17 ⟨xB_4, xN_4, xC_4, rfl, h⟩
          refine ⟨[(0, .slice aB aN aC), (1, .slice bB bN bC), (2, .int .i32 x), (7, .pointer ra), (9, .int .u64 ra_2), (15, .int .u64 ra_5), (17, .int .u64 ra_6), (19, .bool ra_7), (136, .bool false), (137, .bool ra_7), (139, .slice xB_4 xN_4 xC_4)], ps (by kernel_rfl), ?_⟩
          refine N_run 1 [(0, .slice aB aN aC), (2, .int .i32 x), (7, .pointer ra), (9, .int .u64 ra_2), (15, .int .u64 ra_5), (17, .int .u64 ra_6), (19, .bool ra_7), (136, .bool false), (137, .bool ra_7), (139, .slice xB_4 xN_4 xC_4), (140, .slice bB bN bC)] (fun _=>by kernel_rfl) ?_
          refine N_call (some 141) 8 #[.slice bB bN bC] (fun _=>by kernel_rfl) h ?_; clear h
          rintro v_15 H18 ⟨xB_5, xN_5, xC_5, rfl, h⟩
          refine ⟨[(0, .slice aB aN aC), (2, .int .i32 x), (7, .pointer ra), (9, .int .u64 ra_2), (15, .int .u64 ra_5), (17, .int .u64 ra_6), (19, .bool ra_7), (136, .bool false), (137, .bool ra_7), (139, .slice xB_4 xN_4 xC_4), (141, .slice xB_5 xN_5 xC_5)], ps (by kernel_rfl), ?_⟩
          refine N_call (some 142) 12 #[.slice xB_4 xN_4 xC_4, .slice xB_5 xN_5 xC_5] (fun _=>by kernel_rfl) h ?_; clear h
          rintro v_16 H19 ⟨x_3, rfl, h⟩
          refine ⟨[(0, .slice aB aN aC), (2, .int .i32 x), (7, .pointer ra), (9, .int .u64 ra_2), (15, .int .u64 ra_5), (17, .int .u64 ra_6), (19, .bool ra_7), (136, .bool false), (137, .bool ra_7), (142, .bool x_3)], ps (by kernel_rfl), ?_⟩
          refine N_run 2 [(0, .slice aB aN aC), (2, .int .i32 x), (7, .pointer ra), (9, .int .u64 ra_2), (15, .int .u64 ra_5), (17, .int .u64 ra_6), (19, .bool ra_7), (144, .bool (!(ra_7 == x_3)))] (fun _=>by kernel_rfl) ?_
          refine T_e ?_
          by_cases c32 : ra_7 = x_3
          ·rw [if_pos c32] at h
           have b33 : (!(ra_7 == x_3)) = false := congrArg Bool.not (beq_iff_eq.mpr c32)
           refine S_env [(0, .slice aB aN aC), (2, .int .i32 x), (7, .pointer ra), (9, .int .u64 ra_2), (15, .int .u64 ra_5), (17, .int .u64 ra_6), (19, .bool ra_7), (144, .bool false)] (by simp only [b33, Bool.not_true, Bool.not_false]) ?_
           clear b33
           refine S_condF (.tmp 144) kk41 kk42 (by kernel_rfl) (by kernel_rfl) ?_
           refine S_skip (by kernel_rfl) ?_
           refine S_then ?_
           refine S_seq kk43 kk44 (by kernel_rfl) ?_
           refine T_sr 16 kk45 kk46 ?_
           refine N_cut [(0, .slice aB aN aC), (2, .int .i32 x), (7, .pointer ra), (9, .int .u64 ra_2), (158, .bool (((ra_5 == 12) && (ra_6 != 12)) || ((ra_6 == 12) && (!ra_7))))] ?_ ?_
           ·refine S_then ?_
            by_cases c42 : (((ra_5 == 12) && (ra_6 != 12)) || ((ra_6 == 12) && (!ra_7))) = true
            ·rw [if_pos c42] at h
             have b43 : (((ra_5 == 12) && (ra_6 != 12)) || ((ra_6 == 12) && (!ra_7))) = true := c42
             refine S_env [(0, .slice aB aN aC), (2, .int .i32 x), (7, .pointer ra), (9, .int .u64 ra_2), (158, .bool true)] (by simp only [b43, Bool.not_true, Bool.not_false]) ?_
             clear b43
             refine S_condT (.tmp 158) kk47 kk48 (by kernel_rfl) (by kernel_rfl) ?_
             refine T_sr 17 kk49 kk50 ?_
             refine N_run 1 [(6, .bool false)] (fun _=>by kernel_rfl) ?_
             refine T_e ?_
             refine S_ret (by kernel_rfl) ?_
             show At _ _ _ _ _ (Q .ret)
             exact S_done (fn := Try.f5) [.bool false] hQ (show ResOK _ _ _ [.tmp 6] _ from .tmp (by kernel_rfl) (.nil)) h
            ·rw [if_neg c42] at h
             have b43 : (((ra_5 == 12) && (ra_6 != 12)) || ((ra_6 == 12) && (!ra_7))) = false := eq_false_of_ne_true c42
             refine S_env [(0, .slice aB aN aC), (2, .int .i32 x), (7, .pointer ra), (9, .int .u64 ra_2), (158, .bool false)] (by simp only [b43, Bool.not_true, Bool.not_false]) ?_
             clear b43
             refine S_condF (.tmp 158) kk47 kk48 (by kernel_rfl) (by kernel_rfl) ?_
             refine S_skip (by kernel_rfl) ?_
             refine S_then ?_
             refine T_sr 18 kk51 kk52 ?_
             refine N_run 5 [(0, .slice aB aN aC), (2, .int .i32 x), (7, .pointer ra), (160, .pointer ra), (163, .int .u64 (ishl .u64 (IntKind.wrap .u64 x) 3)), (164, .int .u64 ra_2)] (fun _=>by kernel_rfl) ?_
             refine N_new (some 165) (fun b => .slice (some (Addr.mk b 0 none)) 2 2) (.cells #[.int .u64 (ishl .u64 (IntKind.wrap .u64 x) 3), .int .u64 ra_2] 31) (fun _=>by kernel_rfl) ?_
             intro b_3 H20 e44 e45
             replace h := h b_3 H20 e44 e45
             refine ⟨[(0, .slice aB aN aC), (2, .int .i32 x), (7, .pointer ra), (160, .pointer ra), (165, .slice (some (Addr.mk b_3 0 none)) 2 2)], ps (by kernel_rfl), ?_⟩
             refine N_call (some 166) 10 #[.pointer ra, .int .i64 20, .slice (some (Addr.mk b_3 0 none)) 2 2] (fun _=>by kernel_rfl) h ?_; clear h
             rintro v_17 H21 ⟨ra_10, rb_10, rfl, h⟩
             refine ⟨[(0, .slice aB aN aC), (2, .int .i32 x), (7, .pointer ra), (166, .tuple #[.int .u64 ra_10, .int .i64 rb_10])], ps (by kernel_rfl), ?_⟩
             refine N_run 5 [(0, .slice aB aN aC), (2, .int .i32 x), (7, .pointer ra), (8, .int .i64 rb_10), (24, .int .u64 ra_10)] (fun _=>by kernel_rfl) ?_
             refine T_e ?_
             refine S_seq kk53 kk54 (by kernel_rfl) ?_
             refine T_sr 19 kk55 kk56 ?_
             refine N_run 2 [(0, .slice aB aN aC), (2, .int .i32 x), (7, .pointer ra), (24, .int .u64 ra_10), (170, .bool (rb_10 != 0))] (fun _=>by kernel_rfl) ?_
             refine T_e ?_
             by_cases c46 : rb_10 = 0
             ·rw [if_pos c46] at h
              have b47 : (rb_10 != 0) = false := bne_eq_false_iff_eq.mpr c46
              refine S_env [(0, .slice aB aN aC), (2, .int .i32 x), (7, .pointer ra), (24, .int .u64 ra_10), (170, .bool false)] (by simp only [b47, Bool.not_true, Bool.not_false]) ?_
              clear b47
              refine S_condF (.tmp 170) kk57 kk58 (by kernel_rfl) (by kernel_rfl) ?_
              refine S_skip (by kernel_rfl) ?_
              refine S_then ?_
              refine T_sr 21 kk59 kk60 ?_
              refine N_run 1 [(0, .slice aB aN aC), (2, .int .i32 x), (7, .pointer ra), (24, .int .u64 ra_10), (25, .int .i64 (-1))] (fun _=>by kernel_rfl) ?_
              refine T_e ?_
              refine S_seq kk61 kk62 (by kernel_rfl) ?_
              refine T_sr 22 kk63 kk64 ?_
              refine N_run 4 [(0, .slice aB aN aC), (2, .int .i32 x), (7, .pointer ra), (24, .int .u64 ra_10), (25, .int .i64 (-1)), (26, .int .i64 (IntKind.wrap .i64 ((aN : Int) - 1)))] (fun _=>by kernel_rfl) ?_
              refine T_e ?_
              refine S_block 0 kk65 (by kernel_rfl) ?_
              obtain ⟨I67, m67, i48, i49⟩ := h
              refine S_loop (x := kk66) (σ := Int × Int) (fun s_ => [(0, .slice aB aN aC), (2, .int .i32 x), (7, .pointer ra), (24, .int .u64 ra_10), (25, .int .i64 s_.1), (26, .int .i64 s_.2)]) (fun s_ H => I67 s_.1 s_.2 H) (fun s_ H => m67 s_.1 s_.2 H) (((-1), (IntKind.wrap .i64 ((aN : Int) - 1))) : Int × Int) (by kernel_rfl) i48 (sb (by kernel_rfl)) ?_
              rintro ⟨atv, i⟩ H22 i50
              have h := i49 atv i H22 i50
              refine S_sub [(0, .slice aB aN aC), (2, .int .i32 x), (7, .pointer ra), (24, .int .u64 ra_10), (25, .int .i64 atv), (26, .int .i64 i)] (sb (by kernel_rfl)) ?_
              refine S_seq kk67 kk68 (by kernel_rfl) ?_
              refine T_sr 23 kk69 kk70 ?_
              refine N_run 2 [(0, .slice aB aN aC), (2, .int .i32 x), (7, .pointer ra), (24, .int .u64 ra_10), (25, .int .i64 atv), (26, .int .i64 i), (175, .bool (decide (i ≥ 0)))] (fun _=>by kernel_rfl) ?_
              refine T_e ?_
              by_cases c51 : i ≥ 0
              ·rw [if_pos c51] at h
               have b52 : (decide (i ≥ 0)) = true := decide_eq_true c51
               refine S_env [(0, .slice aB aN aC), (2, .int .i32 x), (7, .pointer ra), (24, .int .u64 ra_10), (25, .int .i64 atv), (26, .int .i64 i), (175, .bool true)] (by simp only [b52, Bool.not_true, Bool.not_false]) ?_
               clear b52
               refine S_condT (.tmp 175) kk71 kk72 (by kernel_rfl) (by kernel_rfl) ?_
               refine S_skip (by kernel_rfl) ?_
               refine S_then ?_
               refine S_seq kk73 kk74 (by kernel_rfl) ?_
               refine S_block 1 kk75 (by kernel_rfl) ?_
               refine T_sr 25 kk76 kk77 ?_
               refine N_run 2 [(0, .slice aB aN aC), (2, .int .i32 x), (7, .pointer ra), (24, .int .u64 ra_10), (25, .int .i64 atv), (26, .int .i64 i), (178, .slice aB aN aC), (179, .int .i64 i)] (fun _=>by kernel_rfl) ?_
               obtain ⟨aBA, rfl, h⟩ := h
               obtain ⟨q53, h⟩ := h
               refine N_val (some 180) (indexAtN 22 (.slice (some aBA) aN aC) (.int .i64 i)) (.pointer (some (aBA.add (Int.toNat i * 1)))) (fun _=>by kernel_rfl) (fun w _ => indexAt_run (P := Try.prog) (t := 22) (elem := 21) (sz := 1) (a := aBA) (len := aN) (cap := aC) (k := .i64) (i := i) Try.underlying22 (fun _=>by kernel_rfl) q53.1 q53.2 w) [(0, .slice (some aBA) aN aC), (2, .int .i32 x), (7, .pointer ra), (24, .int .u64 ra_10), (25, .int .i64 atv), (26, .int .i64 i), (180, .pointer (some (aBA.add (Int.toNat i * 1))))] (ps (by kernel_rfl)) ?_
               obtain ⟨x_4, q54, h⟩ := h
               refine N_val (some 181) (loadN 21 (.pointer (some (aBA.add (Int.toNat i * 1))))) (.int .i32 x_4) (fun _=>by kernel_rfl) (loadN_run (loadOK_one (fun _=>by kernel_rfl) q54)) [(0, .slice (some aBA) aN aC), (2, .int .i32 x), (7, .pointer ra), (24, .int .u64 ra_10), (25, .int .i64 atv), (26, .int .i64 i), (181, .int .i32 x_4)] (ps (by kernel_rfl)) ?_
               refine N_run 2 [(0, .slice (some aBA) aN aC), (2, .int .i32 x), (7, .pointer ra), (24, .int .u64 ra_10), (25, .int .i64 atv), (26, .int .i64 i), (183, .bool (x_4 == x))] (fun _=>by kernel_rfl) ?_
               refine T_e ?_
               by_cases c55 : x_4 = x
               ·rw [if_pos c55] at h
                have b56 : (x_4 == x) = true := beq_iff_eq.mpr c55
                refine S_env [(0, .slice (some aBA) aN aC), (2, .int .i32 x), (7, .pointer ra), (24, .int .u64 ra_10), (25, .int .i64 atv), (26, .int .i64 i), (183, .bool true)] (by simp only [b56, Bool.not_true, Bool.not_false]) ?_
                clear b56
                refine S_condT (.tmp 183) kk78 kk79 (by kernel_rfl) (by kernel_rfl) ?_
                refine S_region 26 (Code.ops kk78) (by kernel_rfl) ?_
                refine N_run 2 [(0, .slice (some aBA) aN aC), (2, .int .i32 x), (7, .pointer ra), (24, .int .u64 ra_10), (25, .int .i64 i), (26, .int .i64 i)] (fun _=>by kernel_rfl) ?_
                refine N_end (by kernel_rfl) ?_
                refine S_blockEnd ?_
                refine S_then ?_
                refine S_region 24 (Code.ops kk74) (by kernel_rfl) ?_
                refine N_run 3 [(0, .slice (some aBA) aN aC), (2, .int .i32 x), (7, .pointer ra), (24, .int .u64 ra_10), (25, .int .i64 i), (26, .int .i64 (IntKind.wrap .i64 (i - 1)))] (fun _=>by kernel_rfl) ?_
                refine T_e ?_
                exact S_round ((i, (IntKind.wrap .i64 (i - 1))) : Int × Int) (sb (by kernel_rfl)) h
               ·rw [if_neg c55] at h
                have b56 : (x_4 == x) = false := beq_eq_false_iff_ne.mpr c55
                refine S_env [(0, .slice (some aBA) aN aC), (2, .int .i32 x), (7, .pointer ra), (24, .int .u64 ra_10), (25, .int .i64 atv), (26, .int .i64 i), (183, .bool false)] (by simp only [b56, Bool.not_true, Bool.not_false]) ?_
                clear b56
                refine S_condF (.tmp 183) kk78 kk79 (by kernel_rfl) (by kernel_rfl) ?_
                refine S_skip (by kernel_rfl) ?_
                refine S_blockEnd ?_
                refine S_then ?_
                refine S_region 24 (Code.ops kk74) (by kernel_rfl) ?_
                refine N_run 3 [(0, .slice (some aBA) aN aC), (2, .int .i32 x), (7, .pointer ra), (24, .int .u64 ra_10), (25, .int .i64 atv), (26, .int .i64 (IntKind.wrap .i64 (i - 1)))] (fun _=>by kernel_rfl) ?_
                refine T_e ?_
                exact S_round ((atv, (IntKind.wrap .i64 (i - 1))) : Int × Int) (sb (by kernel_rfl)) h
              ·rw [if_neg c51] at h
               have b52 : (decide (i ≥ 0)) = false := decide_eq_false c51
               refine S_env [(0, .slice aB aN aC), (2, .int .i32 x), (7, .pointer ra), (24, .int .u64 ra_10), (25, .int .i64 atv), (26, .int .i64 i), (175, .bool false)] (by simp only [b52, Bool.not_true, Bool.not_false]) ?_
               clear b52
               refine S_condF (.tmp 175) kk71 kk72 (by kernel_rfl) (by kernel_rfl) ?_
               refine S_exit 0 (by kernel_rfl) ?_
               refine S_exitThen ?_
               refine S_exitThen ?_
               refine S_exitHere ?_
               refine S_then ?_
               refine S_seq kk80 kk81 (by kernel_rfl) ?_
               refine T_sr 27 kk82 kk83 ?_
               refine N_run 2 [(0, .slice aB aN aC), (7, .pointer ra), (24, .int .u64 ra_10), (25, .int .i64 atv), (186, .bool (decide (atv < 0)))] (fun _=>by kernel_rfl) ?_
               refine T_e ?_
               by_cases c57 : atv < 0
               ·rw [if_pos c57] at h
                have b58 : (decide (atv < 0)) = true := decide_eq_true c57
                refine S_env [(0, .slice aB aN aC), (7, .pointer ra), (24, .int .u64 ra_10), (25, .int .i64 atv), (186, .bool true)] (by simp only [b58, Bool.not_true, Bool.not_false]) ?_
                clear b58
                refine S_condT (.tmp 186) kk84 kk85 (by kernel_rfl) (by kernel_rfl) ?_
                refine T_sr 28 kk86 kk87 ?_
                refine N_run 3 [(189, .bool (ra_10 == 4))] (fun _=>by kernel_rfl) ?_
                by_cases c59 : ra_10 = 4
                ·rw [if_pos c59] at h
                 have b60 : (ra_10 == 4) = true := beq_iff_eq.mpr c59
                 refine N_env [(189, .bool true)] (by simp only [b60, Bool.not_true, Bool.not_false]) ?_
                 clear b60
                 refine N_call (some 190) 7 #[] (fun _=>by kernel_rfl) h ?_; clear h
                 rintro v_18 H23 ⟨x_5, rfl, h⟩
                 refine ⟨[(189, .bool true), (190, .bool x_5)], ps (by kernel_rfl), ?_⟩
                 refine N_run 2 [(6, .bool x_5)] (fun _=>by kernel_rfl) ?_
                 refine T_e ?_
                 refine S_ret (by kernel_rfl) ?_
                 show At _ _ _ _ _ (Q .ret)
                 exact S_done (fn := Try.f5) [.bool x_5] hQ (show ResOK _ _ _ [.tmp 6] _ from .tmp (by kernel_rfl) (.nil)) h
                ·rw [if_neg c59] at h
                 have b60 : (ra_10 == 4) = false := beq_eq_false_iff_ne.mpr c59
                 refine N_env [(189, .bool false)] (by simp only [b60, Bool.not_true, Bool.not_false]) ?_
                 clear b60
                 refine N_run 3 [(6, .bool false)] (fun _=>by kernel_rfl) ?_
                 refine T_e ?_
                 refine S_ret (by kernel_rfl) ?_
                 show At _ _ _ _ _ (Q .ret)
                 exact S_done (fn := Try.f5) [.bool false] hQ (show ResOK _ _ _ [.tmp 6] _ from .tmp (by kernel_rfl) (.nil)) h
               ·rw [if_neg c57] at h
                have b58 : (decide (atv < 0)) = false := decide_eq_false c57
                refine S_env [(0, .slice aB aN aC), (7, .pointer ra), (24, .int .u64 ra_10), (25, .int .i64 atv), (186, .bool false)] (by simp only [b58, Bool.not_true, Bool.not_false]) ?_
                clear b58
                refine S_condF (.tmp 186) kk84 kk85 (by kernel_rfl) (by kernel_rfl) ?_
                refine S_skip (by kernel_rfl) ?_
                refine S_then ?_
                refine T_sr 29 kk88 kk89 ?_
                refine N_run 2 [(0, .slice aB aN aC), (25, .int .i64 atv), (193, .pointer ra), (194, .int .u64 ra_10)] (fun _=>by kernel_rfl) ?_
                refine N_call (some 195) 11 #[.pointer ra, .int .u64 ra_10] (fun _=>by kernel_rfl) h ?_; clear h
                rintro v_19 H24 ⟨raB, raN, raC, rb_11, rfl, h⟩
                refine ⟨[(0, .slice aB aN aC), (25, .int .i64 atv), (195, .tuple #[.slice raB raN raC, .bool rb_11])], ps (by kernel_rfl), ?_⟩
                refine N_run 5 [(0, .slice aB aN aC), (10, .bool rb_11), (25, .int .i64 atv), (27, .slice raB raN raC)] (fun _=>by kernel_rfl) ?_
                refine T_e ?_
                refine T_sr 30 kk90 kk91 ?_
                refine N_run 2 [(0, .slice aB aN aC), (25, .int .i64 atv), (27, .slice raB raN raC), (199, .bool rb_11)] (fun _=>by kernel_rfl) ?_
                by_cases c61 : rb_11 = true
                ·rw [if_pos c61] at h
                 have b62 : rb_11 = true := c61
                 refine N_env [(0, .slice aB aN aC), (25, .int .i64 atv), (27, .slice raB raN raC), (199, .bool true)] (by simp only [b62, Bool.not_true, Bool.not_false]) ?_
                 clear b62
                 refine N_run 3 [(199, .bool true), (200, .slice raB raN raC), (201, .slice aB aN aC), (202, .int .i64 atv)] (fun _=>by kernel_rfl) ?_
                 obtain ⟨lo, hi, q63, q64, q65, q66, h⟩ := h
                 obtain ⟨sl, e67⟩ : ∃ B, B = (if aC = lo then aB else Option.map (fun a : Addr => a.add (lo * 1)) aB) := ⟨_, rfl⟩
                 replace h := h sl e67
                 refine N_val (some 203) (sliceN 22 (.slice aB aN aC) (some (.int .i64 atv)) none none) (.slice sl (hi - lo) (aC - lo)) (fun _=>by kernel_rfl) (fun w _ => (slice_run (P := Try.prog) (t := 22) (elem := 21) (sz := 1) (a := aB) (len := aN) (cap := aC) (some (.int .i64 atv)) none lo hi Try.underlying22 (fun _=>by kernel_rfl) (.inr ⟨.i64, by rw [q63]⟩) (.inl ⟨rfl, q64⟩) q65 q66 w).trans (by rw [e67]; try rfl)) [(199, .bool true), (200, .slice raB raN raC), (203, .slice sl (hi - lo) (aC - lo))] (ps (by kernel_rfl)) ?_
                 refine N_call (some 204) 8 #[.slice sl (hi - lo) (aC - lo)] (fun _=>by kernel_rfl) h ?_; clear h
                 rintro v_20 H25 ⟨xB_6, xN_6, xC_6, rfl, h⟩
                 refine ⟨[(199, .bool true), (200, .slice raB raN raC), (204, .slice xB_6 xN_6 xC_6)], ps (by kernel_rfl), ?_⟩
                 refine N_call (some 205) 12 #[.slice raB raN raC, .slice xB_6 xN_6 xC_6] (fun _=>by kernel_rfl) h ?_; clear h
                 rintro v_21 H26 ⟨x_6, rfl, h⟩
                 refine ⟨[(199, .bool true), (205, .bool x_6)], ps (by kernel_rfl), ?_⟩
                 refine N_run 2 [(207, .bool x_6)] (fun _=>by kernel_rfl) ?_
                 by_cases c68 : x_6 = true
                 ·rw [if_pos c68] at h
                  have b69 : x_6 = true := c68
                  refine N_env [(207, .bool true)] (by simp only [b69, Bool.not_true, Bool.not_false]) ?_
                  clear b69
                  refine N_call (some 208) 7 #[] (fun _=>by kernel_rfl) h ?_; clear h
                  rintro v_22 H27 ⟨x_7, rfl, h⟩
                  refine ⟨[(207, .bool true), (208, .bool x_7)], ps (by kernel_rfl), ?_⟩
                  refine N_run 2 [(6, .bool x_7)] (fun _=>by kernel_rfl) ?_
                  refine T_e ?_
                  refine S_ret (by kernel_rfl) ?_
                  show At _ _ _ _ _ (Q .ret)
                  exact S_done (fn := Try.f5) [.bool x_7] hQ (show ResOK _ _ _ [.tmp 6] _ from .tmp (by kernel_rfl) (.nil)) h
                 ·rw [if_neg c68] at h
                  have b69 : x_6 = false := eq_false_of_ne_true c68
                  refine N_env [(207, .bool false)] (by simp only [b69, Bool.not_true, Bool.not_false]) ?_
                  clear b69
                  refine N_run 3 [(6, .bool false)] (fun _=>by kernel_rfl) ?_
                  refine T_e ?_
                  refine S_ret (by kernel_rfl) ?_
                  show At _ _ _ _ _ (Q .ret)
                  exact S_done (fn := Try.f5) [.bool false] hQ (show ResOK _ _ _ [.tmp 6] _ from .tmp (by kernel_rfl) (.nil)) h
                ·rw [if_neg c61] at h
                 have b62 : rb_11 = false := eq_false_of_ne_true c61
                 refine N_env [(0, .slice aB aN aC), (25, .int .i64 atv), (27, .slice raB raN raC), (199, .bool false)] (by simp only [b62, Bool.not_true, Bool.not_false]) ?_
                 clear b62
                 refine N_run 11 [(6, .bool false)] (fun _=>by kernel_rfl) ?_
                 refine T_e ?_
                 refine S_ret (by kernel_rfl) ?_
                 show At _ _ _ _ _ (Q .ret)
                 exact S_done (fn := Try.f5) [.bool false] hQ (show ResOK _ _ _ [.tmp 6] _ from .tmp (by kernel_rfl) (.nil)) h
             ·rw [if_neg c46] at h
              have b47 : (rb_10 != 0) = true := bne_iff_ne.mpr c46
              refine S_env [(0, .slice aB aN aC), (2, .int .i32 x), (7, .pointer ra), (24, .int .u64 ra_10), (170, .bool true)] (by simp only [b47, Bool.not_true, Bool.not_false]) ?_
              clear b47
              refine S_condT (.tmp 170) kk57 kk58 (by kernel_rfl) (by kernel_rfl) ?_
              refine T_sr 20 kk92 kk93 ?_
              refine N_run 1 [(6, .bool false)] (fun _=>by kernel_rfl) ?_
              refine T_e ?_
              refine S_ret (by kernel_rfl) ?_
              show At _ _ _ _ _ (Q .ret)
              exact S_done (fn := Try.f5) [.bool false] hQ (show ResOK _ _ _ [.tmp 6] _ from .tmp (by kernel_rfl) (.nil)) h
           ·intro hk
            refine N_run 3 [(0, .slice aB aN aC), (2, .int .i32 x), (7, .pointer ra), (9, .int .u64 ra_2), (17, .int .u64 ra_6), (19, .bool ra_7), (147, .bool (ra_5 == 12))] (fun _=>by kernel_rfl) ?_
            by_cases c34 : ra_5 = 12
            ·have b35 : (ra_5 == 12) = true := beq_iff_eq.mpr c34
             refine N_env [(0, .slice aB aN aC), (2, .int .i32 x), (7, .pointer ra), (9, .int .u64 ra_2), (17, .int .u64 ra_6), (19, .bool ra_7), (147, .bool true)] (by simp only [b35, Bool.not_true, Bool.not_false]) ?_
             refine N_run 4 [(0, .slice aB aN aC), (2, .int .i32 x), (7, .pointer ra), (9, .int .u64 ra_2), (17, .int .u64 ra_6), (19, .bool ra_7), (151, .bool (ra_6 != 12))] (fun _=>by kernel_rfl) ?_
             by_cases c36 : ra_6 = 12
             ·have b37 : (ra_6 != 12) = false := bne_eq_false_iff_eq.mpr c36
              refine N_env [(0, .slice aB aN aC), (2, .int .i32 x), (7, .pointer ra), (9, .int .u64 ra_2), (17, .int .u64 ra_6), (19, .bool ra_7), (151, .bool false)] (by simp only [b37, Bool.not_true, Bool.not_false]) ?_
              refine N_run 3 [(0, .slice aB aN aC), (2, .int .i32 x), (7, .pointer ra), (9, .int .u64 ra_2), (19, .bool ra_7), (151, .bool false), (154, .bool (ra_6 == 12))] (fun _=>by kernel_rfl) ?_
              by_cases c38 : ra_6 = 12
              ·have b39 : (ra_6 == 12) = true := beq_iff_eq.mpr c38
               refine N_env [(0, .slice aB aN aC), (2, .int .i32 x), (7, .pointer ra), (9, .int .u64 ra_2), (19, .bool ra_7), (151, .bool false), (154, .bool true)] (by simp only [b39, Bool.not_true, Bool.not_false]) ?_
               refine N_run 4 [(0, .slice aB aN aC), (2, .int .i32 x), (7, .pointer ra), (9, .int .u64 ra_2), (158, .bool (!ra_7))] (fun _=>by kernel_rfl) ?_
               refine N_end (by kernel_rfl) ?_
               refine S_env [(0, .slice aB aN aC), (2, .int .i32 x), (7, .pointer ra), (9, .int .u64 ra_2), (158, .bool (((ra_5 == 12) && (ra_6 != 12)) || ((ra_6 == 12) && (!ra_7))))] (by simp only [b35, b37, b39, Bool.true_or, Bool.false_or, Bool.or_true, Bool.or_false, Bool.true_and, Bool.false_and, Bool.and_true, Bool.and_false, Bool.not_true, Bool.not_false, cond_true, cond_false]) ?_
               exact hk
              ·have b39 : (ra_6 == 12) = false := beq_eq_false_iff_ne.mpr c38
               refine N_env [(0, .slice aB aN aC), (2, .int .i32 x), (7, .pointer ra), (9, .int .u64 ra_2), (19, .bool ra_7), (151, .bool false), (154, .bool false)] (by simp only [b39, Bool.not_true, Bool.not_false]) ?_
               refine N_run 4 [(0, .slice aB aN aC), (2, .int .i32 x), (7, .pointer ra), (9, .int .u64 ra_2), (158, .bool false)] (fun _=>by kernel_rfl) ?_
               refine N_end (by kernel_rfl) ?_
               refine S_env [(0, .slice aB aN aC), (2, .int .i32 x), (7, .pointer ra), (9, .int .u64 ra_2), (158, .bool (((ra_5 == 12) && (ra_6 != 12)) || ((ra_6 == 12) && (!ra_7))))] (by simp only [b35, b37, b39, Bool.true_or, Bool.false_or, Bool.or_true, Bool.or_false, Bool.true_and, Bool.false_and, Bool.and_true, Bool.and_false, Bool.not_true, Bool.not_false, cond_true, cond_false]) ?_
               exact hk
             ·have b37 : (ra_6 != 12) = true := bne_iff_ne.mpr c36
              refine N_env [(0, .slice aB aN aC), (2, .int .i32 x), (7, .pointer ra), (9, .int .u64 ra_2), (17, .int .u64 ra_6), (19, .bool ra_7), (151, .bool true)] (by simp only [b37, Bool.not_true, Bool.not_false]) ?_
              refine N_run 7 [(0, .slice aB aN aC), (2, .int .i32 x), (7, .pointer ra), (9, .int .u64 ra_2), (158, .bool true)] (fun _=>by kernel_rfl) ?_
              refine N_end (by kernel_rfl) ?_
              refine S_env [(0, .slice aB aN aC), (2, .int .i32 x), (7, .pointer ra), (9, .int .u64 ra_2), (158, .bool (((ra_5 == 12) && (ra_6 != 12)) || ((ra_6 == 12) && (!ra_7))))] (by simp only [b35, b37, Bool.true_or, Bool.false_or, Bool.or_true, Bool.or_false, Bool.true_and, Bool.false_and, Bool.and_true, Bool.and_false, Bool.not_true, Bool.not_false, cond_true, cond_false]) ?_
              exact hk
            ·have b35 : (ra_5 == 12) = false := beq_eq_false_iff_ne.mpr c34
             refine N_env [(0, .slice aB aN aC), (2, .int .i32 x), (7, .pointer ra), (9, .int .u64 ra_2), (17, .int .u64 ra_6), (19, .bool ra_7), (147, .bool false)] (by simp only [b35, Bool.not_true, Bool.not_false]) ?_
             refine N_run 7 [(0, .slice aB aN aC), (2, .int .i32 x), (7, .pointer ra), (9, .int .u64 ra_2), (19, .bool ra_7), (151, .bool false), (154, .bool (ra_6 == 12))] (fun _=>by kernel_rfl) ?_
             by_cases c40 : ra_6 = 12
             ·have b41 : (ra_6 == 12) = true := beq_iff_eq.mpr c40
              refine N_env [(0, .slice aB aN aC), (2, .int .i32 x), (7, .pointer ra), (9, .int .u64 ra_2), (19, .bool ra_7), (151, .bool false), (154, .bool true)] (by simp only [b41, Bool.not_true, Bool.not_false]) ?_
              refine N_run 4 [(0, .slice aB aN aC), (2, .int .i32 x), (7, .pointer ra), (9, .int .u64 ra_2), (158, .bool (!ra_7))] (fun _=>by kernel_rfl) ?_
              refine N_end (by kernel_rfl) ?_
              refine S_env [(0, .slice aB aN aC), (2, .int .i32 x), (7, .pointer ra), (9, .int .u64 ra_2), (158, .bool (((ra_5 == 12) && (ra_6 != 12)) || ((ra_6 == 12) && (!ra_7))))] (by simp only [b35, b41, Bool.true_or, Bool.false_or, Bool.or_true, Bool.or_false, Bool.true_and, Bool.false_and, Bool.and_true, Bool.and_false, Bool.not_true, Bool.not_false, cond_true, cond_false]) ?_
              exact hk
             ·have b41 : (ra_6 == 12) = false := beq_eq_false_iff_ne.mpr c40
              refine N_env [(0, .slice aB aN aC), (2, .int .i32 x), (7, .pointer ra), (9, .int .u64 ra_2), (19, .bool ra_7), (151, .bool false), (154, .bool false)] (by simp only [b41, Bool.not_true, Bool.not_false]) ?_
              refine N_run 4 [(0, .slice aB aN aC), (2, .int .i32 x), (7, .pointer ra), (9, .int .u64 ra_2), (158, .bool false)] (fun _=>by kernel_rfl) ?_
              refine N_end (by kernel_rfl) ?_
              refine S_env [(0, .slice aB aN aC), (2, .int .i32 x), (7, .pointer ra), (9, .int .u64 ra_2), (158, .bool (((ra_5 == 12) && (ra_6 != 12)) || ((ra_6 == 12) && (!ra_7))))] (by simp only [b35, b41, Bool.true_or, Bool.false_or, Bool.or_true, Bool.or_false, Bool.true_and, Bool.false_and, Bool.and_true, Bool.and_false, Bool.not_true, Bool.not_false, cond_true, cond_false]) ?_
              exact hk
          ·rw [if_neg c32] at h
           have b33 : (!(ra_7 == x_3)) = true := congrArg Bool.not (beq_eq_false_iff_ne.mpr c32)
           refine S_env [(0, .slice aB aN aC), (2, .int .i32 x), (7, .pointer ra), (9, .int .u64 ra_2), (15, .int .u64 ra_5), (17, .int .u64 ra_6), (19, .bool ra_7), (144, .bool true)] (by simp only [b33, Bool.not_true, Bool.not_false]) ?_
           clear b33
           refine S_condT (.tmp 144) kk41 kk42 (by kernel_rfl) (by kernel_rfl) ?_
           refine T_sr 15 kk94 kk95 ?_
           refine N_run 1 [(6, .bool false)] (fun _=>by kernel_rfl) ?_
           refine T_e ?_
           refine S_ret (by kernel_rfl) ?_
           show At _ _ _ _ _ (Q .ret)
           exact S_done (fn := Try.f5) [.bool false] hQ (show ResOK _ _ _ [.tmp 6] _ from .tmp (by kernel_rfl) (.nil)) h
         ·rw [if_neg c30] at h
          have b31 : (!ra_9) = true := congrArg Bool.not (eq_false_of_ne_true c30)
          have b312 : ra_9 = false := eq_false_of_ne_true c30
          refine N_env [(0, .slice aB aN aC), (1, .slice bB bN bC), (2, .int .i32 x), (7, .pointer ra), (9, .int .u64 ra_2), (15, .int .u64 ra_5), (17, .int .u64 ra_6), (19, .bool ra_7), (136, .bool true)] (by simp only [b31, b312, Bool.not_true, Bool.not_false]) ?_
          clear b31 b312
          refine N_run 8 [(0, .slice aB aN aC), (2, .int .i32 x), (7, .pointer ra), (9, .int .u64 ra_2), (15, .int .u64 ra_5), (17, .int .u64 ra_6), (19, .bool ra_7), (144, .bool true)] (fun _=>by kernel_rfl) ?_
          refine T_e ?_
          refine S_condT (.tmp 144) kk41 kk42 (by kernel_rfl) (by kernel_rfl) ?_
          refine T_sr 15 kk94 kk95 ?_
          refine N_run 1 [(6, .bool false)] (fun _=>by kernel_rfl) ?_
          refine T_e ?_
          refine S_ret (by kernel_rfl) ?_
          show At _ _ _ _ _ (Q .ret)
          exact S_done (fn := Try.f5) [.bool false] hQ (show ResOK _ _ _ [.tmp 6] _ from .tmp (by kernel_rfl) (.nil)) h
        ·rw [if_neg c28] at h
         have b29 : (!(ra_7 == ra_8)) = true := congrArg Bool.not (beq_eq_false_iff_ne.mpr c28)
         refine N_env [(0, .slice aB aN aC), (1, .slice bB bN bC), (2, .int .i32 x), (7, .pointer ra), (9, .int .u64 ra_2), (15, .int .u64 ra_5), (17, .int .u64 ra_6), (19, .bool ra_7), (22, .bool ra_9), (132, .bool true)] (by simp only [b29, Bool.not_true, Bool.not_false]) ?_
         clear b29
         refine N_run 12 [(0, .slice aB aN aC), (2, .int .i32 x), (7, .pointer ra), (9, .int .u64 ra_2), (15, .int .u64 ra_5), (17, .int .u64 ra_6), (19, .bool ra_7), (144, .bool true)] (fun _=>by kernel_rfl) ?_
         refine T_e ?_
         refine S_condT (.tmp 144) kk41 kk42 (by kernel_rfl) (by kernel_rfl) ?_
         refine T_sr 15 kk94 kk95 ?_
         refine N_run 1 [(6, .bool false)] (fun _=>by kernel_rfl) ?_
         refine T_e ?_
         refine S_ret (by kernel_rfl) ?_
         show At _ _ _ _ _ (Q .ret)
         exact S_done (fn := Try.f5) [.bool false] hQ (show ResOK _ _ _ [.tmp 6] _ from .tmp (by kernel_rfl) (.nil)) h
       ·rw [if_neg c26] at h
        have b27 : (rb_9 != 0) = true := bne_iff_ne.mpr c26
        refine N_env [(0, .slice aB aN aC), (1, .slice bB bN bC), (2, .int .i32 x), (7, .pointer ra), (9, .int .u64 ra_2), (15, .int .u64 ra_5), (17, .int .u64 ra_6), (19, .bool ra_7), (20, .bool ra_8), (22, .bool ra_9), (127, .bool true)] (by simp only [b27, Bool.not_true, Bool.not_false]) ?_
        clear b27
        refine N_run 17 [(0, .slice aB aN aC), (2, .int .i32 x), (7, .pointer ra), (9, .int .u64 ra_2), (15, .int .u64 ra_5), (17, .int .u64 ra_6), (19, .bool ra_7), (144, .bool true)] (fun _=>by kernel_rfl) ?_
        refine T_e ?_
        refine S_condT (.tmp 144) kk41 kk42 (by kernel_rfl) (by kernel_rfl) ?_
        refine T_sr 15 kk94 kk95 ?_
        refine N_run 1 [(6, .bool false)] (fun _=>by kernel_rfl) ?_
        refine T_e ?_
        refine S_ret (by kernel_rfl) ?_
        show At _ _ _ _ _ (Q .ret)
        exact S_done (fn := Try.f5) [.bool false] hQ (show ResOK _ _ _ [.tmp 6] _ from .tmp (by kernel_rfl) (.nil)) h
      ·rw [if_neg c24] at h
       have b25 : (rb_8 != 0) = true := bne_iff_ne.mpr c24
       refine N_env [(0, .slice aB aN aC), (1, .slice bB bN bC), (2, .int .i32 x), (7, .pointer ra), (9, .int .u64 ra_2), (15, .int .u64 ra_5), (17, .int .u64 ra_6), (19, .bool ra_7), (20, .bool ra_8), (22, .bool ra_9), (23, .int .i64 rb_9), (123, .bool true)] (by simp only [b25, Bool.not_true, Bool.not_false]) ?_
       clear b25
       refine N_run 21 [(0, .slice aB aN aC), (2, .int .i32 x), (7, .pointer ra), (9, .int .u64 ra_2), (15, .int .u64 ra_5), (17, .int .u64 ra_6), (19, .bool ra_7), (144, .bool true)] (fun _=>by kernel_rfl) ?_
       refine T_e ?_
       refine S_condT (.tmp 144) kk41 kk42 (by kernel_rfl) (by kernel_rfl) ?_
       refine T_sr 15 kk94 kk95 ?_
       refine N_run 1 [(6, .bool false)] (fun _=>by kernel_rfl) ?_
       refine T_e ?_
       refine S_ret (by kernel_rfl) ?_
       show At _ _ _ _ _ (Q .ret)
       exact S_done (fn := Try.f5) [.bool false] hQ (show ResOK _ _ _ [.tmp 6] _ from .tmp (by kernel_rfl) (.nil)) h
     ·rw [if_neg c22] at h
      have b23 : (rb_7 != 0) = true := bne_iff_ne.mpr c22
      refine N_env [(0, .slice aB aN aC), (1, .slice bB bN bC), (2, .int .i32 x), (7, .pointer ra), (9, .int .u64 ra_2), (15, .int .u64 ra_5), (17, .int .u64 ra_6), (19, .bool ra_7), (20, .bool ra_8), (21, .int .i64 rb_8), (22, .bool ra_9), (23, .int .i64 rb_9), (119, .bool true)] (by simp only [b23, Bool.not_true, Bool.not_false]) ?_
      clear b23
      refine N_run 25 [(0, .slice aB aN aC), (2, .int .i32 x), (7, .pointer ra), (9, .int .u64 ra_2), (15, .int .u64 ra_5), (17, .int .u64 ra_6), (19, .bool ra_7), (144, .bool true)] (fun _=>by kernel_rfl) ?_
      refine T_e ?_
      refine S_condT (.tmp 144) kk41 kk42 (by kernel_rfl) (by kernel_rfl) ?_
      refine T_sr 15 kk94 kk95 ?_
      refine N_run 1 [(6, .bool false)] (fun _=>by kernel_rfl) ?_
      refine T_e ?_
      refine S_ret (by kernel_rfl) ?_
      show At _ _ _ _ _ (Q .ret)
      exact S_done (fn := Try.f5) [.bool false] hQ (show ResOK _ _ _ [.tmp 6] _ from .tmp (by kernel_rfl) (.nil)) h
   ·intro hk
    refine N_run 3 [(0, .slice aB aN aC), (1, .slice bB bN bC), (2, .int .i32 x), (7, .pointer ra), (9, .int .u64 ra_2), (11, .int .u64 ra_3), (12, .bool rb_3), (13, .int .u64 ra_4), (14, .bool rb_4), (72, .bool (!rb_2))] (fun _=>by kernel_rfl) ?_
    by_cases c12 : rb_2 = true
    ·have b13 : (!rb_2) = false := congrArg Bool.not (c12)
     have b132 : rb_2 = true := c12
     refine N_env [(0, .slice aB aN aC), (1, .slice bB bN bC), (2, .int .i32 x), (7, .pointer ra), (9, .int .u64 ra_2), (11, .int .u64 ra_3), (12, .bool rb_3), (13, .int .u64 ra_4), (14, .bool rb_4), (72, .bool false)] (by simp only [b13, b132, Bool.not_true, Bool.not_false]) ?_
     refine N_run 4 [(0, .slice aB aN aC), (1, .slice bB bN bC), (2, .int .i32 x), (7, .pointer ra), (9, .int .u64 ra_2), (11, .int .u64 ra_3), (13, .int .u64 ra_4), (14, .bool rb_4), (76, .bool (!rb_3))] (fun _=>by kernel_rfl) ?_
     by_cases c14 : rb_3 = true
     ·have b15 : (!rb_3) = false := congrArg Bool.not (c14)
      have b152 : rb_3 = true := c14
      refine N_env [(0, .slice aB aN aC), (1, .slice bB bN bC), (2, .int .i32 x), (7, .pointer ra), (9, .int .u64 ra_2), (11, .int .u64 ra_3), (13, .int .u64 ra_4), (14, .bool rb_4), (76, .bool false)] (by simp only [b15, b152, Bool.not_true, Bool.not_false]) ?_
      refine N_run 3 [(0, .slice aB aN aC), (1, .slice bB bN bC), (2, .int .i32 x), (7, .pointer ra), (9, .int .u64 ra_2), (11, .int .u64 ra_3), (13, .int .u64 ra_4), (79, .bool (!rb_4))] (fun _=>by kernel_rfl) ?_
      refine N_end (by kernel_rfl) ?_
      refine S_env [(0, .slice aB aN aC), (1, .slice bB bN bC), (2, .int .i32 x), (7, .pointer ra), (9, .int .u64 ra_2), (11, .int .u64 ra_3), (13, .int .u64 ra_4), (79, .bool (((!rb_2) || (!rb_3)) || (!rb_4)))] (by simp only [b13, b15, Bool.true_or, Bool.false_or, Bool.or_true, Bool.or_false, Bool.true_and, Bool.false_and, Bool.and_true, Bool.and_false, Bool.not_true, Bool.not_false, cond_true, cond_false]) ?_
      exact hk
     ·have b15 : (!rb_3) = true := congrArg Bool.not (eq_false_of_ne_true c14)
      have b152 : rb_3 = false := eq_false_of_ne_true c14
      refine N_env [(0, .slice aB aN aC), (1, .slice bB bN bC), (2, .int .i32 x), (7, .pointer ra), (9, .int .u64 ra_2), (11, .int .u64 ra_3), (13, .int .u64 ra_4), (14, .bool rb_4), (76, .bool true)] (by simp only [b15, b152, Bool.not_true, Bool.not_false]) ?_
      refine N_run 3 [(0, .slice aB aN aC), (1, .slice bB bN bC), (2, .int .i32 x), (7, .pointer ra), (9, .int .u64 ra_2), (11, .int .u64 ra_3), (13, .int .u64 ra_4), (79, .bool true)] (fun _=>by kernel_rfl) ?_
      refine N_end (by kernel_rfl) ?_
      refine S_env [(0, .slice aB aN aC), (1, .slice bB bN bC), (2, .int .i32 x), (7, .pointer ra), (9, .int .u64 ra_2), (11, .int .u64 ra_3), (13, .int .u64 ra_4), (79, .bool (((!rb_2) || (!rb_3)) || (!rb_4)))] (by simp only [b13, b15, Bool.true_or, Bool.false_or, Bool.or_true, Bool.or_false, Bool.true_and, Bool.false_and, Bool.and_true, Bool.and_false, Bool.not_true, Bool.not_false, cond_true, cond_false]) ?_
      exact hk
    ·have b13 : (!rb_2) = true := congrArg Bool.not (eq_false_of_ne_true c12)
     have b132 : rb_2 = false := eq_false_of_ne_true c12
     refine N_env [(0, .slice aB aN aC), (1, .slice bB bN bC), (2, .int .i32 x), (7, .pointer ra), (9, .int .u64 ra_2), (11, .int .u64 ra_3), (12, .bool rb_3), (13, .int .u64 ra_4), (14, .bool rb_4), (72, .bool true)] (by simp only [b13, b132, Bool.not_true, Bool.not_false]) ?_
     refine N_run 7 [(0, .slice aB aN aC), (1, .slice bB bN bC), (2, .int .i32 x), (7, .pointer ra), (9, .int .u64 ra_2), (11, .int .u64 ra_3), (13, .int .u64 ra_4), (79, .bool true)] (fun _=>by kernel_rfl) ?_
     refine N_end (by kernel_rfl) ?_
     refine S_env [(0, .slice aB aN aC), (1, .slice bB bN bC), (2, .int .i32 x), (7, .pointer ra), (9, .int .u64 ra_2), (11, .int .u64 ra_3), (13, .int .u64 ra_4), (79, .bool (((!rb_2) || (!rb_3)) || (!rb_4)))] (by simp only [b13, Bool.true_or, Bool.false_or, Bool.or_true, Bool.or_false, Bool.true_and, Bool.false_and, Bool.and_true, Bool.and_false, Bool.not_true, Bool.not_false, cond_true, cond_false]) ?_
     exact hk
 ·intro hk
  refine N_run 3 [(0, .slice aB aN aC), (1, .slice bB bN bC), (2, .int .i32 x), (7, .pointer ra), (8, .int .i64 rb), (34, .bool (rb != 0))] (fun _=>by kernel_rfl) ?_
  by_cases c1 : rb = 0
  ·have b2 : (rb != 0) = false := bne_eq_false_iff_eq.mpr c1
   refine N_env [(0, .slice aB aN aC), (1, .slice bB bN bC), (2, .int .i32 x), (7, .pointer ra), (8, .int .i64 rb), (34, .bool false)] (by simp only [b2, Bool.not_true, Bool.not_false]) ?_
   refine N_run 5 [(0, .slice aB aN aC), (1, .slice bB bN bC), (2, .int .i32 x), (7, .pointer ra), (8, .int .i64 rb), (39, .bool (decide ((aN : Int) > 300)))] (fun _=>by kernel_rfl) ?_
   by_cases c3 : (aN : Int) > 300
   ·have b4 : (decide ((aN : Int) > 300)) = true := decide_eq_true c3
    refine N_env [(0, .slice aB aN aC), (1, .slice bB bN bC), (2, .int .i32 x), (7, .pointer ra), (8, .int .i64 rb), (39, .bool true)] (by simp only [b4, Bool.not_true, Bool.not_false]) ?_
    refine N_run 4 [(0, .slice aB aN aC), (1, .slice bB bN bC), (2, .int .i32 x), (7, .pointer ra), (8, .int .i64 rb), (43, .bool true)] (fun _=>by kernel_rfl) ?_
    refine N_end (by kernel_rfl) ?_
    refine S_env [(0, .slice aB aN aC), (1, .slice bB bN bC), (2, .int .i32 x), (7, .pointer ra), (8, .int .i64 rb), (43, .bool (((rb != 0) || (decide ((aN : Int) > 300))) || (decide ((bN : Int) > 300))))] (by simp only [b2, b4, Bool.true_or, Bool.false_or, Bool.or_true, Bool.or_false, Bool.true_and, Bool.false_and, Bool.and_true, Bool.and_false, Bool.not_true, Bool.not_false, cond_true, cond_false]) ?_
    exact hk
   ·have b4 : (decide ((aN : Int) > 300)) = false := decide_eq_false c3
    refine N_env [(0, .slice aB aN aC), (1, .slice bB bN bC), (2, .int .i32 x), (7, .pointer ra), (8, .int .i64 rb), (39, .bool false)] (by simp only [b4, Bool.not_true, Bool.not_false]) ?_
    refine N_run 4 [(0, .slice aB aN aC), (1, .slice bB bN bC), (2, .int .i32 x), (7, .pointer ra), (8, .int .i64 rb), (43, .bool (decide ((bN : Int) > 300)))] (fun _=>by kernel_rfl) ?_
    refine N_end (by kernel_rfl) ?_
    refine S_env [(0, .slice aB aN aC), (1, .slice bB bN bC), (2, .int .i32 x), (7, .pointer ra), (8, .int .i64 rb), (43, .bool (((rb != 0) || (decide ((aN : Int) > 300))) || (decide ((bN : Int) > 300))))] (by simp only [b2, b4, Bool.true_or, Bool.false_or, Bool.or_true, Bool.or_false, Bool.true_and, Bool.false_and, Bool.and_true, Bool.and_false, Bool.not_true, Bool.not_false, cond_true, cond_false]) ?_
    exact hk
  ·have b2 : (rb != 0) = true := bne_iff_ne.mpr c1
   refine N_env [(0, .slice aB aN aC), (1, .slice bB bN bC), (2, .int .i32 x), (7, .pointer ra), (8, .int .i64 rb), (34, .bool true)] (by simp only [b2, Bool.not_true, Bool.not_false]) ?_
   refine N_run 9 [(0, .slice aB aN aC), (1, .slice bB bN bC), (2, .int .i32 x), (7, .pointer ra), (8, .int .i64 rb), (43, .bool true)] (fun _=>by kernel_rfl) ?_
   refine N_end (by kernel_rfl) ?_
   refine S_env [(0, .slice aB aN aC), (1, .slice bB bN bC), (2, .int .i32 x), (7, .pointer ra), (8, .int .i64 rb), (43, .bool (((rb != 0) || (decide ((aN : Int) > 300))) || (decide ((bN : Int) > 300))))] (by simp only [b2, Bool.true_or, Bool.false_or, Bool.or_true, Bool.or_false, Bool.true_and, Bool.false_and, Bool.and_true, Bool.and_false, Bool.not_true, Bool.not_false, cond_true, cond_false]) ?_
   exact hk
end morainelaw22_ListsSame

end Go.Proofs.Ythlohokmnajpoaa
