/-
  Written by a program of mine (gen.py): for functions of this translation a predicate transformer over heaps (.pt), and the proof that it is sound for the call (.link).
-/
import Derived.Test.YthlohokmnajpoaaFnsC
set_option linter.unusedSimpArgs false
set_option linter.unusedVariables false
set_option maxHeartbeats 1000000
noncomputable section
namespace Go.Proofs.Ythlohokmnajpoaa
open Go
/-! moraine/morainelaw22.ListsBack -/
namespace morainelaw22_ListsBack
def kk0 := Func.code Try.f3
def kk1 := Code.fa kk0
def kk2 := Code.fb kk0
def kk3 := Code.fa kk2
def kk4 := Code.fb kk2
def kk5 := Code.fa kk4
def kk6 := Code.fb kk4
def kk7 := Code.fa kk5
def kk8 := Code.fb kk5
def kk9 := Code.fa kk8
def kk10 := Code.fb kk8
def kk11 := Code.fa kk9
def kk12 := Code.fb kk9
def kk13 := Code.fa kk6
def kk14 := Code.fb kk6
def kk15 := Code.fa kk14
def kk16 := Code.fb kk14
def kk17 := Code.fa kk16
def kk18 := Code.fb kk16
def kk19 := Code.fa kk18
def kk20 := Code.fb kk18
def kk21 := Code.fa kk19
def kk22 := Code.fb kk19
def kk23 := Code.fa kk22
def kk24 := Code.fb kk22
def kk25 := Code.fa kk23
def kk26 := Code.fb kk23
def kk27 := Code.fa kk20
def kk28 := Code.fb kk20
def kk29 := Code.fa kk28
def kk30 := Code.fb kk28
def kk31 := Code.fa kk30
def kk32 := Code.fb kk30
def kk33 := Code.fa kk32
def kk34 := Code.fb kk32
def kk35 := Code.fa kk34
def kk36 := Code.fb kk34
def kk37 := Code.fa kk35
def kk38 := Code.fb kk35
def kk39 := Code.fa kk38
def kk40 := Code.fb kk38
def kk41 := Code.fa kk39
def kk42 := Code.fb kk39
def kk43 := Code.fa kk36
def kk44 := Code.fb kk36
def kk45 := Code.fa kk44
def kk46 := Code.fb kk44
def kk47 := Code.fa kk45
def kk48 := Code.fb kk45
def kk49 := Code.fa kk48
def kk50 := Code.fa kk49
def kk51 := Code.fa kk50
def kk52 := Code.fb kk50
def kk53 := Code.fa kk51
def kk54 := Code.fb kk51
def kk55 := Code.fa kk54
def kk56 := Code.fb kk54
def kk57 := Code.fa kk52
def kk58 := Code.fb kk52
def kk59 := Code.fa kk57
def kk60 := Code.fa kk59
def kk61 := Code.fb kk59
def kk62 := Code.fa kk61
def kk63 := Code.fb kk61
def kk64 := Code.fa kk62
def kk65 := Code.fb kk62
def kk66 := Code.fa kk46
def kk67 := Code.fb kk46
def kk68 := Code.fa kk67
def kk69 := Code.fb kk67
def kk70 := Code.fa kk69
def kk71 := Code.fb kk69
def kk72 := Code.fa kk70
def kk73 := Code.fb kk70
def kk74 := Code.fa kk73
def kk75 := Code.fb kk73
def kk76 := Code.fa kk71
def kk77 := Code.fb kk71
def kk78 := Code.fa kk76
def kk79 := Code.fb kk76
def kk80 := Code.fa kk79
def kk81 := Code.fa kk80
def kk82 := Code.fa kk81
def kk83 := Code.fb kk81
def kk84 := Code.fa kk82
def kk85 := Code.fb kk82
def kk86 := Code.fa kk85
def kk87 := Code.fb kk85
def kk88 := Code.fa kk83
def kk89 := Code.fb kk83
def kk90 := Code.fa kk88
def kk91 := Code.fa kk90
def kk92 := Code.fb kk90
def kk93 := Code.fa kk92
def kk94 := Code.fb kk92
def kk95 := Code.fa kk94
def kk96 := Code.fb kk94
def kk97 := Code.fa kk95
def kk98 := Code.fb kk95
def kk99 := Code.fa kk77
def kk100 := Code.fb kk77
def kk101 := Code.fa kk100
def kk102 := Code.fb kk100
def kk103 := Code.fa kk74
def kk104 := Code.fb kk74
end morainelaw22_ListsBack
def morainelaw22_ListsBack.pt (aB : Option Addr) (aN : Nat) (aC : Nat) (bB : Option Addr) (bN : Nat) (bC : Nat) (H : Array Obj) (R : Value → Array Obj → Prop) : Prop :=
 obj_New.C 400 H (fun v H1 => ∃ ra : Option Addr, ∃ rb : Int, v = .tuple #[.pointer ra, .int .i64 rb] ∧ 
  if (((rb != 0) || (decide ((aN : Int) > 500))) || (decide ((bN : Int) > 500))) = true then (
   ∃ J : Bool → Array Obj → Prop, (
    if rb = 0 then (
     morainelaw22_awake.C  H1 (fun v_2 H3 => ∃ x : Bool, v_2 = .bool x ∧ 
      J x H3))
    else
    J false H1) ∧ ∀ (s4 : Bool) (H2 : Array Obj), J s4 H2 →
   R (.bool s4) H2)
  else
  morainelaw22_fixes.C aB aN aC H1 (fun v_3 H4 => ∃ xB : Option Addr, ∃ xN : Nat, ∃ xC : Nat, v_3 = .slice xB xN xC ∧ 
   morainelaw22_fixes.C bB bN bC H4 (fun v_4 H5 => ∃ xB_2 : Option Addr, ∃ xN_2 : Nat, ∃ xC_2 : Nat, v_4 = .slice xB_2 xN_2 xC_2 ∧ 
    morainelaw22_of.C ra xB xN xC H5 (fun v_5 H6 => ∃ ra_2 : Int, ∃ rb_2 : Bool, v_5 = .tuple #[.int .u64 ra_2, .bool rb_2] ∧ 
     morainelaw22_of.C ra xB_2 xN_2 xC_2 H6 (fun v_6 H7 => ∃ ra_3 : Int, ∃ rb_3 : Bool, v_6 = .tuple #[.int .u64 ra_3, .bool rb_3] ∧ 
      if ((!rb_2) || (!rb_3)) = true then (
       R (.bool false) H7)
      else
      ∀ (b : Nat) (H8 : Array Obj), b = H7.size → H8 = H7.push (.cells #[.int .u64 ra_2] 31) →
      lists_Apply.C ra 15 (some (Addr.mk b 0 none)) 1 1 H8 (fun v_7 H9 => ∃ ra_4 : Int, ∃ rb_4 : Int, v_7 = .tuple #[.int .u64 ra_4, .int .i64 rb_4] ∧ 
       ∀ (b_2 : Nat) (H10 : Array Obj), b_2 = H9.size → H10 = H9.push (.cells #[.int .u64 ra_4] 31) →
       lists_Apply.C ra 15 (some (Addr.mk b_2 0 none)) 1 1 H10 (fun v_8 H11 => ∃ ra_5 : Int, ∃ rb_5 : Int, v_8 = .tuple #[.int .u64 ra_5, .int .i64 rb_5] ∧ 
        ∀ (b_3 : Nat) (H12 : Array Obj), b_3 = H11.size → H12 = H11.push (.cells #[.int .u64 ra_2, .int .u64 ra_3] 31) →
        lists_Apply.C ra 14 (some (Addr.mk b_3 0 none)) 2 2 H12 (fun v_9 H13 => ∃ ra_6 : Int, ∃ rb_6 : Int, v_9 = .tuple #[.int .u64 ra_6, .int .i64 rb_6] ∧ 
         ∀ (b_4 : Nat) (H14 : Array Obj), b_4 = H13.size → H14 = H13.push (.cells #[.int .u64 ra_6] 31) →
         lists_Apply.C ra 13 (some (Addr.mk b_4 0 none)) 1 1 H14 (fun v_10 H15 => ∃ ra_7 : Int, ∃ rb_7 : Int, v_10 = .tuple #[.int .u64 ra_7, .int .i64 rb_7] ∧ 
          if (((((rb_4 != 0) || (rb_5 != 0)) || (rb_6 != 0)) || (rb_7 != 0)) || (ra_7 != (ishl .u64 (IntKind.wrap .u64 (IntKind.wrap .i64 ((aN : Int) + (bN : Int)))) 3))) = true then (
           R (.bool false) H15)
          else
          lists_List.C ra ra_4 H15 (fun v_11 H16 => ∃ raB : Option Addr, ∃ raN : Nat, ∃ raC : Nat, ∃ rb_8 : Bool, v_11 = .tuple #[.slice raB raN raC, .bool rb_8] ∧ 
           ∃ (I51 : Int → Array Obj → Prop) (m51 : Int → Array Obj → Nat), I51 0 H16 ∧ ∀ (k : Int) (H17 : Array Obj), I51 k H17 →
           if k < (raN : Int) then (
            ∃ raBA : Addr, raB = some raBA ∧
            ((0 : Int) ≤ k ∧ k < (raN : Int)) ∧
            ∃ x_2 : Int, hat H17 (raBA.add (Int.toNat k * 1)) = some (.int .u64 x_2) ∧
            ∃ xBA : Addr, xB = some xBA ∧
            ((0 : Int) ≤ (IntKind.wrap .i64 ((IntKind.wrap .i64 ((xN : Int) - 1)) - k)) ∧ (IntKind.wrap .i64 ((IntKind.wrap .i64 ((xN : Int) - 1)) - k)) < (xN : Int)) ∧
            ∃ x_3 : Int, hat H17 (xBA.add (Int.toNat (IntKind.wrap .i64 ((IntKind.wrap .i64 ((xN : Int) - 1)) - k)) * 1)) = some (.int .u64 x_3) ∧
            if x_2 = x_3 then (
             (I51 (IntKind.wrap .i64 (k + 1)) H17 ∧ m51 (IntKind.wrap .i64 (k + 1)) H17 < m51 k H17))
            else
            R (.bool false) H17)
           else
           lists_List.C ra ra_5 H17 (fun v_12 H18 => ∃ raB_2 : Option Addr, ∃ raN_2 : Nat, ∃ raC_2 : Nat, ∃ rb_9 : Bool, v_12 = .tuple #[.slice raB_2 raN_2 raC_2, .bool rb_9] ∧ 
            lists_List.C ra ra_6 H18 (fun v_13 H19 => ∃ raB_3 : Option Addr, ∃ raN_3 : Nat, ∃ raC_3 : Nat, ∃ rb_10 : Bool, v_13 = .tuple #[.slice raB_3 raN_3 raC_3, .bool rb_10] ∧ 
             if (raN : Int) = (xN : Int) then (
              morainelaw22_same.C raB_2 raN_2 raC_2 xB xN xC H19 (fun v_14 H20 => ∃ x_4 : Bool, v_14 = .bool x_4 ∧ 
               if x_4 = true then (
                ∀ (b_5 : Nat) (H21 : Array Obj), b_5 = H20.size → H21 = H20.push (.cells #[] 31) →
                appendK 1 31 8 [.int .u64 0] (some (Addr.mk b_5 0 none)) 0 0 xB xN H21 (fun ap apC H22 =>
                 appendK 1 31 8 [.int .u64 0] ap (0 + xN) apC xB_2 xN_2 H22 (fun ap_2 apC_2 H23 =>
                  morainelaw22_same.C raB_3 raN_3 raC_3 ap_2 ((0 + xN) + xN_2) apC_2 H23 (fun v_15 H24 => ∃ x_5 : Bool, v_15 = .bool x_5 ∧ 
                   if x_5 = true then (
                    ∃ (I82 : Int → Array Obj → Prop) (m82 : Int → Array Obj → Nat), I82 0 H24 ∧ ∀ (k_2 : Int) (H25 : Array Obj), I82 k_2 H25 →
                    if k_2 < (xN : Int) then (
                     ∀ (b_6 : Nat) (H26 : Array Obj), b_6 = H25.size → H26 = H25.push (.cells #[.int .u64 ra_6, .int .u64 (ishl .u64 (IntKind.wrap .u64 k_2) 3)] 31) →
                     lists_Apply.C ra 17 (some (Addr.mk b_6 0 none)) 2 2 H26 (fun v_16 H27 => ∃ ra_8 : Int, ∃ rb_11 : Int, v_16 = .tuple #[.int .u64 ra_8, .int .i64 rb_11] ∧ 
                      if rb_11 = 0 then (
                       ∃ xBA_2 : Addr, xB = some xBA_2 ∧
                       ((0 : Int) ≤ k_2 ∧ k_2 < (xN : Int)) ∧
                       ∃ x_6 : Int, hat H27 (xBA_2.add (Int.toNat k_2 * 1)) = some (.int .u64 x_6) ∧
                       if ra_8 = x_6 then (
                        (I82 (IntKind.wrap .i64 (k_2 + 1)) H27 ∧ m82 (IntKind.wrap .i64 (k_2 + 1)) H27 < m82 k_2 H25))
                       else
                       R (.bool false) H27)
                      else
                      R (.bool false) H27))
                    else
                    ∀ (b_7 : Nat) (H28 : Array Obj), b_7 = H25.size → H28 = H25.push (.cells #[.int .u64 ra_6, .int .u64 (ishl .u64 (IntKind.wrap .u64 (xN : Int)) 3)] 31) →
                    lists_Apply.C ra 16 (some (Addr.mk b_7 0 none)) 2 2 H28 (fun v_17 H29 => ∃ ra_9 : Int, ∃ rb_12 : Int, v_17 = .tuple #[.int .u64 ra_9, .int .i64 rb_12] ∧ 
                     if rb_12 = 0 then (
                      if ra_9 = ra_3 then (
                       morainelaw22_awake.C  H29 (fun v_18 H30 => ∃ x_7 : Bool, v_18 = .bool x_7 ∧ 
                        R (.bool x_7) H30))
                      else
                      R (.bool false) H29)
                     else
                     R (.bool false) H29))
                   else
                   R (.bool false) H24))))
               else
               R (.bool false) H20))
             else
             R (.bool false) H19))))))))))))
namespace morainelaw22_ListsBack
set_option maxRecDepth 100000 in
theorem link {aB : Option Addr} {aN : Nat} {aC : Nat} {bB : Option Addr} {bN : Nat} {bC : Nat} {H : Array Obj} {R : Value → Array Obj → Prop} (h : pt aB aN aC bB bN bC H R) : C aB aN aC bB bN bC H R := by
  refine S_enter (fn := Try.f3) (c := kk0) 233 Try.func3 (by kernel_rfl) (by kernel_rfl) (Nat.le_of_ble_eq_true (by kernel_rfl)) ?_
  intro w0 Q hQ
  unfold pt at h
  refine S_sub [(0, .slice aB aN aC), (1, .slice bB bN bC)] (sb (by kernel_rfl)) ?_
  refine S_seq kk1 kk2 (by kernel_rfl) ?_
  refine S_region 0 (Code.ops kk1) (by kernel_rfl) ?_
  refine N_run 1 [(0, .slice aB aN aC), (1, .slice bB bN bC)] (fun w => by kernel_rfl) ?_
  refine N_end (by kernel_rfl) ?_
  refine S_then ?_
  refine S_seq kk3 kk4 (by kernel_rfl) ?_
  refine S_region 1 (Code.ops kk3) (by kernel_rfl) ?_
  refine N_call (some 32) 6 #[.int .i64 400] (fun w => by kernel_rfl) h ?_; clear h
  rintro v H1 ⟨ra, rb, rfl, h⟩
  refine ⟨[(0, .slice aB aN aC), (1, .slice bB bN bC), (32, .tuple #[.pointer ra, .int .i64 rb])], ps (by kernel_rfl), ?_⟩
  refine N_run 5 [(0, .slice aB aN aC), (1, .slice bB bN bC), (5, .pointer ra), (6, .int .i64 rb)] (fun w => by kernel_rfl) ?_
  refine N_end (by kernel_rfl) ?_
  refine S_then ?_
  refine S_seq kk5 kk6 (by kernel_rfl) ?_
  refine S_seq kk7 kk8 (by kernel_rfl) ?_
  refine S_region 2 (Code.ops kk7) (by kernel_rfl) ?_
  refine N_cut [(0, .slice aB aN aC), (1, .slice bB bN bC), (5, .pointer ra), (6, .int .i64 rb), (46, .bool (((rb != 0) || (decide ((aN : Int) > 500))) || (decide ((bN : Int) > 500))))] ?_ ?_
  · refine S_then ?_
    by_cases c5 : (((rb != 0) || (decide ((aN : Int) > 500))) || (decide ((bN : Int) > 500))) = true
    · rw [if_pos c5] at h
      have b6 : (((rb != 0) || (decide ((aN : Int) > 500))) || (decide ((bN : Int) > 500))) = true := c5
      refine S_env [(0, .slice aB aN aC), (1, .slice bB bN bC), (5, .pointer ra), (6, .int .i64 rb), (46, .bool true)] (by simp only [b6, Bool.not_true, Bool.not_false]) ?_
      clear b6
      refine S_condT (.tmp 46) kk9 kk10 (by kernel_rfl) (by kernel_rfl) ?_
      refine S_seq kk11 kk12 (by kernel_rfl) ?_
      obtain ⟨J, h, j8⟩ := h
      refine S_join (σ := Bool) (fun s_ => [(4, .bool s_)]) (fun s_ H => J s_ H) ?_ ?_
      · rintro s4 H2 j9
        replace h := j8 s4 H2 j9
        refine S_sub [(4, .bool s4)] (sb (by kernel_rfl)) ?_
        refine S_then ?_
        refine S_ret (by kernel_rfl) ?_
        show At _ _ _ _ _ (Q .ret)
        exact S_done (fn := Try.f3) [.bool s4] hQ (show ResOK _ _ _ [.tmp 4] _ from .tmp (by kernel_rfl) (.nil)) h
      · refine S_region 3 (Code.ops kk11) (by kernel_rfl) ?_
        refine N_run 3 [(49, .bool (rb == 0))] (fun w => by kernel_rfl) ?_
        by_cases c10 : rb = 0
        · rw [if_pos c10] at h
          have b11 : (rb == 0) = true := beq_iff_eq.mpr c10
          refine N_env [(49, .bool true)] (by simp only [b11, Bool.not_true, Bool.not_false]) ?_
          clear b11
          refine N_call (some 50) 7 #[] (fun w => by kernel_rfl) h ?_; clear h
          rintro v_2 H3 ⟨x, rfl, h⟩
          refine ⟨[(49, .bool true), (50, .bool x)], ps (by kernel_rfl), ?_⟩
          refine N_run 2 [(4, .bool x)] (fun w => by kernel_rfl) ?_
          refine N_end (by kernel_rfl) ?_
          refine S_then ?_
          exact S_meet (x : Bool) (sb (by kernel_rfl)) h
        · rw [if_neg c10] at h
          have b11 : (rb == 0) = false := beq_eq_false_iff_ne.mpr c10
          refine N_env [(49, .bool false)] (by simp only [b11, Bool.not_true, Bool.not_false]) ?_
          clear b11
          refine N_run 3 [(4, .bool false)] (fun w => by kernel_rfl) ?_
          refine N_end (by kernel_rfl) ?_
          refine S_then ?_
          exact S_meet (false : Bool) (sb (by kernel_rfl)) h
    · rw [if_neg c5] at h
      have b6 : (((rb != 0) || (decide ((aN : Int) > 500))) || (decide ((bN : Int) > 500))) = false := eq_false_of_ne_true c5
      refine S_env [(0, .slice aB aN aC), (1, .slice bB bN bC), (5, .pointer ra), (6, .int .i64 rb), (46, .bool false)] (by simp only [b6, Bool.not_true, Bool.not_false]) ?_
      clear b6
      refine S_condF (.tmp 46) kk9 kk10 (by kernel_rfl) (by kernel_rfl) ?_
      refine S_skip (by kernel_rfl) ?_
      refine S_then ?_
      refine S_seq kk13 kk14 (by kernel_rfl) ?_
      refine S_region 4 (Code.ops kk13) (by kernel_rfl) ?_
      refine N_run 1 [(0, .slice aB aN aC), (1, .slice bB bN bC), (5, .pointer ra), (52, .slice aB aN aC)] (fun w => by kernel_rfl) ?_
      refine N_call (some 53) 8 #[.slice aB aN aC] (fun w => by kernel_rfl) h ?_; clear h
      rintro v_3 H4 ⟨xB, xN, xC, rfl, h⟩
      refine ⟨[(0, .slice aB aN aC), (1, .slice bB bN bC), (5, .pointer ra), (53, .slice xB xN xC)], ps (by kernel_rfl), ?_⟩
      refine N_run 1 [(0, .slice aB aN aC), (1, .slice bB bN bC), (5, .pointer ra), (53, .slice xB xN xC), (54, .slice bB bN bC)] (fun w => by kernel_rfl) ?_
      refine N_call (some 55) 8 #[.slice bB bN bC] (fun w => by kernel_rfl) h ?_; clear h
      rintro v_4 H5 ⟨xB_2, xN_2, xC_2, rfl, h⟩
      refine ⟨[(0, .slice aB aN aC), (1, .slice bB bN bC), (5, .pointer ra), (53, .slice xB xN xC), (55, .slice xB_2 xN_2 xC_2)], ps (by kernel_rfl), ?_⟩
      refine N_run 2 [(0, .slice aB aN aC), (1, .slice bB bN bC), (5, .pointer ra), (7, .slice xB xN xC), (8, .slice xB_2 xN_2 xC_2)] (fun w => by kernel_rfl) ?_
      refine N_end (by kernel_rfl) ?_
      refine S_then ?_
      refine S_seq kk15 kk16 (by kernel_rfl) ?_
      refine S_region 5 (Code.ops kk15) (by kernel_rfl) ?_
      refine N_run 2 [(0, .slice aB aN aC), (1, .slice bB bN bC), (5, .pointer ra), (7, .slice xB xN xC), (8, .slice xB_2 xN_2 xC_2), (57, .pointer ra), (58, .slice xB xN xC)] (fun w => by kernel_rfl) ?_
      refine N_call (some 59) 9 #[.pointer ra, .slice xB xN xC] (fun w => by kernel_rfl) h ?_; clear h
      rintro v_5 H6 ⟨ra_2, rb_2, rfl, h⟩
      refine ⟨[(0, .slice aB aN aC), (1, .slice bB bN bC), (5, .pointer ra), (7, .slice xB xN xC), (8, .slice xB_2 xN_2 xC_2), (59, .tuple #[.int .u64 ra_2, .bool rb_2])], ps (by kernel_rfl), ?_⟩
      refine N_run 5 [(0, .slice aB aN aC), (1, .slice bB bN bC), (5, .pointer ra), (7, .slice xB xN xC), (8, .slice xB_2 xN_2 xC_2), (9, .int .u64 ra_2), (10, .bool rb_2)] (fun w => by kernel_rfl) ?_
      refine N_end (by kernel_rfl) ?_
      refine S_then ?_
      refine S_seq kk17 kk18 (by kernel_rfl) ?_
      refine S_region 6 (Code.ops kk17) (by kernel_rfl) ?_
      refine N_run 2 [(0, .slice aB aN aC), (1, .slice bB bN bC), (5, .pointer ra), (7, .slice xB xN xC), (8, .slice xB_2 xN_2 xC_2), (9, .int .u64 ra_2), (10, .bool rb_2), (63, .pointer ra), (64, .slice xB_2 xN_2 xC_2)] (fun w => by kernel_rfl) ?_
      refine N_call (some 65) 9 #[.pointer ra, .slice xB_2 xN_2 xC_2] (fun w => by kernel_rfl) h ?_; clear h
      rintro v_6 H7 ⟨ra_3, rb_3, rfl, h⟩
      refine ⟨[(0, .slice aB aN aC), (1, .slice bB bN bC), (5, .pointer ra), (7, .slice xB xN xC), (8, .slice xB_2 xN_2 xC_2), (9, .int .u64 ra_2), (10, .bool rb_2), (65, .tuple #[.int .u64 ra_3, .bool rb_3])], ps (by kernel_rfl), ?_⟩
      refine N_run 5 [(0, .slice aB aN aC), (1, .slice bB bN bC), (5, .pointer ra), (7, .slice xB xN xC), (8, .slice xB_2 xN_2 xC_2), (9, .int .u64 ra_2), (10, .bool rb_2), (11, .int .u64 ra_3), (12, .bool rb_3)] (fun w => by kernel_rfl) ?_
      refine N_end (by kernel_rfl) ?_
      refine S_then ?_
      refine S_seq kk19 kk20 (by kernel_rfl) ?_
      refine S_seq kk21 kk22 (by kernel_rfl) ?_
      refine S_region 7 (Code.ops kk21) (by kernel_rfl) ?_
      refine N_cut [(0, .slice aB aN aC), (1, .slice bB bN bC), (5, .pointer ra), (7, .slice xB xN xC), (8, .slice xB_2 xN_2 xC_2), (9, .int .u64 ra_2), (11, .int .u64 ra_3), (73, .bool ((!rb_2) || (!rb_3)))] ?_ ?_
      · refine S_then ?_
        by_cases c14 : ((!rb_2) || (!rb_3)) = true
        · rw [if_pos c14] at h
          have b15 : ((!rb_2) || (!rb_3)) = true := c14
          refine S_env [(0, .slice aB aN aC), (1, .slice bB bN bC), (5, .pointer ra), (7, .slice xB xN xC), (8, .slice xB_2 xN_2 xC_2), (9, .int .u64 ra_2), (11, .int .u64 ra_3), (73, .bool true)] (by simp only [b15, Bool.not_true, Bool.not_false]) ?_
          clear b15
          refine S_condT (.tmp 73) kk23 kk24 (by kernel_rfl) (by kernel_rfl) ?_
          refine S_seq kk25 kk26 (by kernel_rfl) ?_
          refine S_region 8 (Code.ops kk25) (by kernel_rfl) ?_
          refine N_run 1 [(4, .bool false)] (fun w => by kernel_rfl) ?_
          refine N_end (by kernel_rfl) ?_
          refine S_then ?_
          refine S_ret (by kernel_rfl) ?_
          show At _ _ _ _ _ (Q .ret)
          exact S_done (fn := Try.f3) [.bool false] hQ (show ResOK _ _ _ [.tmp 4] _ from .tmp (by kernel_rfl) (.nil)) h
        · rw [if_neg c14] at h
          have b15 : ((!rb_2) || (!rb_3)) = false := eq_false_of_ne_true c14
          refine S_env [(0, .slice aB aN aC), (1, .slice bB bN bC), (5, .pointer ra), (7, .slice xB xN xC), (8, .slice xB_2 xN_2 xC_2), (9, .int .u64 ra_2), (11, .int .u64 ra_3), (73, .bool false)] (by simp only [b15, Bool.not_true, Bool.not_false]) ?_
          clear b15
          refine S_condF (.tmp 73) kk23 kk24 (by kernel_rfl) (by kernel_rfl) ?_
          refine S_skip (by kernel_rfl) ?_
          refine S_then ?_
          refine S_seq kk27 kk28 (by kernel_rfl) ?_
          refine S_region 9 (Code.ops kk27) (by kernel_rfl) ?_
          refine N_run 2 [(0, .slice aB aN aC), (1, .slice bB bN bC), (5, .pointer ra), (7, .slice xB xN xC), (8, .slice xB_2 xN_2 xC_2), (9, .int .u64 ra_2), (11, .int .u64 ra_3), (75, .pointer ra), (76, .int .u64 ra_2)] (fun w => by kernel_rfl) ?_
          refine N_new (some 77) (fun b => .slice (some (Addr.mk b 0 none)) 1 1) (.cells #[.int .u64 ra_2] 31) (fun w => by kernel_rfl) ?_
          intro b H8 e16 e17
          replace h := h b H8 e16 e17
          refine ⟨[(0, .slice aB aN aC), (1, .slice bB bN bC), (5, .pointer ra), (7, .slice xB xN xC), (8, .slice xB_2 xN_2 xC_2), (9, .int .u64 ra_2), (11, .int .u64 ra_3), (75, .pointer ra), (77, .slice (some (Addr.mk b 0 none)) 1 1)], ps (by kernel_rfl), ?_⟩
          refine N_call (some 78) 10 #[.pointer ra, .int .i64 15, .slice (some (Addr.mk b 0 none)) 1 1] (fun w => by kernel_rfl) h ?_; clear h
          rintro v_7 H9 ⟨ra_4, rb_4, rfl, h⟩
          refine ⟨[(0, .slice aB aN aC), (1, .slice bB bN bC), (5, .pointer ra), (7, .slice xB xN xC), (8, .slice xB_2 xN_2 xC_2), (9, .int .u64 ra_2), (11, .int .u64 ra_3), (78, .tuple #[.int .u64 ra_4, .int .i64 rb_4])], ps (by kernel_rfl), ?_⟩
          refine N_run 5 [(0, .slice aB aN aC), (1, .slice bB bN bC), (5, .pointer ra), (6, .int .i64 rb_4), (7, .slice xB xN xC), (8, .slice xB_2 xN_2 xC_2), (9, .int .u64 ra_2), (11, .int .u64 ra_3), (13, .int .u64 ra_4)] (fun w => by kernel_rfl) ?_
          refine N_end (by kernel_rfl) ?_
          refine S_then ?_
          refine S_seq kk29 kk30 (by kernel_rfl) ?_
          refine S_region 10 (Code.ops kk29) (by kernel_rfl) ?_
          refine N_run 2 [(0, .slice aB aN aC), (1, .slice bB bN bC), (5, .pointer ra), (6, .int .i64 rb_4), (7, .slice xB xN xC), (8, .slice xB_2 xN_2 xC_2), (9, .int .u64 ra_2), (11, .int .u64 ra_3), (13, .int .u64 ra_4), (82, .pointer ra), (83, .int .u64 ra_4)] (fun w => by kernel_rfl) ?_
          refine N_new (some 84) (fun b => .slice (some (Addr.mk b 0 none)) 1 1) (.cells #[.int .u64 ra_4] 31) (fun w => by kernel_rfl) ?_
          intro b_2 H10 e18 e19
          replace h := h b_2 H10 e18 e19
          refine ⟨[(0, .slice aB aN aC), (1, .slice bB bN bC), (5, .pointer ra), (6, .int .i64 rb_4), (7, .slice xB xN xC), (8, .slice xB_2 xN_2 xC_2), (9, .int .u64 ra_2), (11, .int .u64 ra_3), (13, .int .u64 ra_4), (82, .pointer ra), (84, .slice (some (Addr.mk b_2 0 none)) 1 1)], ps (by kernel_rfl), ?_⟩
          refine N_call (some 85) 10 #[.pointer ra, .int .i64 15, .slice (some (Addr.mk b_2 0 none)) 1 1] (fun w => by kernel_rfl) h ?_; clear h
          rintro v_8 H11 ⟨ra_5, rb_5, rfl, h⟩
          refine ⟨[(0, .slice aB aN aC), (1, .slice bB bN bC), (5, .pointer ra), (6, .int .i64 rb_4), (7, .slice xB xN xC), (8, .slice xB_2 xN_2 xC_2), (9, .int .u64 ra_2), (11, .int .u64 ra_3), (13, .int .u64 ra_4), (85, .tuple #[.int .u64 ra_5, .int .i64 rb_5])], ps (by kernel_rfl), ?_⟩
          refine N_run 5 [(0, .slice aB aN aC), (1, .slice bB bN bC), (5, .pointer ra), (6, .int .i64 rb_4), (7, .slice xB xN xC), (8, .slice xB_2 xN_2 xC_2), (9, .int .u64 ra_2), (11, .int .u64 ra_3), (13, .int .u64 ra_4), (14, .int .u64 ra_5), (15, .int .i64 rb_5)] (fun w => by kernel_rfl) ?_
          refine N_end (by kernel_rfl) ?_
          refine S_then ?_
          refine S_seq kk31 kk32 (by kernel_rfl) ?_
          refine S_region 11 (Code.ops kk31) (by kernel_rfl) ?_
          refine N_run 3 [(0, .slice aB aN aC), (1, .slice bB bN bC), (5, .pointer ra), (6, .int .i64 rb_4), (7, .slice xB xN xC), (8, .slice xB_2 xN_2 xC_2), (11, .int .u64 ra_3), (13, .int .u64 ra_4), (14, .int .u64 ra_5), (15, .int .i64 rb_5), (89, .pointer ra), (90, .int .u64 ra_2), (91, .int .u64 ra_3)] (fun w => by kernel_rfl) ?_
          refine N_new (some 92) (fun b => .slice (some (Addr.mk b 0 none)) 2 2) (.cells #[.int .u64 ra_2, .int .u64 ra_3] 31) (fun w => by kernel_rfl) ?_
          intro b_3 H12 e20 e21
          replace h := h b_3 H12 e20 e21
          refine ⟨[(0, .slice aB aN aC), (1, .slice bB bN bC), (5, .pointer ra), (6, .int .i64 rb_4), (7, .slice xB xN xC), (8, .slice xB_2 xN_2 xC_2), (11, .int .u64 ra_3), (13, .int .u64 ra_4), (14, .int .u64 ra_5), (15, .int .i64 rb_5), (89, .pointer ra), (92, .slice (some (Addr.mk b_3 0 none)) 2 2)], ps (by kernel_rfl), ?_⟩
          refine N_call (some 93) 10 #[.pointer ra, .int .i64 14, .slice (some (Addr.mk b_3 0 none)) 2 2] (fun w => by kernel_rfl) h ?_; clear h
          rintro v_9 H13 ⟨ra_6, rb_6, rfl, h⟩
          refine ⟨[(0, .slice aB aN aC), (1, .slice bB bN bC), (5, .pointer ra), (6, .int .i64 rb_4), (7, .slice xB xN xC), (8, .slice xB_2 xN_2 xC_2), (11, .int .u64 ra_3), (13, .int .u64 ra_4), (14, .int .u64 ra_5), (15, .int .i64 rb_5), (93, .tuple #[.int .u64 ra_6, .int .i64 rb_6])], ps (by kernel_rfl), ?_⟩
          refine N_run 5 [(0, .slice aB aN aC), (1, .slice bB bN bC), (5, .pointer ra), (6, .int .i64 rb_4), (7, .slice xB xN xC), (8, .slice xB_2 xN_2 xC_2), (11, .int .u64 ra_3), (13, .int .u64 ra_4), (14, .int .u64 ra_5), (15, .int .i64 rb_5), (16, .int .u64 ra_6), (17, .int .i64 rb_6)] (fun w => by kernel_rfl) ?_
          refine N_end (by kernel_rfl) ?_
          refine S_then ?_
          refine S_seq kk33 kk34 (by kernel_rfl) ?_
          refine S_region 12 (Code.ops kk33) (by kernel_rfl) ?_
          refine N_run 2 [(0, .slice aB aN aC), (1, .slice bB bN bC), (5, .pointer ra), (6, .int .i64 rb_4), (7, .slice xB xN xC), (8, .slice xB_2 xN_2 xC_2), (11, .int .u64 ra_3), (13, .int .u64 ra_4), (14, .int .u64 ra_5), (15, .int .i64 rb_5), (16, .int .u64 ra_6), (17, .int .i64 rb_6), (97, .pointer ra), (98, .int .u64 ra_6)] (fun w => by kernel_rfl) ?_
          refine N_new (some 99) (fun b => .slice (some (Addr.mk b 0 none)) 1 1) (.cells #[.int .u64 ra_6] 31) (fun w => by kernel_rfl) ?_
          intro b_4 H14 e22 e23
          replace h := h b_4 H14 e22 e23
          refine ⟨[(0, .slice aB aN aC), (1, .slice bB bN bC), (5, .pointer ra), (6, .int .i64 rb_4), (7, .slice xB xN xC), (8, .slice xB_2 xN_2 xC_2), (11, .int .u64 ra_3), (13, .int .u64 ra_4), (14, .int .u64 ra_5), (15, .int .i64 rb_5), (16, .int .u64 ra_6), (17, .int .i64 rb_6), (97, .pointer ra), (99, .slice (some (Addr.mk b_4 0 none)) 1 1)], ps (by kernel_rfl), ?_⟩
          refine N_call (some 100) 10 #[.pointer ra, .int .i64 13, .slice (some (Addr.mk b_4 0 none)) 1 1] (fun w => by kernel_rfl) h ?_; clear h
          rintro v_10 H15 ⟨ra_7, rb_7, rfl, h⟩
          refine ⟨[(0, .slice aB aN aC), (1, .slice bB bN bC), (5, .pointer ra), (6, .int .i64 rb_4), (7, .slice xB xN xC), (8, .slice xB_2 xN_2 xC_2), (11, .int .u64 ra_3), (13, .int .u64 ra_4), (14, .int .u64 ra_5), (15, .int .i64 rb_5), (16, .int .u64 ra_6), (17, .int .i64 rb_6), (100, .tuple #[.int .u64 ra_7, .int .i64 rb_7])], ps (by kernel_rfl), ?_⟩
          refine N_run 5 [(0, .slice aB aN aC), (1, .slice bB bN bC), (5, .pointer ra), (6, .int .i64 rb_4), (7, .slice xB xN xC), (8, .slice xB_2 xN_2 xC_2), (11, .int .u64 ra_3), (13, .int .u64 ra_4), (14, .int .u64 ra_5), (15, .int .i64 rb_5), (16, .int .u64 ra_6), (17, .int .i64 rb_6), (18, .int .u64 ra_7), (19, .int .i64 rb_7)] (fun w => by kernel_rfl) ?_
          refine N_end (by kernel_rfl) ?_
          refine S_then ?_
          refine S_seq kk35 kk36 (by kernel_rfl) ?_
          refine S_seq kk37 kk38 (by kernel_rfl) ?_
          refine S_region 13 (Code.ops kk37) (by kernel_rfl) ?_
          refine N_cut [(5, .pointer ra), (7, .slice xB xN xC), (8, .slice xB_2 xN_2 xC_2), (11, .int .u64 ra_3), (13, .int .u64 ra_4), (14, .int .u64 ra_5), (16, .int .u64 ra_6), (127, .bool (((((rb_4 != 0) || (rb_5 != 0)) || (rb_6 != 0)) || (rb_7 != 0)) || (ra_7 != (ishl .u64 (IntKind.wrap .u64 (IntKind.wrap .i64 ((aN : Int) + (bN : Int)))) 3))))] ?_ ?_
          · refine S_then ?_
            by_cases c32 : (((((rb_4 != 0) || (rb_5 != 0)) || (rb_6 != 0)) || (rb_7 != 0)) || (ra_7 != (ishl .u64 (IntKind.wrap .u64 (IntKind.wrap .i64 ((aN : Int) + (bN : Int)))) 3))) = true
            · rw [if_pos c32] at h
              have b33 : (((((rb_4 != 0) || (rb_5 != 0)) || (rb_6 != 0)) || (rb_7 != 0)) || (ra_7 != (ishl .u64 (IntKind.wrap .u64 (IntKind.wrap .i64 ((aN : Int) + (bN : Int)))) 3))) = true := c32
              refine S_env [(5, .pointer ra), (7, .slice xB xN xC), (8, .slice xB_2 xN_2 xC_2), (11, .int .u64 ra_3), (13, .int .u64 ra_4), (14, .int .u64 ra_5), (16, .int .u64 ra_6), (127, .bool true)] (by simp only [b33, Bool.not_true, Bool.not_false]) ?_
              clear b33
              refine S_condT (.tmp 127) kk39 kk40 (by kernel_rfl) (by kernel_rfl) ?_
              refine S_seq kk41 kk42 (by kernel_rfl) ?_
              refine S_region 14 (Code.ops kk41) (by kernel_rfl) ?_
              refine N_run 1 [(4, .bool false)] (fun w => by kernel_rfl) ?_
              refine N_end (by kernel_rfl) ?_
              refine S_then ?_
              refine S_ret (by kernel_rfl) ?_
              show At _ _ _ _ _ (Q .ret)
              exact S_done (fn := Try.f3) [.bool false] hQ (show ResOK _ _ _ [.tmp 4] _ from .tmp (by kernel_rfl) (.nil)) h
            · rw [if_neg c32] at h
              have b33 : (((((rb_4 != 0) || (rb_5 != 0)) || (rb_6 != 0)) || (rb_7 != 0)) || (ra_7 != (ishl .u64 (IntKind.wrap .u64 (IntKind.wrap .i64 ((aN : Int) + (bN : Int)))) 3))) = false := eq_false_of_ne_true c32
              refine S_env [(5, .pointer ra), (7, .slice xB xN xC), (8, .slice xB_2 xN_2 xC_2), (11, .int .u64 ra_3), (13, .int .u64 ra_4), (14, .int .u64 ra_5), (16, .int .u64 ra_6), (127, .bool false)] (by simp only [b33, Bool.not_true, Bool.not_false]) ?_
              clear b33
              refine S_condF (.tmp 127) kk39 kk40 (by kernel_rfl) (by kernel_rfl) ?_
              refine S_skip (by kernel_rfl) ?_
              refine S_then ?_
              refine S_seq kk43 kk44 (by kernel_rfl) ?_
              refine S_region 15 (Code.ops kk43) (by kernel_rfl) ?_
              refine N_run 2 [(5, .pointer ra), (7, .slice xB xN xC), (8, .slice xB_2 xN_2 xC_2), (11, .int .u64 ra_3), (14, .int .u64 ra_5), (16, .int .u64 ra_6), (129, .pointer ra), (130, .int .u64 ra_4)] (fun w => by kernel_rfl) ?_
              refine N_call (some 131) 11 #[.pointer ra, .int .u64 ra_4] (fun w => by kernel_rfl) h ?_; clear h
              rintro v_11 H16 ⟨raB, raN, raC, rb_8, rfl, h⟩
              refine ⟨[(5, .pointer ra), (7, .slice xB xN xC), (8, .slice xB_2 xN_2 xC_2), (11, .int .u64 ra_3), (14, .int .u64 ra_5), (16, .int .u64 ra_6), (131, .tuple #[.slice raB raN raC, .bool rb_8])], ps (by kernel_rfl), ?_⟩
              refine N_run 5 [(5, .pointer ra), (7, .slice xB xN xC), (8, .slice xB_2 xN_2 xC_2), (11, .int .u64 ra_3), (14, .int .u64 ra_5), (16, .int .u64 ra_6), (20, .slice raB raN raC)] (fun w => by kernel_rfl) ?_
              refine N_end (by kernel_rfl) ?_
              refine S_then ?_
              refine S_seq kk45 kk46 (by kernel_rfl) ?_
              refine S_seq kk47 kk48 (by kernel_rfl) ?_
              refine S_region 16 (Code.ops kk47) (by kernel_rfl) ?_
              refine N_run 1 [(5, .pointer ra), (7, .slice xB xN xC), (8, .slice xB_2 xN_2 xC_2), (11, .int .u64 ra_3), (14, .int .u64 ra_5), (16, .int .u64 ra_6), (20, .slice raB raN raC), (22, .int .i64 0)] (fun w => by kernel_rfl) ?_
              refine N_end (by kernel_rfl) ?_
              refine S_then ?_
              refine S_block 0 kk49 (by kernel_rfl) ?_
              obtain ⟨I51, m51, i34, i35⟩ := h
              refine S_loop (x := kk50) (σ := Int) (fun s_ => [(5, .pointer ra), (7, .slice xB xN xC), (8, .slice xB_2 xN_2 xC_2), (11, .int .u64 ra_3), (14, .int .u64 ra_5), (16, .int .u64 ra_6), (20, .slice raB raN raC), (22, .int .i64 s_)]) (fun s_ H => I51 s_ H) (fun s_ H => m51 s_ H) (0 : Int) (by kernel_rfl) i34 (sb (by kernel_rfl)) ?_
              rintro k H17 i36
              have h := i35 k H17 i36
              refine S_sub [(5, .pointer ra), (7, .slice xB xN xC), (8, .slice xB_2 xN_2 xC_2), (11, .int .u64 ra_3), (14, .int .u64 ra_5), (16, .int .u64 ra_6), (20, .slice raB raN raC), (22, .int .i64 k)] (sb (by kernel_rfl)) ?_
              refine S_seq kk51 kk52 (by kernel_rfl) ?_
              refine S_seq kk53 kk54 (by kernel_rfl) ?_
              refine S_region 17 (Code.ops kk53) (by kernel_rfl) ?_
              refine N_run 4 [(5, .pointer ra), (7, .slice xB xN xC), (8, .slice xB_2 xN_2 xC_2), (11, .int .u64 ra_3), (14, .int .u64 ra_5), (16, .int .u64 ra_6), (20, .slice raB raN raC), (22, .int .i64 k), (137, .bool (decide (k < (raN : Int))))] (fun w => by kernel_rfl) ?_
              refine N_end (by kernel_rfl) ?_
              refine S_then ?_
              by_cases c37 : k < (raN : Int)
              · rw [if_pos c37] at h
                have b38 : (decide (k < (raN : Int))) = true := decide_eq_true c37
                refine S_env [(5, .pointer ra), (7, .slice xB xN xC), (8, .slice xB_2 xN_2 xC_2), (11, .int .u64 ra_3), (14, .int .u64 ra_5), (16, .int .u64 ra_6), (20, .slice raB raN raC), (22, .int .i64 k), (137, .bool true)] (by simp only [b38, Bool.not_true, Bool.not_false]) ?_
                clear b38
                refine S_condT (.tmp 137) kk55 kk56 (by kernel_rfl) (by kernel_rfl) ?_
                refine S_skip (by kernel_rfl) ?_
                refine S_then ?_
                refine S_seq kk57 kk58 (by kernel_rfl) ?_
                refine S_block 1 kk59 (by kernel_rfl) ?_
                refine S_seq kk60 kk61 (by kernel_rfl) ?_
                refine S_regionQ 19 (Code.ops kk60) (by kernel_rfl) (by kernel_rfl) (by kernel_rfl) ?_
                refine Q_one (.slice raB raN raC) [(5, .pointer ra), (7, .slice xB xN xC), (8, .slice xB_2 xN_2 xC_2), (11, .int .u64 ra_3), (14, .int .u64 ra_5), (16, .int .u64 ra_6), (20, .slice raB raN raC), (22, .int .i64 k), (140, .slice raB raN raC)] (some 140) (by kernel_rfl) (fun w => by kernel_rfl) (ps (by kernel_rfl)) ?_
                refine Q_one (.int .i64 k) [(5, .pointer ra), (7, .slice xB xN xC), (8, .slice xB_2 xN_2 xC_2), (11, .int .u64 ra_3), (14, .int .u64 ra_5), (16, .int .u64 ra_6), (20, .slice raB raN raC), (22, .int .i64 k), (140, .slice raB raN raC), (141, .int .i64 k)] (some 141) (by kernel_rfl) (fun w => by kernel_rfl) (ps (by kernel_rfl)) ?_
                obtain ⟨raBA, rfl, h⟩ := h
                obtain ⟨q39, h⟩ := h
                refine Q_op (some 142) (indexAtN 28 (.slice (some raBA) raN raC) (.int .i64 k)) (.pointer (some (raBA.add (Int.toNat k * 1)))) (fun w => by kernel_rfl) (fun w _ => indexAt_run (P := Try.prog) (t := 28) (elem := 31) (sz := 1) (a := raBA) (len := raN) (cap := raC) (k := .i64) (i := k) Try.underlying28 (fun w => by kernel_rfl) q39.1 q39.2 w) [(5, .pointer ra), (7, .slice xB xN xC), (8, .slice xB_2 xN_2 xC_2), (11, .int .u64 ra_3), (14, .int .u64 ra_5), (16, .int .u64 ra_6), (20, .slice (some raBA) raN raC), (22, .int .i64 k), (142, .pointer (some (raBA.add (Int.toNat k * 1))))] (ps (by kernel_rfl)) ?_
                obtain ⟨x_2, q40, h⟩ := h
                refine Q_op (some 143) (loadN 31 (.pointer (some (raBA.add (Int.toNat k * 1))))) (.int .u64 x_2) (fun w => by kernel_rfl) (loadN_run (loadOK_one (fun w => by kernel_rfl) q40)) [(5, .pointer ra), (7, .slice xB xN xC), (8, .slice xB_2 xN_2 xC_2), (11, .int .u64 ra_3), (14, .int .u64 ra_5), (16, .int .u64 ra_6), (20, .slice (some raBA) raN raC), (22, .int .i64 k), (143, .int .u64 x_2)] (ps (by kernel_rfl)) ?_
                refine Q_one (.slice xB xN xC) [(5, .pointer ra), (7, .slice xB xN xC), (8, .slice xB_2 xN_2 xC_2), (11, .int .u64 ra_3), (14, .int .u64 ra_5), (16, .int .u64 ra_6), (20, .slice (some raBA) raN raC), (22, .int .i64 k), (143, .int .u64 x_2), (144, .slice xB xN xC)] (some 144) (by kernel_rfl) (fun w => by kernel_rfl) (ps (by kernel_rfl)) ?_
                refine Q_one (.slice xB xN xC) [(5, .pointer ra), (7, .slice xB xN xC), (8, .slice xB_2 xN_2 xC_2), (11, .int .u64 ra_3), (14, .int .u64 ra_5), (16, .int .u64 ra_6), (20, .slice (some raBA) raN raC), (22, .int .i64 k), (143, .int .u64 x_2), (144, .slice xB xN xC), (145, .slice xB xN xC)] (some 145) (by kernel_rfl) (fun w => by kernel_rfl) (ps (by kernel_rfl)) ?_
                refine Q_one (.int .i64 (xN : Int)) [(5, .pointer ra), (7, .slice xB xN xC), (8, .slice xB_2 xN_2 xC_2), (11, .int .u64 ra_3), (14, .int .u64 ra_5), (16, .int .u64 ra_6), (20, .slice (some raBA) raN raC), (22, .int .i64 k), (143, .int .u64 x_2), (144, .slice xB xN xC), (146, .int .i64 (xN : Int))] (some 146) (by kernel_rfl) (fun w => by kernel_rfl) (ps (by kernel_rfl)) ?_
                refine Q_one (.int .i64 (IntKind.wrap .i64 ((xN : Int) - 1))) [(5, .pointer ra), (7, .slice xB xN xC), (8, .slice xB_2 xN_2 xC_2), (11, .int .u64 ra_3), (14, .int .u64 ra_5), (16, .int .u64 ra_6), (20, .slice (some raBA) raN raC), (22, .int .i64 k), (143, .int .u64 x_2), (144, .slice xB xN xC), (147, .int .i64 (IntKind.wrap .i64 ((xN : Int) - 1)))] (some 147) (by kernel_rfl) (fun w => by kernel_rfl) (ps (by kernel_rfl)) ?_
                refine Q_one (.int .i64 k) [(5, .pointer ra), (7, .slice xB xN xC), (8, .slice xB_2 xN_2 xC_2), (11, .int .u64 ra_3), (14, .int .u64 ra_5), (16, .int .u64 ra_6), (20, .slice (some raBA) raN raC), (22, .int .i64 k), (143, .int .u64 x_2), (144, .slice xB xN xC), (147, .int .i64 (IntKind.wrap .i64 ((xN : Int) - 1))), (148, .int .i64 k)] (some 148) (by kernel_rfl) (fun w => by kernel_rfl) (ps (by kernel_rfl)) ?_
                refine Q_one (.int .i64 (IntKind.wrap .i64 ((IntKind.wrap .i64 ((xN : Int) - 1)) - k))) [(5, .pointer ra), (7, .slice xB xN xC), (8, .slice xB_2 xN_2 xC_2), (11, .int .u64 ra_3), (14, .int .u64 ra_5), (16, .int .u64 ra_6), (20, .slice (some raBA) raN raC), (22, .int .i64 k), (143, .int .u64 x_2), (144, .slice xB xN xC), (149, .int .i64 (IntKind.wrap .i64 ((IntKind.wrap .i64 ((xN : Int) - 1)) - k)))] (some 149) (by kernel_rfl) (fun w => by kernel_rfl) (ps (by kernel_rfl)) ?_
                obtain ⟨xBA, rfl, h⟩ := h
                obtain ⟨q41, h⟩ := h
                refine Q_op (some 150) (indexAtN 28 (.slice (some xBA) xN xC) (.int .i64 (IntKind.wrap .i64 ((IntKind.wrap .i64 ((xN : Int) - 1)) - k)))) (.pointer (some (xBA.add (Int.toNat (IntKind.wrap .i64 ((IntKind.wrap .i64 ((xN : Int) - 1)) - k)) * 1)))) (fun w => by kernel_rfl) (fun w _ => indexAt_run (P := Try.prog) (t := 28) (elem := 31) (sz := 1) (a := xBA) (len := xN) (cap := xC) (k := .i64) (i := (IntKind.wrap .i64 ((IntKind.wrap .i64 ((xN : Int) - 1)) - k))) Try.underlying28 (fun w => by kernel_rfl) q41.1 q41.2 w) [(5, .pointer ra), (7, .slice (some xBA) xN xC), (8, .slice xB_2 xN_2 xC_2), (11, .int .u64 ra_3), (14, .int .u64 ra_5), (16, .int .u64 ra_6), (20, .slice (some raBA) raN raC), (22, .int .i64 k), (143, .int .u64 x_2), (150, .pointer (some (xBA.add (Int.toNat (IntKind.wrap .i64 ((IntKind.wrap .i64 ((xN : Int) - 1)) - k)) * 1))))] (ps (by kernel_rfl)) ?_
                obtain ⟨x_3, q42, h⟩ := h
                refine Q_op (some 151) (loadN 31 (.pointer (some (xBA.add (Int.toNat (IntKind.wrap .i64 ((IntKind.wrap .i64 ((xN : Int) - 1)) - k)) * 1))))) (.int .u64 x_3) (fun w => by kernel_rfl) (loadN_run (loadOK_one (fun w => by kernel_rfl) q42)) [(5, .pointer ra), (7, .slice (some xBA) xN xC), (8, .slice xB_2 xN_2 xC_2), (11, .int .u64 ra_3), (14, .int .u64 ra_5), (16, .int .u64 ra_6), (20, .slice (some raBA) raN raC), (22, .int .i64 k), (143, .int .u64 x_2), (151, .int .u64 x_3)] (ps (by kernel_rfl)) ?_
                refine Q_one (.bool (x_2 != x_3)) [(5, .pointer ra), (7, .slice (some xBA) xN xC), (8, .slice xB_2 xN_2 xC_2), (11, .int .u64 ra_3), (14, .int .u64 ra_5), (16, .int .u64 ra_6), (20, .slice (some raBA) raN raC), (22, .int .i64 k), (152, .bool (x_2 != x_3))] (some 152) (by kernel_rfl) (fun w => by kernel_rfl) (ps (by kernel_rfl)) ?_
                refine Q_sub [(5, .pointer ra), (7, .slice (some xBA) xN xC), (8, .slice xB_2 xN_2 xC_2), (11, .int .u64 ra_3), (14, .int .u64 ra_5), (16, .int .u64 ra_6), (20, .slice (some raBA) raN raC), (22, .int .i64 k), (152, .bool (x_2 != x_3))] (sb (by kernel_rfl)) ?_
                refine Q_end (by kernel_rfl) ?_
                refine S_then ?_
                by_cases c43 : x_2 = x_3
                · rw [if_pos c43] at h
                  have b44 : (x_2 != x_3) = false := bne_eq_false_iff_eq.mpr c43
                  refine S_env [(5, .pointer ra), (7, .slice (some xBA) xN xC), (8, .slice xB_2 xN_2 xC_2), (11, .int .u64 ra_3), (14, .int .u64 ra_5), (16, .int .u64 ra_6), (20, .slice (some raBA) raN raC), (22, .int .i64 k), (152, .bool false)] (by simp only [b44, Bool.not_true, Bool.not_false]) ?_
                  clear b44
                  refine S_condF (.tmp 152) kk62 kk63 (by kernel_rfl) (by kernel_rfl) ?_
                  refine S_skip (by kernel_rfl) ?_
                  refine S_blockEnd ?_
                  refine S_then ?_
                  refine S_region 18 (Code.ops kk58) (by kernel_rfl) ?_
                  refine N_run 3 [(5, .pointer ra), (7, .slice (some xBA) xN xC), (8, .slice xB_2 xN_2 xC_2), (11, .int .u64 ra_3), (14, .int .u64 ra_5), (16, .int .u64 ra_6), (20, .slice (some raBA) raN raC), (22, .int .i64 (IntKind.wrap .i64 (k + 1)))] (fun w => by kernel_rfl) ?_
                  refine N_end (by kernel_rfl) ?_
                  refine S_then ?_
                  exact S_round ((IntKind.wrap .i64 (k + 1)) : Int) (sb (by kernel_rfl)) h
                · rw [if_neg c43] at h
                  have b44 : (x_2 != x_3) = true := bne_iff_ne.mpr c43
                  refine S_env [(5, .pointer ra), (7, .slice (some xBA) xN xC), (8, .slice xB_2 xN_2 xC_2), (11, .int .u64 ra_3), (14, .int .u64 ra_5), (16, .int .u64 ra_6), (20, .slice (some raBA) raN raC), (22, .int .i64 k), (152, .bool true)] (by simp only [b44, Bool.not_true, Bool.not_false]) ?_
                  clear b44
                  refine S_condT (.tmp 152) kk62 kk63 (by kernel_rfl) (by kernel_rfl) ?_
                  refine S_seq kk64 kk65 (by kernel_rfl) ?_
                  refine S_region 20 (Code.ops kk64) (by kernel_rfl) ?_
                  refine N_run 1 [(4, .bool false)] (fun w => by kernel_rfl) ?_
                  refine N_end (by kernel_rfl) ?_
                  refine S_then ?_
                  refine S_ret (by kernel_rfl) ?_
                  show At _ _ _ _ _ (Q .ret)
                  exact S_done (fn := Try.f3) [.bool false] hQ (show ResOK _ _ _ [.tmp 4] _ from .tmp (by kernel_rfl) (.nil)) h
              · rw [if_neg c37] at h
                have b38 : (decide (k < (raN : Int))) = false := decide_eq_false c37
                refine S_env [(5, .pointer ra), (7, .slice xB xN xC), (8, .slice xB_2 xN_2 xC_2), (11, .int .u64 ra_3), (14, .int .u64 ra_5), (16, .int .u64 ra_6), (20, .slice raB raN raC), (22, .int .i64 k), (137, .bool false)] (by simp only [b38, Bool.not_true, Bool.not_false]) ?_
                clear b38
                refine S_condF (.tmp 137) kk55 kk56 (by kernel_rfl) (by kernel_rfl) ?_
                refine S_exit 0 (by kernel_rfl) ?_
                refine S_exitThen ?_
                refine S_exitThen ?_
                refine S_exitHere ?_
                refine S_then ?_
                refine S_seq kk66 kk67 (by kernel_rfl) ?_
                refine S_region 21 (Code.ops kk66) (by kernel_rfl) ?_
                refine N_run 2 [(5, .pointer ra), (7, .slice xB xN xC), (8, .slice xB_2 xN_2 xC_2), (11, .int .u64 ra_3), (16, .int .u64 ra_6), (20, .slice raB raN raC), (154, .pointer ra), (155, .int .u64 ra_5)] (fun w => by kernel_rfl) ?_
                refine N_call (some 156) 11 #[.pointer ra, .int .u64 ra_5] (fun w => by kernel_rfl) h ?_; clear h
                rintro v_12 H18 ⟨raB_2, raN_2, raC_2, rb_9, rfl, h⟩
                refine ⟨[(5, .pointer ra), (7, .slice xB xN xC), (8, .slice xB_2 xN_2 xC_2), (11, .int .u64 ra_3), (16, .int .u64 ra_6), (20, .slice raB raN raC), (156, .tuple #[.slice raB_2 raN_2 raC_2, .bool rb_9])], ps (by kernel_rfl), ?_⟩
                refine N_run 5 [(5, .pointer ra), (7, .slice xB xN xC), (8, .slice xB_2 xN_2 xC_2), (11, .int .u64 ra_3), (16, .int .u64 ra_6), (20, .slice raB raN raC), (23, .slice raB_2 raN_2 raC_2)] (fun w => by kernel_rfl) ?_
                refine N_end (by kernel_rfl) ?_
                refine S_then ?_
                refine S_seq kk68 kk69 (by kernel_rfl) ?_
                refine S_region 22 (Code.ops kk68) (by kernel_rfl) ?_
                refine N_run 2 [(5, .pointer ra), (7, .slice xB xN xC), (8, .slice xB_2 xN_2 xC_2), (11, .int .u64 ra_3), (16, .int .u64 ra_6), (20, .slice raB raN raC), (23, .slice raB_2 raN_2 raC_2), (160, .pointer ra), (161, .int .u64 ra_6)] (fun w => by kernel_rfl) ?_
                refine N_call (some 162) 11 #[.pointer ra, .int .u64 ra_6] (fun w => by kernel_rfl) h ?_; clear h
                rintro v_13 H19 ⟨raB_3, raN_3, raC_3, rb_10, rfl, h⟩
                refine ⟨[(5, .pointer ra), (7, .slice xB xN xC), (8, .slice xB_2 xN_2 xC_2), (11, .int .u64 ra_3), (16, .int .u64 ra_6), (20, .slice raB raN raC), (23, .slice raB_2 raN_2 raC_2), (162, .tuple #[.slice raB_3 raN_3 raC_3, .bool rb_10])], ps (by kernel_rfl), ?_⟩
                refine N_run 5 [(5, .pointer ra), (7, .slice xB xN xC), (8, .slice xB_2 xN_2 xC_2), (11, .int .u64 ra_3), (16, .int .u64 ra_6), (20, .slice raB raN raC), (23, .slice raB_2 raN_2 raC_2), (25, .slice raB_3 raN_3 raC_3)] (fun w => by kernel_rfl) ?_
                refine N_end (by kernel_rfl) ?_
                refine S_then ?_
                refine S_seq kk70 kk71 (by kernel_rfl) ?_
                refine S_seq kk72 kk73 (by kernel_rfl) ?_
                refine S_region 23 (Code.ops kk72) (by kernel_rfl) ?_
                refine N_run 6 [(5, .pointer ra), (7, .slice xB xN xC), (8, .slice xB_2 xN_2 xC_2), (11, .int .u64 ra_3), (16, .int .u64 ra_6), (23, .slice raB_2 raN_2 raC_2), (25, .slice raB_3 raN_3 raC_3), (170, .bool ((raN : Int) != (xN : Int)))] (fun w => by kernel_rfl) ?_
                by_cases c45 : (raN : Int) = (xN : Int)
                · rw [if_pos c45] at h
                  have b46 : ((raN : Int) != (xN : Int)) = false := bne_eq_false_iff_eq.mpr c45
                  refine N_env [(5, .pointer ra), (7, .slice xB xN xC), (8, .slice xB_2 xN_2 xC_2), (11, .int .u64 ra_3), (16, .int .u64 ra_6), (23, .slice raB_2 raN_2 raC_2), (25, .slice raB_3 raN_3 raC_3), (170, .bool false)] (by simp only [b46, Bool.not_true, Bool.not_false]) ?_
                  clear b46
                  refine N_run 2 [(5, .pointer ra), (7, .slice xB xN xC), (8, .slice xB_2 xN_2 xC_2), (11, .int .u64 ra_3), (16, .int .u64 ra_6), (25, .slice raB_3 raN_3 raC_3), (170, .bool false), (171, .slice raB_2 raN_2 raC_2), (172, .slice xB xN xC)] (fun w => by kernel_rfl) ?_
                  refine N_call (some 173) 12 #[.slice raB_2 raN_2 raC_2, .slice xB xN xC] (fun w => by kernel_rfl) h ?_; clear h
                  rintro v_14 H20 ⟨x_4, rfl, h⟩
                  refine ⟨[(5, .pointer ra), (7, .slice xB xN xC), (8, .slice xB_2 xN_2 xC_2), (11, .int .u64 ra_3), (16, .int .u64 ra_6), (25, .slice raB_3 raN_3 raC_3), (170, .bool false), (173, .bool x_4)], ps (by kernel_rfl), ?_⟩
                  refine N_run 3 [(5, .pointer ra), (7, .slice xB xN xC), (8, .slice xB_2 xN_2 xC_2), (11, .int .u64 ra_3), (16, .int .u64 ra_6), (25, .slice raB_3 raN_3 raC_3), (176, .bool (!x_4))] (fun w => by kernel_rfl) ?_
                  by_cases c47 : x_4 = true
                  · rw [if_pos c47] at h
                    have b48 : (!x_4) = false := congrArg Bool.not (c47)
                    have b482 : x_4 = true := c47
                    refine N_env [(5, .pointer ra), (7, .slice xB xN xC), (8, .slice xB_2 xN_2 xC_2), (11, .int .u64 ra_3), (16, .int .u64 ra_6), (25, .slice raB_3 raN_3 raC_3), (176, .bool false)] (by simp only [b48, b482, Bool.not_true, Bool.not_false]) ?_
                    clear b48 b482
                    refine N_run 1 [(5, .pointer ra), (7, .slice xB xN xC), (8, .slice xB_2 xN_2 xC_2), (11, .int .u64 ra_3), (16, .int .u64 ra_6), (176, .bool false), (177, .slice raB_3 raN_3 raC_3)] (fun w => by kernel_rfl) ?_
                    refine N_new (some 178) (fun b => .slice (some (Addr.mk b 0 none)) 0 0) (.cells #[] 31) (fun w => by kernel_rfl) ?_
                    intro b_5 H21 e49 e50
                    replace h := h b_5 H21 e49 e50
                    refine ⟨[(5, .pointer ra), (7, .slice xB xN xC), (8, .slice xB_2 xN_2 xC_2), (11, .int .u64 ra_3), (16, .int .u64 ra_6), (176, .bool false), (177, .slice raB_3 raN_3 raC_3), (178, .slice (some (Addr.mk b_5 0 none)) 0 0)], ps (by kernel_rfl), ?_⟩
                    refine N_run 1 [(5, .pointer ra), (7, .slice xB xN xC), (8, .slice xB_2 xN_2 xC_2), (11, .int .u64 ra_3), (16, .int .u64 ra_6), (176, .bool false), (177, .slice raB_3 raN_3 raC_3), (178, .slice (some (Addr.mk b_5 0 none)) 0 0), (179, .slice xB xN xC)] (fun w => by kernel_rfl) ?_
                    refine N_op (some 180) (appendN #[28, 28] 28 #[.slice (some (Addr.mk b_5 0 none)) 0 0, .slice xB xN xC]) _ (fun w => by kernel_rfl) (ss_append (T := 31) (sz := 1) (bytes := 8) (zero := (.int .u64 0 : Value)) Try.underlying28 Try.underlying28 rfl (show Try.prog.info? 31 = some Try.t31 from by kernel_rfl) (by kernel_rfl) (by kernel_rfl) (by decide) (by kernel_rfl) (by first | exact h | (simpa only [Value.cells, List.toList_toArray] using h))) ?_; clear h
                    rintro _ H22 ⟨ap, apC, rfl, h⟩
                    refine ⟨[(5, .pointer ra), (7, .slice xB xN xC), (8, .slice xB_2 xN_2 xC_2), (11, .int .u64 ra_3), (16, .int .u64 ra_6), (176, .bool false), (177, .slice raB_3 raN_3 raC_3), (180, .slice ap (0 + xN) apC)], ps (by kernel_rfl), ?_⟩
                    refine N_run 1 [(5, .pointer ra), (7, .slice xB xN xC), (11, .int .u64 ra_3), (16, .int .u64 ra_6), (176, .bool false), (177, .slice raB_3 raN_3 raC_3), (180, .slice ap (0 + xN) apC), (181, .slice xB_2 xN_2 xC_2)] (fun w => by kernel_rfl) ?_
                    refine N_op (some 182) (appendN #[28, 28] 28 #[.slice ap (0 + xN) apC, .slice xB_2 xN_2 xC_2]) _ (fun w => by kernel_rfl) (ss_append (T := 31) (sz := 1) (bytes := 8) (zero := (.int .u64 0 : Value)) Try.underlying28 Try.underlying28 rfl (show Try.prog.info? 31 = some Try.t31 from by kernel_rfl) (by kernel_rfl) (by kernel_rfl) (by decide) (by kernel_rfl) (by first | exact h | (simpa only [Value.cells, List.toList_toArray] using h))) ?_; clear h
                    rintro _ H23 ⟨ap_2, apC_2, rfl, h⟩
                    refine ⟨[(5, .pointer ra), (7, .slice xB xN xC), (11, .int .u64 ra_3), (16, .int .u64 ra_6), (176, .bool false), (177, .slice raB_3 raN_3 raC_3), (182, .slice ap_2 ((0 + xN) + xN_2) apC_2)], ps (by kernel_rfl), ?_⟩
                    refine N_call (some 183) 12 #[.slice raB_3 raN_3 raC_3, .slice ap_2 ((0 + xN) + xN_2) apC_2] (fun w => by kernel_rfl) h ?_; clear h
                    rintro v_15 H24 ⟨x_5, rfl, h⟩
                    refine ⟨[(5, .pointer ra), (7, .slice xB xN xC), (11, .int .u64 ra_3), (16, .int .u64 ra_6), (176, .bool false), (183, .bool x_5)], ps (by kernel_rfl), ?_⟩
                    refine N_run 2 [(5, .pointer ra), (7, .slice xB xN xC), (11, .int .u64 ra_3), (16, .int .u64 ra_6), (185, .bool (!x_5))] (fun w => by kernel_rfl) ?_
                    refine N_end (by kernel_rfl) ?_
                    refine S_then ?_
                    by_cases c51 : x_5 = true
                    · rw [if_pos c51] at h
                      have b52 : (!x_5) = false := congrArg Bool.not (c51)
                      have b522 : x_5 = true := c51
                      refine S_env [(5, .pointer ra), (7, .slice xB xN xC), (11, .int .u64 ra_3), (16, .int .u64 ra_6), (185, .bool false)] (by simp only [b52, b522, Bool.not_true, Bool.not_false]) ?_
                      clear b52 b522
                      refine S_condF (.tmp 185) kk74 kk75 (by kernel_rfl) (by kernel_rfl) ?_
                      refine S_skip (by kernel_rfl) ?_
                      refine S_then ?_
                      refine S_seq kk76 kk77 (by kernel_rfl) ?_
                      refine S_seq kk78 kk79 (by kernel_rfl) ?_
                      refine S_region 25 (Code.ops kk78) (by kernel_rfl) ?_
                      refine N_run 1 [(5, .pointer ra), (7, .slice xB xN xC), (11, .int .u64 ra_3), (16, .int .u64 ra_6), (27, .int .i64 0)] (fun w => by kernel_rfl) ?_
                      refine N_end (by kernel_rfl) ?_
                      refine S_then ?_
                      refine S_block 2 kk80 (by kernel_rfl) ?_
                      obtain ⟨I82, m82, i53, i54⟩ := h
                      refine S_loop (x := kk81) (σ := Int) (fun s_ => [(5, .pointer ra), (7, .slice xB xN xC), (11, .int .u64 ra_3), (16, .int .u64 ra_6), (27, .int .i64 s_)]) (fun s_ H => I82 s_ H) (fun s_ H => m82 s_ H) (0 : Int) (by kernel_rfl) i53 (sb (by kernel_rfl)) ?_
                      rintro k_2 H25 i55
                      have h := i54 k_2 H25 i55
                      refine S_sub [(5, .pointer ra), (7, .slice xB xN xC), (11, .int .u64 ra_3), (16, .int .u64 ra_6), (27, .int .i64 k_2)] (sb (by kernel_rfl)) ?_
                      refine S_seq kk82 kk83 (by kernel_rfl) ?_
                      refine S_seq kk84 kk85 (by kernel_rfl) ?_
                      refine S_region 26 (Code.ops kk84) (by kernel_rfl) ?_
                      refine N_run 4 [(5, .pointer ra), (7, .slice xB xN xC), (11, .int .u64 ra_3), (16, .int .u64 ra_6), (27, .int .i64 k_2), (189, .bool (decide (k_2 < (xN : Int))))] (fun w => by kernel_rfl) ?_
                      refine N_end (by kernel_rfl) ?_
                      refine S_then ?_
                      by_cases c56 : k_2 < (xN : Int)
                      · rw [if_pos c56] at h
                        have b57 : (decide (k_2 < (xN : Int))) = true := decide_eq_true c56
                        refine S_env [(5, .pointer ra), (7, .slice xB xN xC), (11, .int .u64 ra_3), (16, .int .u64 ra_6), (27, .int .i64 k_2), (189, .bool true)] (by simp only [b57, Bool.not_true, Bool.not_false]) ?_
                        clear b57
                        refine S_condT (.tmp 189) kk86 kk87 (by kernel_rfl) (by kernel_rfl) ?_
                        refine S_skip (by kernel_rfl) ?_
                        refine S_then ?_
                        refine S_seq kk88 kk89 (by kernel_rfl) ?_
                        refine S_block 3 kk90 (by kernel_rfl) ?_
                        refine S_seq kk91 kk92 (by kernel_rfl) ?_
                        refine S_region 28 (Code.ops kk91) (by kernel_rfl) ?_
                        refine N_run 5 [(5, .pointer ra), (7, .slice xB xN xC), (11, .int .u64 ra_3), (16, .int .u64 ra_6), (27, .int .i64 k_2), (193, .pointer ra), (194, .int .u64 ra_6), (197, .int .u64 (ishl .u64 (IntKind.wrap .u64 k_2) 3))] (fun w => by kernel_rfl) ?_
                        refine N_new (some 198) (fun b => .slice (some (Addr.mk b 0 none)) 2 2) (.cells #[.int .u64 ra_6, .int .u64 (ishl .u64 (IntKind.wrap .u64 k_2) 3)] 31) (fun w => by kernel_rfl) ?_
                        intro b_6 H26 e58 e59
                        replace h := h b_6 H26 e58 e59
                        refine ⟨[(5, .pointer ra), (7, .slice xB xN xC), (11, .int .u64 ra_3), (16, .int .u64 ra_6), (27, .int .i64 k_2), (193, .pointer ra), (198, .slice (some (Addr.mk b_6 0 none)) 2 2)], ps (by kernel_rfl), ?_⟩
                        refine N_call (some 199) 10 #[.pointer ra, .int .i64 17, .slice (some (Addr.mk b_6 0 none)) 2 2] (fun w => by kernel_rfl) h ?_; clear h
                        rintro v_16 H27 ⟨ra_8, rb_11, rfl, h⟩
                        refine ⟨[(5, .pointer ra), (7, .slice xB xN xC), (11, .int .u64 ra_3), (16, .int .u64 ra_6), (27, .int .i64 k_2), (199, .tuple #[.int .u64 ra_8, .int .i64 rb_11])], ps (by kernel_rfl), ?_⟩
                        refine N_run 5 [(5, .pointer ra), (7, .slice xB xN xC), (11, .int .u64 ra_3), (16, .int .u64 ra_6), (27, .int .i64 k_2), (28, .int .u64 ra_8), (29, .int .i64 rb_11)] (fun w => by kernel_rfl) ?_
                        refine N_end (by kernel_rfl) ?_
                        refine S_then ?_
                        refine S_seq kk93 kk94 (by kernel_rfl) ?_
                        refine S_region 29 (Code.ops kk93) (by kernel_rfl) ?_
                        refine N_run 3 [(5, .pointer ra), (7, .slice xB xN xC), (11, .int .u64 ra_3), (16, .int .u64 ra_6), (27, .int .i64 k_2), (28, .int .u64 ra_8), (204, .bool (rb_11 != 0))] (fun w => by kernel_rfl) ?_
                        by_cases c60 : rb_11 = 0
                        · rw [if_pos c60] at h
                          have b61 : (rb_11 != 0) = false := bne_eq_false_iff_eq.mpr c60
                          refine N_env [(5, .pointer ra), (7, .slice xB xN xC), (11, .int .u64 ra_3), (16, .int .u64 ra_6), (27, .int .i64 k_2), (28, .int .u64 ra_8), (204, .bool false)] (by simp only [b61, Bool.not_true, Bool.not_false]) ?_
                          clear b61
                          refine N_run 3 [(5, .pointer ra), (7, .slice xB xN xC), (11, .int .u64 ra_3), (16, .int .u64 ra_6), (27, .int .i64 k_2), (204, .bool false), (205, .int .u64 ra_8), (206, .slice xB xN xC), (207, .int .i64 k_2)] (fun w => by kernel_rfl) ?_
                          obtain ⟨xBA_2, rfl, h⟩ := h
                          obtain ⟨q62, h⟩ := h
                          refine N_val (some 208) (indexAtN 28 (.slice (some xBA_2) xN xC) (.int .i64 k_2)) (.pointer (some (xBA_2.add (Int.toNat k_2 * 1)))) (fun w => by kernel_rfl) (fun w _ => indexAt_run (P := Try.prog) (t := 28) (elem := 31) (sz := 1) (a := xBA_2) (len := xN) (cap := xC) (k := .i64) (i := k_2) Try.underlying28 (fun w => by kernel_rfl) q62.1 q62.2 w) [(5, .pointer ra), (7, .slice (some xBA_2) xN xC), (11, .int .u64 ra_3), (16, .int .u64 ra_6), (27, .int .i64 k_2), (204, .bool false), (205, .int .u64 ra_8), (208, .pointer (some (xBA_2.add (Int.toNat k_2 * 1))))] (ps (by kernel_rfl)) ?_
                          obtain ⟨x_6, q63, h⟩ := h
                          refine N_val (some 209) (loadN 31 (.pointer (some (xBA_2.add (Int.toNat k_2 * 1))))) (.int .u64 x_6) (fun w => by kernel_rfl) (loadN_run (loadOK_one (fun w => by kernel_rfl) q63)) [(5, .pointer ra), (7, .slice (some xBA_2) xN xC), (11, .int .u64 ra_3), (16, .int .u64 ra_6), (27, .int .i64 k_2), (204, .bool false), (205, .int .u64 ra_8), (209, .int .u64 x_6)] (ps (by kernel_rfl)) ?_
                          refine N_run 2 [(5, .pointer ra), (7, .slice (some xBA_2) xN xC), (11, .int .u64 ra_3), (16, .int .u64 ra_6), (27, .int .i64 k_2), (211, .bool (ra_8 != x_6))] (fun w => by kernel_rfl) ?_
                          refine N_end (by kernel_rfl) ?_
                          refine S_then ?_
                          by_cases c64 : ra_8 = x_6
                          · rw [if_pos c64] at h
                            have b65 : (ra_8 != x_6) = false := bne_eq_false_iff_eq.mpr c64
                            refine S_env [(5, .pointer ra), (7, .slice (some xBA_2) xN xC), (11, .int .u64 ra_3), (16, .int .u64 ra_6), (27, .int .i64 k_2), (211, .bool false)] (by simp only [b65, Bool.not_true, Bool.not_false]) ?_
                            clear b65
                            refine S_condF (.tmp 211) kk95 kk96 (by kernel_rfl) (by kernel_rfl) ?_
                            refine S_skip (by kernel_rfl) ?_
                            refine S_blockEnd ?_
                            refine S_then ?_
                            refine S_region 27 (Code.ops kk89) (by kernel_rfl) ?_
                            refine N_run 3 [(5, .pointer ra), (7, .slice (some xBA_2) xN xC), (11, .int .u64 ra_3), (16, .int .u64 ra_6), (27, .int .i64 (IntKind.wrap .i64 (k_2 + 1)))] (fun w => by kernel_rfl) ?_
                            refine N_end (by kernel_rfl) ?_
                            refine S_then ?_
                            exact S_round ((IntKind.wrap .i64 (k_2 + 1)) : Int) (sb (by kernel_rfl)) h
                          · rw [if_neg c64] at h
                            have b65 : (ra_8 != x_6) = true := bne_iff_ne.mpr c64
                            refine S_env [(5, .pointer ra), (7, .slice (some xBA_2) xN xC), (11, .int .u64 ra_3), (16, .int .u64 ra_6), (27, .int .i64 k_2), (211, .bool true)] (by simp only [b65, Bool.not_true, Bool.not_false]) ?_
                            clear b65
                            refine S_condT (.tmp 211) kk95 kk96 (by kernel_rfl) (by kernel_rfl) ?_
                            refine S_seq kk97 kk98 (by kernel_rfl) ?_
                            refine S_region 30 (Code.ops kk97) (by kernel_rfl) ?_
                            refine N_run 1 [(4, .bool false)] (fun w => by kernel_rfl) ?_
                            refine N_end (by kernel_rfl) ?_
                            refine S_then ?_
                            refine S_ret (by kernel_rfl) ?_
                            show At _ _ _ _ _ (Q .ret)
                            exact S_done (fn := Try.f3) [.bool false] hQ (show ResOK _ _ _ [.tmp 4] _ from .tmp (by kernel_rfl) (.nil)) h
                        · rw [if_neg c60] at h
                          have b61 : (rb_11 != 0) = true := bne_iff_ne.mpr c60
                          refine N_env [(5, .pointer ra), (7, .slice xB xN xC), (11, .int .u64 ra_3), (16, .int .u64 ra_6), (27, .int .i64 k_2), (28, .int .u64 ra_8), (204, .bool true)] (by simp only [b61, Bool.not_true, Bool.not_false]) ?_
                          clear b61
                          refine N_run 7 [(5, .pointer ra), (7, .slice xB xN xC), (11, .int .u64 ra_3), (16, .int .u64 ra_6), (27, .int .i64 k_2), (211, .bool true)] (fun w => by kernel_rfl) ?_
                          refine N_end (by kernel_rfl) ?_
                          refine S_then ?_
                          refine S_condT (.tmp 211) kk95 kk96 (by kernel_rfl) (by kernel_rfl) ?_
                          refine S_seq kk97 kk98 (by kernel_rfl) ?_
                          refine S_region 30 (Code.ops kk97) (by kernel_rfl) ?_
                          refine N_run 1 [(4, .bool false)] (fun w => by kernel_rfl) ?_
                          refine N_end (by kernel_rfl) ?_
                          refine S_then ?_
                          refine S_ret (by kernel_rfl) ?_
                          show At _ _ _ _ _ (Q .ret)
                          exact S_done (fn := Try.f3) [.bool false] hQ (show ResOK _ _ _ [.tmp 4] _ from .tmp (by kernel_rfl) (.nil)) h
                      · rw [if_neg c56] at h
                        have b57 : (decide (k_2 < (xN : Int))) = false := decide_eq_false c56
                        refine S_env [(5, .pointer ra), (7, .slice xB xN xC), (11, .int .u64 ra_3), (16, .int .u64 ra_6), (27, .int .i64 k_2), (189, .bool false)] (by simp only [b57, Bool.not_true, Bool.not_false]) ?_
                        clear b57
                        refine S_condF (.tmp 189) kk86 kk87 (by kernel_rfl) (by kernel_rfl) ?_
                        refine S_exit 2 (by kernel_rfl) ?_
                        refine S_exitThen ?_
                        refine S_exitThen ?_
                        refine S_exitHere ?_
                        refine S_then ?_
                        refine S_seq kk99 kk100 (by kernel_rfl) ?_
                        refine S_region 31 (Code.ops kk99) (by kernel_rfl) ?_
                        refine N_run 6 [(11, .int .u64 ra_3), (213, .pointer ra), (214, .int .u64 ra_6), (218, .int .u64 (ishl .u64 (IntKind.wrap .u64 (xN : Int)) 3))] (fun w => by kernel_rfl) ?_
                        refine N_new (some 219) (fun b => .slice (some (Addr.mk b 0 none)) 2 2) (.cells #[.int .u64 ra_6, .int .u64 (ishl .u64 (IntKind.wrap .u64 (xN : Int)) 3)] 31) (fun w => by kernel_rfl) ?_
                        intro b_7 H28 e66 e67
                        replace h := h b_7 H28 e66 e67
                        refine ⟨[(11, .int .u64 ra_3), (213, .pointer ra), (219, .slice (some (Addr.mk b_7 0 none)) 2 2)], ps (by kernel_rfl), ?_⟩
                        refine N_call (some 220) 10 #[.pointer ra, .int .i64 16, .slice (some (Addr.mk b_7 0 none)) 2 2] (fun w => by kernel_rfl) h ?_; clear h
                        rintro v_17 H29 ⟨ra_9, rb_12, rfl, h⟩
                        refine ⟨[(11, .int .u64 ra_3), (220, .tuple #[.int .u64 ra_9, .int .i64 rb_12])], ps (by kernel_rfl), ?_⟩
                        refine N_run 5 [(6, .int .i64 rb_12), (11, .int .u64 ra_3), (30, .int .u64 ra_9)] (fun w => by kernel_rfl) ?_
                        refine N_end (by kernel_rfl) ?_
                        refine S_then ?_
                        refine S_seq kk101 kk102 (by kernel_rfl) ?_
                        refine S_region 32 (Code.ops kk101) (by kernel_rfl) ?_
                        refine N_run 3 [(11, .int .u64 ra_3), (30, .int .u64 ra_9), (225, .bool (rb_12 == 0))] (fun w => by kernel_rfl) ?_
                        by_cases c68 : rb_12 = 0
                        · rw [if_pos c68] at h
                          have b69 : (rb_12 == 0) = true := beq_iff_eq.mpr c68
                          refine N_env [(11, .int .u64 ra_3), (30, .int .u64 ra_9), (225, .bool true)] (by simp only [b69, Bool.not_true, Bool.not_false]) ?_
                          clear b69
                          refine N_run 5 [(230, .bool (ra_9 == ra_3))] (fun w => by kernel_rfl) ?_
                          by_cases c70 : ra_9 = ra_3
                          · rw [if_pos c70] at h
                            have b71 : (ra_9 == ra_3) = true := beq_iff_eq.mpr c70
                            refine N_env [(230, .bool true)] (by simp only [b71, Bool.not_true, Bool.not_false]) ?_
                            clear b71
                            refine N_call (some 231) 7 #[] (fun w => by kernel_rfl) h ?_; clear h
                            rintro v_18 H30 ⟨x_7, rfl, h⟩
                            refine ⟨[(230, .bool true), (231, .bool x_7)], ps (by kernel_rfl), ?_⟩
                            refine N_run 2 [(4, .bool x_7)] (fun w => by kernel_rfl) ?_
                            refine N_end (by kernel_rfl) ?_
                            refine S_then ?_
                            refine S_ret (by kernel_rfl) ?_
                            show At _ _ _ _ _ (Q .ret)
                            exact S_done (fn := Try.f3) [.bool x_7] hQ (show ResOK _ _ _ [.tmp 4] _ from .tmp (by kernel_rfl) (.nil)) h
                          · rw [if_neg c70] at h
                            have b71 : (ra_9 == ra_3) = false := beq_eq_false_iff_ne.mpr c70
                            refine N_env [(230, .bool false)] (by simp only [b71, Bool.not_true, Bool.not_false]) ?_
                            clear b71
                            refine N_run 3 [(4, .bool false)] (fun w => by kernel_rfl) ?_
                            refine N_end (by kernel_rfl) ?_
                            refine S_then ?_
                            refine S_ret (by kernel_rfl) ?_
                            show At _ _ _ _ _ (Q .ret)
                            exact S_done (fn := Try.f3) [.bool false] hQ (show ResOK _ _ _ [.tmp 4] _ from .tmp (by kernel_rfl) (.nil)) h
                        · rw [if_neg c68] at h
                          have b69 : (rb_12 == 0) = false := beq_eq_false_iff_ne.mpr c68
                          refine N_env [(11, .int .u64 ra_3), (30, .int .u64 ra_9), (225, .bool false)] (by simp only [b69, Bool.not_true, Bool.not_false]) ?_
                          clear b69
                          refine N_run 8 [(4, .bool false)] (fun w => by kernel_rfl) ?_
                          refine N_end (by kernel_rfl) ?_
                          refine S_then ?_
                          refine S_ret (by kernel_rfl) ?_
                          show At _ _ _ _ _ (Q .ret)
                          exact S_done (fn := Try.f3) [.bool false] hQ (show ResOK _ _ _ [.tmp 4] _ from .tmp (by kernel_rfl) (.nil)) h
                    · rw [if_neg c51] at h
                      have b52 : (!x_5) = true := congrArg Bool.not (eq_false_of_ne_true c51)
                      have b522 : x_5 = false := eq_false_of_ne_true c51
                      refine S_env [(5, .pointer ra), (7, .slice xB xN xC), (11, .int .u64 ra_3), (16, .int .u64 ra_6), (185, .bool true)] (by simp only [b52, b522, Bool.not_true, Bool.not_false]) ?_
                      clear b52 b522
                      refine S_condT (.tmp 185) kk74 kk75 (by kernel_rfl) (by kernel_rfl) ?_
                      refine S_seq kk103 kk104 (by kernel_rfl) ?_
                      refine S_region 24 (Code.ops kk103) (by kernel_rfl) ?_
                      refine N_run 1 [(4, .bool false)] (fun w => by kernel_rfl) ?_
                      refine N_end (by kernel_rfl) ?_
                      refine S_then ?_
                      refine S_ret (by kernel_rfl) ?_
                      show At _ _ _ _ _ (Q .ret)
                      exact S_done (fn := Try.f3) [.bool false] hQ (show ResOK _ _ _ [.tmp 4] _ from .tmp (by kernel_rfl) (.nil)) h
                  · rw [if_neg c47] at h
                    have b48 : (!x_4) = true := congrArg Bool.not (eq_false_of_ne_true c47)
                    have b482 : x_4 = false := eq_false_of_ne_true c47
                    refine N_env [(5, .pointer ra), (7, .slice xB xN xC), (8, .slice xB_2 xN_2 xC_2), (11, .int .u64 ra_3), (16, .int .u64 ra_6), (25, .slice raB_3 raN_3 raC_3), (176, .bool true)] (by simp only [b48, b482, Bool.not_true, Bool.not_false]) ?_
                    clear b48 b482
                    refine N_run 9 [(5, .pointer ra), (7, .slice xB xN xC), (11, .int .u64 ra_3), (16, .int .u64 ra_6), (185, .bool true)] (fun w => by kernel_rfl) ?_
                    refine N_end (by kernel_rfl) ?_
                    refine S_then ?_
                    refine S_condT (.tmp 185) kk74 kk75 (by kernel_rfl) (by kernel_rfl) ?_
                    refine S_seq kk103 kk104 (by kernel_rfl) ?_
                    refine S_region 24 (Code.ops kk103) (by kernel_rfl) ?_
                    refine N_run 1 [(4, .bool false)] (fun w => by kernel_rfl) ?_
                    refine N_end (by kernel_rfl) ?_
                    refine S_then ?_
                    refine S_ret (by kernel_rfl) ?_
                    show At _ _ _ _ _ (Q .ret)
                    exact S_done (fn := Try.f3) [.bool false] hQ (show ResOK _ _ _ [.tmp 4] _ from .tmp (by kernel_rfl) (.nil)) h
                · rw [if_neg c45] at h
                  have b46 : ((raN : Int) != (xN : Int)) = true := bne_iff_ne.mpr c45
                  refine N_env [(5, .pointer ra), (7, .slice xB xN xC), (8, .slice xB_2 xN_2 xC_2), (11, .int .u64 ra_3), (16, .int .u64 ra_6), (23, .slice raB_2 raN_2 raC_2), (25, .slice raB_3 raN_3 raC_3), (170, .bool true)] (by simp only [b46, Bool.not_true, Bool.not_false]) ?_
                  clear b46
                  refine N_run 15 [(5, .pointer ra), (7, .slice xB xN xC), (11, .int .u64 ra_3), (16, .int .u64 ra_6), (185, .bool true)] (fun w => by kernel_rfl) ?_
                  refine N_end (by kernel_rfl) ?_
                  refine S_then ?_
                  refine S_condT (.tmp 185) kk74 kk75 (by kernel_rfl) (by kernel_rfl) ?_
                  refine S_seq kk103 kk104 (by kernel_rfl) ?_
                  refine S_region 24 (Code.ops kk103) (by kernel_rfl) ?_
                  refine N_run 1 [(4, .bool false)] (fun w => by kernel_rfl) ?_
                  refine N_end (by kernel_rfl) ?_
                  refine S_then ?_
                  refine S_ret (by kernel_rfl) ?_
                  show At _ _ _ _ _ (Q .ret)
                  exact S_done (fn := Try.f3) [.bool false] hQ (show ResOK _ _ _ [.tmp 4] _ from .tmp (by kernel_rfl) (.nil)) h
          · intro hk
            refine N_run 3 [(0, .slice aB aN aC), (1, .slice bB bN bC), (5, .pointer ra), (7, .slice xB xN xC), (8, .slice xB_2 xN_2 xC_2), (11, .int .u64 ra_3), (13, .int .u64 ra_4), (14, .int .u64 ra_5), (15, .int .i64 rb_5), (16, .int .u64 ra_6), (17, .int .i64 rb_6), (18, .int .u64 ra_7), (19, .int .i64 rb_7), (105, .bool (rb_4 != 0))] (fun w => by kernel_rfl) ?_
            by_cases c24 : rb_4 = 0
            · have b25 : (rb_4 != 0) = false := bne_eq_false_iff_eq.mpr c24
              refine N_env [(0, .slice aB aN aC), (1, .slice bB bN bC), (5, .pointer ra), (7, .slice xB xN xC), (8, .slice xB_2 xN_2 xC_2), (11, .int .u64 ra_3), (13, .int .u64 ra_4), (14, .int .u64 ra_5), (15, .int .i64 rb_5), (16, .int .u64 ra_6), (17, .int .i64 rb_6), (18, .int .u64 ra_7), (19, .int .i64 rb_7), (105, .bool false)] (by simp only [b25, Bool.not_true, Bool.not_false]) ?_
              refine N_run 4 [(0, .slice aB aN aC), (1, .slice bB bN bC), (5, .pointer ra), (7, .slice xB xN xC), (8, .slice xB_2 xN_2 xC_2), (11, .int .u64 ra_3), (13, .int .u64 ra_4), (14, .int .u64 ra_5), (16, .int .u64 ra_6), (17, .int .i64 rb_6), (18, .int .u64 ra_7), (19, .int .i64 rb_7), (109, .bool (rb_5 != 0))] (fun w => by kernel_rfl) ?_
              by_cases c26 : rb_5 = 0
              · have b27 : (rb_5 != 0) = false := bne_eq_false_iff_eq.mpr c26
                refine N_env [(0, .slice aB aN aC), (1, .slice bB bN bC), (5, .pointer ra), (7, .slice xB xN xC), (8, .slice xB_2 xN_2 xC_2), (11, .int .u64 ra_3), (13, .int .u64 ra_4), (14, .int .u64 ra_5), (16, .int .u64 ra_6), (17, .int .i64 rb_6), (18, .int .u64 ra_7), (19, .int .i64 rb_7), (109, .bool false)] (by simp only [b27, Bool.not_true, Bool.not_false]) ?_
                refine N_run 4 [(0, .slice aB aN aC), (1, .slice bB bN bC), (5, .pointer ra), (7, .slice xB xN xC), (8, .slice xB_2 xN_2 xC_2), (11, .int .u64 ra_3), (13, .int .u64 ra_4), (14, .int .u64 ra_5), (16, .int .u64 ra_6), (18, .int .u64 ra_7), (19, .int .i64 rb_7), (113, .bool (rb_6 != 0))] (fun w => by kernel_rfl) ?_
                by_cases c28 : rb_6 = 0
                · have b29 : (rb_6 != 0) = false := bne_eq_false_iff_eq.mpr c28
                  refine N_env [(0, .slice aB aN aC), (1, .slice bB bN bC), (5, .pointer ra), (7, .slice xB xN xC), (8, .slice xB_2 xN_2 xC_2), (11, .int .u64 ra_3), (13, .int .u64 ra_4), (14, .int .u64 ra_5), (16, .int .u64 ra_6), (18, .int .u64 ra_7), (19, .int .i64 rb_7), (113, .bool false)] (by simp only [b29, Bool.not_true, Bool.not_false]) ?_
                  refine N_run 4 [(0, .slice aB aN aC), (1, .slice bB bN bC), (5, .pointer ra), (7, .slice xB xN xC), (8, .slice xB_2 xN_2 xC_2), (11, .int .u64 ra_3), (13, .int .u64 ra_4), (14, .int .u64 ra_5), (16, .int .u64 ra_6), (18, .int .u64 ra_7), (117, .bool (rb_7 != 0))] (fun w => by kernel_rfl) ?_
                  by_cases c30 : rb_7 = 0
                  · have b31 : (rb_7 != 0) = false := bne_eq_false_iff_eq.mpr c30
                    refine N_env [(0, .slice aB aN aC), (1, .slice bB bN bC), (5, .pointer ra), (7, .slice xB xN xC), (8, .slice xB_2 xN_2 xC_2), (11, .int .u64 ra_3), (13, .int .u64 ra_4), (14, .int .u64 ra_5), (16, .int .u64 ra_6), (18, .int .u64 ra_7), (117, .bool false)] (by simp only [b31, Bool.not_true, Bool.not_false]) ?_
                    refine N_run 10 [(5, .pointer ra), (7, .slice xB xN xC), (8, .slice xB_2 xN_2 xC_2), (11, .int .u64 ra_3), (13, .int .u64 ra_4), (14, .int .u64 ra_5), (16, .int .u64 ra_6), (127, .bool (ra_7 != (ishl .u64 (IntKind.wrap .u64 (IntKind.wrap .i64 ((aN : Int) + (bN : Int)))) 3)))] (fun w => by kernel_rfl) ?_
                    refine N_end (by kernel_rfl) ?_
                    refine S_env [(5, .pointer ra), (7, .slice xB xN xC), (8, .slice xB_2 xN_2 xC_2), (11, .int .u64 ra_3), (13, .int .u64 ra_4), (14, .int .u64 ra_5), (16, .int .u64 ra_6), (127, .bool (((((rb_4 != 0) || (rb_5 != 0)) || (rb_6 != 0)) || (rb_7 != 0)) || (ra_7 != (ishl .u64 (IntKind.wrap .u64 (IntKind.wrap .i64 ((aN : Int) + (bN : Int)))) 3))))] (by simp only [b25, b27, b29, b31, Bool.true_or, Bool.false_or, Bool.or_true, Bool.or_false, Bool.true_and, Bool.false_and, Bool.and_true, Bool.and_false, Bool.not_true, Bool.not_false, cond_true, cond_false]) ?_
                    exact hk
                  · have b31 : (rb_7 != 0) = true := bne_iff_ne.mpr c30
                    refine N_env [(0, .slice aB aN aC), (1, .slice bB bN bC), (5, .pointer ra), (7, .slice xB xN xC), (8, .slice xB_2 xN_2 xC_2), (11, .int .u64 ra_3), (13, .int .u64 ra_4), (14, .int .u64 ra_5), (16, .int .u64 ra_6), (18, .int .u64 ra_7), (117, .bool true)] (by simp only [b31, Bool.not_true, Bool.not_false]) ?_
                    refine N_run 10 [(5, .pointer ra), (7, .slice xB xN xC), (8, .slice xB_2 xN_2 xC_2), (11, .int .u64 ra_3), (13, .int .u64 ra_4), (14, .int .u64 ra_5), (16, .int .u64 ra_6), (127, .bool true)] (fun w => by kernel_rfl) ?_
                    refine N_end (by kernel_rfl) ?_
                    refine S_env [(5, .pointer ra), (7, .slice xB xN xC), (8, .slice xB_2 xN_2 xC_2), (11, .int .u64 ra_3), (13, .int .u64 ra_4), (14, .int .u64 ra_5), (16, .int .u64 ra_6), (127, .bool (((((rb_4 != 0) || (rb_5 != 0)) || (rb_6 != 0)) || (rb_7 != 0)) || (ra_7 != (ishl .u64 (IntKind.wrap .u64 (IntKind.wrap .i64 ((aN : Int) + (bN : Int)))) 3))))] (by simp only [b25, b27, b29, b31, Bool.true_or, Bool.false_or, Bool.or_true, Bool.or_false, Bool.true_and, Bool.false_and, Bool.and_true, Bool.and_false, Bool.not_true, Bool.not_false, cond_true, cond_false]) ?_
                    exact hk
                · have b29 : (rb_6 != 0) = true := bne_iff_ne.mpr c28
                  refine N_env [(0, .slice aB aN aC), (1, .slice bB bN bC), (5, .pointer ra), (7, .slice xB xN xC), (8, .slice xB_2 xN_2 xC_2), (11, .int .u64 ra_3), (13, .int .u64 ra_4), (14, .int .u64 ra_5), (16, .int .u64 ra_6), (18, .int .u64 ra_7), (19, .int .i64 rb_7), (113, .bool true)] (by simp only [b29, Bool.not_true, Bool.not_false]) ?_
                  refine N_run 14 [(5, .pointer ra), (7, .slice xB xN xC), (8, .slice xB_2 xN_2 xC_2), (11, .int .u64 ra_3), (13, .int .u64 ra_4), (14, .int .u64 ra_5), (16, .int .u64 ra_6), (127, .bool true)] (fun w => by kernel_rfl) ?_
                  refine N_end (by kernel_rfl) ?_
                  refine S_env [(5, .pointer ra), (7, .slice xB xN xC), (8, .slice xB_2 xN_2 xC_2), (11, .int .u64 ra_3), (13, .int .u64 ra_4), (14, .int .u64 ra_5), (16, .int .u64 ra_6), (127, .bool (((((rb_4 != 0) || (rb_5 != 0)) || (rb_6 != 0)) || (rb_7 != 0)) || (ra_7 != (ishl .u64 (IntKind.wrap .u64 (IntKind.wrap .i64 ((aN : Int) + (bN : Int)))) 3))))] (by simp only [b25, b27, b29, Bool.true_or, Bool.false_or, Bool.or_true, Bool.or_false, Bool.true_and, Bool.false_and, Bool.and_true, Bool.and_false, Bool.not_true, Bool.not_false, cond_true, cond_false]) ?_
                  exact hk
              · have b27 : (rb_5 != 0) = true := bne_iff_ne.mpr c26
                refine N_env [(0, .slice aB aN aC), (1, .slice bB bN bC), (5, .pointer ra), (7, .slice xB xN xC), (8, .slice xB_2 xN_2 xC_2), (11, .int .u64 ra_3), (13, .int .u64 ra_4), (14, .int .u64 ra_5), (16, .int .u64 ra_6), (17, .int .i64 rb_6), (18, .int .u64 ra_7), (19, .int .i64 rb_7), (109, .bool true)] (by simp only [b27, Bool.not_true, Bool.not_false]) ?_
                refine N_run 18 [(5, .pointer ra), (7, .slice xB xN xC), (8, .slice xB_2 xN_2 xC_2), (11, .int .u64 ra_3), (13, .int .u64 ra_4), (14, .int .u64 ra_5), (16, .int .u64 ra_6), (127, .bool true)] (fun w => by kernel_rfl) ?_
                refine N_end (by kernel_rfl) ?_
                refine S_env [(5, .pointer ra), (7, .slice xB xN xC), (8, .slice xB_2 xN_2 xC_2), (11, .int .u64 ra_3), (13, .int .u64 ra_4), (14, .int .u64 ra_5), (16, .int .u64 ra_6), (127, .bool (((((rb_4 != 0) || (rb_5 != 0)) || (rb_6 != 0)) || (rb_7 != 0)) || (ra_7 != (ishl .u64 (IntKind.wrap .u64 (IntKind.wrap .i64 ((aN : Int) + (bN : Int)))) 3))))] (by simp only [b25, b27, Bool.true_or, Bool.false_or, Bool.or_true, Bool.or_false, Bool.true_and, Bool.false_and, Bool.and_true, Bool.and_false, Bool.not_true, Bool.not_false, cond_true, cond_false]) ?_
                exact hk
            · have b25 : (rb_4 != 0) = true := bne_iff_ne.mpr c24
              refine N_env [(0, .slice aB aN aC), (1, .slice bB bN bC), (5, .pointer ra), (7, .slice xB xN xC), (8, .slice xB_2 xN_2 xC_2), (11, .int .u64 ra_3), (13, .int .u64 ra_4), (14, .int .u64 ra_5), (15, .int .i64 rb_5), (16, .int .u64 ra_6), (17, .int .i64 rb_6), (18, .int .u64 ra_7), (19, .int .i64 rb_7), (105, .bool true)] (by simp only [b25, Bool.not_true, Bool.not_false]) ?_
              refine N_run 22 [(5, .pointer ra), (7, .slice xB xN xC), (8, .slice xB_2 xN_2 xC_2), (11, .int .u64 ra_3), (13, .int .u64 ra_4), (14, .int .u64 ra_5), (16, .int .u64 ra_6), (127, .bool true)] (fun w => by kernel_rfl) ?_
              refine N_end (by kernel_rfl) ?_
              refine S_env [(5, .pointer ra), (7, .slice xB xN xC), (8, .slice xB_2 xN_2 xC_2), (11, .int .u64 ra_3), (13, .int .u64 ra_4), (14, .int .u64 ra_5), (16, .int .u64 ra_6), (127, .bool (((((rb_4 != 0) || (rb_5 != 0)) || (rb_6 != 0)) || (rb_7 != 0)) || (ra_7 != (ishl .u64 (IntKind.wrap .u64 (IntKind.wrap .i64 ((aN : Int) + (bN : Int)))) 3))))] (by simp only [b25, Bool.true_or, Bool.false_or, Bool.or_true, Bool.or_false, Bool.true_and, Bool.false_and, Bool.and_true, Bool.and_false, Bool.not_true, Bool.not_false, cond_true, cond_false]) ?_
              exact hk
      · intro hk
        refine N_run 3 [(0, .slice aB aN aC), (1, .slice bB bN bC), (5, .pointer ra), (7, .slice xB xN xC), (8, .slice xB_2 xN_2 xC_2), (9, .int .u64 ra_2), (11, .int .u64 ra_3), (12, .bool rb_3), (70, .bool (!rb_2))] (fun w => by kernel_rfl) ?_
        by_cases c12 : rb_2 = true
        · have b13 : (!rb_2) = false := congrArg Bool.not (c12)
          have b132 : rb_2 = true := c12
          refine N_env [(0, .slice aB aN aC), (1, .slice bB bN bC), (5, .pointer ra), (7, .slice xB xN xC), (8, .slice xB_2 xN_2 xC_2), (9, .int .u64 ra_2), (11, .int .u64 ra_3), (12, .bool rb_3), (70, .bool false)] (by simp only [b13, b132, Bool.not_true, Bool.not_false]) ?_
          refine N_run 3 [(0, .slice aB aN aC), (1, .slice bB bN bC), (5, .pointer ra), (7, .slice xB xN xC), (8, .slice xB_2 xN_2 xC_2), (9, .int .u64 ra_2), (11, .int .u64 ra_3), (73, .bool (!rb_3))] (fun w => by kernel_rfl) ?_
          refine N_end (by kernel_rfl) ?_
          refine S_env [(0, .slice aB aN aC), (1, .slice bB bN bC), (5, .pointer ra), (7, .slice xB xN xC), (8, .slice xB_2 xN_2 xC_2), (9, .int .u64 ra_2), (11, .int .u64 ra_3), (73, .bool ((!rb_2) || (!rb_3)))] (by simp only [b13, Bool.true_or, Bool.false_or, Bool.or_true, Bool.or_false, Bool.true_and, Bool.false_and, Bool.and_true, Bool.and_false, Bool.not_true, Bool.not_false, cond_true, cond_false]) ?_
          exact hk
        · have b13 : (!rb_2) = true := congrArg Bool.not (eq_false_of_ne_true c12)
          have b132 : rb_2 = false := eq_false_of_ne_true c12
          refine N_env [(0, .slice aB aN aC), (1, .slice bB bN bC), (5, .pointer ra), (7, .slice xB xN xC), (8, .slice xB_2 xN_2 xC_2), (9, .int .u64 ra_2), (11, .int .u64 ra_3), (12, .bool rb_3), (70, .bool true)] (by simp only [b13, b132, Bool.not_true, Bool.not_false]) ?_
          refine N_run 3 [(0, .slice aB aN aC), (1, .slice bB bN bC), (5, .pointer ra), (7, .slice xB xN xC), (8, .slice xB_2 xN_2 xC_2), (9, .int .u64 ra_2), (11, .int .u64 ra_3), (73, .bool true)] (fun w => by kernel_rfl) ?_
          refine N_end (by kernel_rfl) ?_
          refine S_env [(0, .slice aB aN aC), (1, .slice bB bN bC), (5, .pointer ra), (7, .slice xB xN xC), (8, .slice xB_2 xN_2 xC_2), (9, .int .u64 ra_2), (11, .int .u64 ra_3), (73, .bool ((!rb_2) || (!rb_3)))] (by simp only [b13, Bool.true_or, Bool.false_or, Bool.or_true, Bool.or_false, Bool.true_and, Bool.false_and, Bool.and_true, Bool.and_false, Bool.not_true, Bool.not_false, cond_true, cond_false]) ?_
          exact hk
  · intro hk
    refine N_run 3 [(0, .slice aB aN aC), (1, .slice bB bN bC), (5, .pointer ra), (6, .int .i64 rb), (37, .bool (rb != 0))] (fun w => by kernel_rfl) ?_
    by_cases c1 : rb = 0
    · have b2 : (rb != 0) = false := bne_eq_false_iff_eq.mpr c1
      refine N_env [(0, .slice aB aN aC), (1, .slice bB bN bC), (5, .pointer ra), (6, .int .i64 rb), (37, .bool false)] (by simp only [b2, Bool.not_true, Bool.not_false]) ?_
      refine N_run 5 [(0, .slice aB aN aC), (1, .slice bB bN bC), (5, .pointer ra), (6, .int .i64 rb), (42, .bool (decide ((aN : Int) > 500)))] (fun w => by kernel_rfl) ?_
      by_cases c3 : (aN : Int) > 500
      · have b4 : (decide ((aN : Int) > 500)) = true := decide_eq_true c3
        refine N_env [(0, .slice aB aN aC), (1, .slice bB bN bC), (5, .pointer ra), (6, .int .i64 rb), (42, .bool true)] (by simp only [b4, Bool.not_true, Bool.not_false]) ?_
        refine N_run 4 [(0, .slice aB aN aC), (1, .slice bB bN bC), (5, .pointer ra), (6, .int .i64 rb), (46, .bool true)] (fun w => by kernel_rfl) ?_
        refine N_end (by kernel_rfl) ?_
        refine S_env [(0, .slice aB aN aC), (1, .slice bB bN bC), (5, .pointer ra), (6, .int .i64 rb), (46, .bool (((rb != 0) || (decide ((aN : Int) > 500))) || (decide ((bN : Int) > 500))))] (by simp only [b2, b4, Bool.true_or, Bool.false_or, Bool.or_true, Bool.or_false, Bool.true_and, Bool.false_and, Bool.and_true, Bool.and_false, Bool.not_true, Bool.not_false, cond_true, cond_false]) ?_
        exact hk
      · have b4 : (decide ((aN : Int) > 500)) = false := decide_eq_false c3
        refine N_env [(0, .slice aB aN aC), (1, .slice bB bN bC), (5, .pointer ra), (6, .int .i64 rb), (42, .bool false)] (by simp only [b4, Bool.not_true, Bool.not_false]) ?_
        refine N_run 4 [(0, .slice aB aN aC), (1, .slice bB bN bC), (5, .pointer ra), (6, .int .i64 rb), (46, .bool (decide ((bN : Int) > 500)))] (fun w => by kernel_rfl) ?_
        refine N_end (by kernel_rfl) ?_
        refine S_env [(0, .slice aB aN aC), (1, .slice bB bN bC), (5, .pointer ra), (6, .int .i64 rb), (46, .bool (((rb != 0) || (decide ((aN : Int) > 500))) || (decide ((bN : Int) > 500))))] (by simp only [b2, b4, Bool.true_or, Bool.false_or, Bool.or_true, Bool.or_false, Bool.true_and, Bool.false_and, Bool.and_true, Bool.and_false, Bool.not_true, Bool.not_false, cond_true, cond_false]) ?_
        exact hk
    · have b2 : (rb != 0) = true := bne_iff_ne.mpr c1
      refine N_env [(0, .slice aB aN aC), (1, .slice bB bN bC), (5, .pointer ra), (6, .int .i64 rb), (37, .bool true)] (by simp only [b2, Bool.not_true, Bool.not_false]) ?_
      refine N_run 9 [(0, .slice aB aN aC), (1, .slice bB bN bC), (5, .pointer ra), (6, .int .i64 rb), (46, .bool true)] (fun w => by kernel_rfl) ?_
      refine N_end (by kernel_rfl) ?_
      refine S_env [(0, .slice aB aN aC), (1, .slice bB bN bC), (5, .pointer ra), (6, .int .i64 rb), (46, .bool (((rb != 0) || (decide ((aN : Int) > 500))) || (decide ((bN : Int) > 500))))] (by simp only [b2, Bool.true_or, Bool.false_or, Bool.or_true, Bool.or_false, Bool.true_and, Bool.false_and, Bool.and_true, Bool.and_false, Bool.not_true, Bool.not_false, cond_true, cond_false]) ?_
      exact hk
end morainelaw22_ListsBack

end Go.Proofs.Ythlohokmnajpoaa
