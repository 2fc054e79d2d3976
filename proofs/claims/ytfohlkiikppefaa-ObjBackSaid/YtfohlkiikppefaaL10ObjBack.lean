/-
  Written by a program of mine (gen.py): for functions of this translation a predicate transformer over heaps (.pt), and the proof that it is sound for the call (.link).
-/
import Derived.Test.YtfohlkiikppefaaFnsC
set_option linter.unusedSimpArgs false
set_option linter.unusedVariables false
set_option maxHeartbeats 1000000
noncomputable section
namespace Go.Proofs.Ytfohlkiikppefaa
open Go
/-! moraine/morainelaw10.ObjBack -/
namespace morainelaw10_ObjBack
def kk0 := Func.code Try.f8
def kk1 := Code.fa kk0
def kk2 := Code.fb kk0
def kk3 := Code.fa kk2
def kk4 := Code.fb kk2
def kk5 := Code.fa kk4
def kk6 := Code.fb kk4
def kk7 := Code.fa kk5
def kk8 := Code.fb kk5
def kk9 := Code.fa kk8
def kk10 := Code.fb kk8
def kk11 := Code.fa kk9
def kk12 := Code.fb kk9
def kk13 := Code.fa kk6
def kk14 := Code.fb kk6
def kk15 := Code.fa kk14
def kk16 := Code.fb kk14
def kk17 := Code.fa kk16
def kk18 := Code.fb kk16
def kk19 := Code.fa kk17
def kk20 := Code.fb kk17
def kk21 := Code.fa kk20
def kk22 := Code.fb kk20
def kk23 := Code.fa kk18
def kk24 := Code.fb kk18
def kk25 := Code.fa kk23
def kk26 := Code.fb kk23
def kk27 := Code.fa kk26
def kk28 := Code.fb kk26
def kk29 := Code.fa kk24
def kk30 := Code.fb kk24
def kk31 := Code.fa kk30
def kk32 := Code.fb kk30
def kk33 := Code.fa kk32
def kk34 := Code.fb kk32
def kk35 := Code.fa kk33
def kk36 := Code.fb kk33
def kk37 := Code.fa kk36
def kk38 := Code.fb kk36
def kk39 := Code.fa kk34
def kk40 := Code.fb kk34
def kk41 := Code.fa kk39
def kk42 := Code.fb kk39
def kk43 := Code.fa kk42
def kk44 := Code.fb kk42
def kk45 := Code.fa kk40
def kk46 := Code.fb kk40
def kk47 := Code.fa kk46
def kk48 := Code.fb kk46
def kk49 := Code.fa kk48
def kk50 := Code.fb kk48
def kk51 := Code.fa kk50
def kk52 := Code.fb kk50
def kk53 := Code.fa kk43
def kk54 := Code.fb kk43
def kk55 := Code.fa kk37
def kk56 := Code.fb kk37
def kk57 := Code.fa kk27
def kk58 := Code.fb kk27
def kk59 := Code.fa kk58
def kk60 := Code.fb kk58
def kk61 := Code.fa kk60
def kk62 := Code.fb kk60
def kk63 := Code.fa kk61
def kk64 := Code.fb kk61
def kk65 := Code.fa kk21
def kk66 := Code.fb kk21
end morainelaw10_ObjBack
def morainelaw10_ObjBack.pt (s : ByteArray) (nNeg : Bool) (nMagB : Option Addr) (nMagN : Nat) (nMagC : Nat) (H : Array Obj) (R : Value → Array Obj → Prop) : Prop :=
 ∀ (b : Nat) (H1 : Array Obj), b = H.size → H1 = H.push (.cells #[.bool nNeg, .slice nMagB nMagN nMagC] 70) →
 obj_New.C 8 H1 (fun v H2 => ∃ ra : Option Addr, ∃ rb : Int, v = .tuple #[.pointer ra, .int .i64 rb] ∧ 
  if (s.size : Int) > 1000 then (
   ∃ J : Bool → Array Obj → Prop, (
    if rb = 0 then (
     morainelaw10_awake.C  H2 (fun v_2 H4 => ∃ x : Bool, v_2 = .bool x ∧ 
      J x H4))
    else
    J false H2) ∧ ∀ (s4 : Bool) (H3 : Array Obj), J s4 H3 →
   R (.bool s4) H3)
  else
  ∃ xB : Option Addr, ∃ xN : Nat, ∃ xC : Nat, hat H2 ((Addr.mk b 0 none).add 1) = some (.slice xB xN xC) ∧
  if ((decide ((xN : Int) > 60)) || (rb != 0)) = true then (
   ∃ J_2 : Bool → Array Obj → Prop, (
    if rb = 0 then (
     morainelaw10_awake.C  H2 (fun v_3 H6 => ∃ x_2 : Bool, v_3 = .bool x_2 ∧ 
      J_2 x_2 H6))
    else
    J_2 false H2) ∧ ∀ (s4x2 : Bool) (H5 : Array Obj), J_2 s4x2 H5 →
   R (.bool s4x2) H5)
  else
  torunesK 21 s H2 (fun sl slN slC H7 =>
   obj_Heap_String.C ra s H7 (fun v_4 H8 => ∃ ra_2 : Int, ∃ rb_2 : Int, v_4 = .tuple #[.int .u64 ra_2, .int .i64 rb_2] ∧ 
    if (rb_2 == 6) = (decide ((slN : Int) > 62)) then (
     ∃ J_3 : Array Obj → Prop, (
      if rb_2 = 0 then (
       obj_Heap_Text.C ra ra_2 H8 (fun v_14 H23 => ∃ ra_6 : ByteArray, ∃ rb_8 : Int, v_14 = .tuple #[.string ra_6, .int .i64 rb_8] ∧ 
        if rb_8 = 0 then (
         ∃ rs : List Int, (SrcAt H23 sl (rs.map (Value.int .i32)) ∧ (sl ≠ none → rs.length = slN)) ∧
         if ra_6.toList = (runesStr rs).toList then (
          obj_Heap_Len.C ra ra_2 H23 (fun v_15 H24 => ∃ x_7 : Int, v_15 = .int .i64 x_7 ∧ 
           if x_7 = (slN : Int) then (
            J_3 H24)
           else
           R (.bool false) H24))
         else
         R (.bool false) H23)
        else
        R (.bool false) H23))
      else
      J_3 H8) ∧ ∀ (H9 : Array Obj), J_3 H9 →
     ∃ xNeg : Bool, ∃ xMagB : Option Addr, ∃ xMagN : Nat, ∃ xMagC : Nat, RowAt H9 (Addr.mk b 0 none) 0 [.bool xNeg, .slice xMagB xMagN xMagC] ∧
     num_Norm.C xNeg xMagB xMagN xMagC H9 (fun v_5 H10 => ∃ raNeg : Bool, ∃ raMagB : Option Addr, ∃ raMagN : Nat, ∃ raMagC : Nat, ∃ rb_3 : Int, v_5 = .tuple #[.agg #[.bool raNeg, .slice raMagB raMagN raMagC], .int .i64 rb_3] ∧ 
      ∀ (b_2 : Nat) (H11 : Array Obj), b_2 = H10.size → H11 = H10.push (.cells #[.bool false, .slice none 0 0] 70) →
      (CanPuts H11 (Addr.mk b_2 0 none) 0 2) ∧ ∀ H12 : Array Obj, H12 = hputs H11 (Addr.mk b_2 0 none) [.bool raNeg, .slice raMagB raMagN raMagC] 0 →
      ∃ xNeg_2 : Bool, ∃ xMagB_2 : Option Addr, ∃ xMagN_2 : Nat, ∃ xMagC_2 : Nat, RowAt H12 (Addr.mk b 0 none) 0 [.bool xNeg_2, .slice xMagB_2 xMagN_2 xMagC_2] ∧
      obj_Heap_Int.C ra xNeg_2 xMagB_2 xMagN_2 xMagC_2 H12 (fun v_6 H13 => ∃ ra_3 : Int, ∃ rb_4 : Int, v_6 = .tuple #[.int .u64 ra_3, .int .i64 rb_4] ∧ 
       if rb_4 = rb_3 then (
        if rb_4 = 0 then (
         obj_Heap_Num.C ra ra_3 H13 (fun v_7 H14 => ∃ raNeg_2 : Bool, ∃ raMagB_2 : Option Addr, ∃ raMagN_2 : Nat, ∃ raMagC_2 : Nat, ∃ rb_5 : Int, v_7 = .tuple #[.agg #[.bool raNeg_2, .slice raMagB_2 raMagN_2 raMagC_2], .int .i64 rb_5] ∧ 
          ∀ (b_3 : Nat) (H15 : Array Obj), b_3 = H14.size → H15 = H14.push (.cells #[.bool false, .slice none 0 0] 70) →
          (CanPuts H15 (Addr.mk b_3 0 none) 0 2) ∧ ∀ H16 : Array Obj, H16 = hputs H15 (Addr.mk b_3 0 none) [.bool raNeg_2, .slice raMagB_2 raMagN_2 raMagC_2] 0 →
          ∃ xNeg_3 : Bool, ∃ xMagB_3 : Option Addr, ∃ xMagN_3 : Nat, ∃ xMagC_3 : Nat, RowAt H16 (Addr.mk b_2 0 none) 0 [.bool xNeg_3, .slice xMagB_3 xMagN_3 xMagC_3] ∧
          obj_Heap_Int.C ra xNeg_3 xMagB_3 xMagN_3 xMagC_3 H16 (fun v_8 H17 => ∃ ra_4 : Int, ∃ rb_6 : Int, v_8 = .tuple #[.int .u64 ra_4, .int .i64 rb_6] ∧ 
           ∃ xNeg_4 : Bool, ∃ xMagB_4 : Option Addr, ∃ xMagN_4 : Nat, ∃ xMagC_4 : Nat, RowAt H17 (Addr.mk b_2 0 none) 0 [.bool xNeg_4, .slice xMagB_4 xMagN_4 xMagC_4] ∧
           num_Fix.C xNeg_4 xMagB_4 xMagN_4 xMagC_4 H17 (fun v_9 H18 => ∃ ra_5 : Int, ∃ rb_7 : Bool, v_9 = .tuple #[.int .i64 ra_5, .bool rb_7] ∧ 
            if rb_5 = 0 then (
             ∃ xNeg_5 : Bool, ∃ xMagB_5 : Option Addr, ∃ xMagN_5 : Nat, ∃ xMagC_5 : Nat, RowAt H18 (Addr.mk b_3 0 none) 0 [.bool xNeg_5, .slice xMagB_5 xMagN_5 xMagC_5] ∧
             ∃ xNeg_6 : Bool, ∃ xMagB_6 : Option Addr, ∃ xMagN_6 : Nat, ∃ xMagC_6 : Nat, RowAt H18 (Addr.mk b_2 0 none) 0 [.bool xNeg_6, .slice xMagB_6 xMagN_6 xMagC_6] ∧
             moraineref02_Same.C xNeg_5 xMagB_5 xMagN_5 xMagC_5 xNeg_6 xMagB_6 xMagN_6 xMagC_6 H18 (fun v_10 H19 => ∃ x_3 : Bool, v_10 = .bool x_3 ∧ 
              if x_3 = true then (
               if rb_6 = 0 then (
                if (ra_4 == ra_3) = rb_7 then (
                 obj_Heap_Type.C ra ra_3 H19 (fun v_11 H20 => ∃ x_4 : Int, v_11 = .int .i64 x_4 ∧ 
                  if (x_4 == 0) = rb_7 then (
                   morainelaw10_awake.C  H20 (fun v_12 H21 => ∃ x_5 : Bool, v_12 = .bool x_5 ∧ 
                    R (.bool x_5) H21))
                  else
                  R (.bool false) H20))
                else
                R (.bool false) H19)
               else
               R (.bool false) H19)
              else
              R (.bool false) H19))
            else
            R (.bool false) H18))))
        else
        morainelaw10_awake.C  H13 (fun v_13 H22 => ∃ x_6 : Bool, v_13 = .bool x_6 ∧ 
         R (.bool x_6) H22))
       else
       R (.bool false) H13)))
    else
    R (.bool false) H8)))
namespace morainelaw10_ObjBack
set_option maxRecDepth 100000 in
theorem link {s : ByteArray} {nNeg : Bool} {nMagB : Option Addr} {nMagN : Nat} {nMagC : Nat} {H : Array Obj} {R : Value → Array Obj → Prop} (h : pt s nNeg nMagB nMagN nMagC H R) : C s nNeg nMagB nMagN nMagC H R := by
  refine S_enter (fn := Try.f8) (c := kk0) 143 Try.func8 (by kernel_rfl) (by kernel_rfl) (Nat.le_of_ble_eq_true (by kernel_rfl)) ?_
  intro w0 Q hQ
  unfold pt at h
  refine S_sub [(0, .string s), (1, .agg #[.bool nNeg, .slice nMagB nMagN nMagC])] (sb (by kernel_rfl)) ?_
  refine S_seq kk1 kk2 (by kernel_rfl) ?_
  refine S_region 0 (Code.ops kk1) (by kernel_rfl) ?_
  refine N_new (some 3) (fun b => .pointer (some (Addr.mk b 0 none))) (.cells #[.bool nNeg, .slice nMagB nMagN nMagC] 70) (fun w => by kernel_rfl) ?_
  intro b H1 e1 e2
  replace h := h b H1 e1 e2
  refine ⟨[(0, .string s), (3, .pointer (some (Addr.mk b 0 none)))], ps (by kernel_rfl), ?_⟩
  refine N_run 1 [(0, .string s), (3, .pointer (some (Addr.mk b 0 none)))] (fun w => by kernel_rfl) ?_
  refine N_end (by kernel_rfl) ?_
  refine S_then ?_
  refine S_seq kk3 kk4 (by kernel_rfl) ?_
  refine S_region 1 (Code.ops kk3) (by kernel_rfl) ?_
  refine N_call (some 21) 11 #[.int .i64 8] (fun w => by kernel_rfl) h ?_; clear h
  rintro v H2 ⟨ra, rb, rfl, h⟩
  refine ⟨[(0, .string s), (3, .pointer (some (Addr.mk b 0 none))), (21, .tuple #[.pointer ra, .int .i64 rb])], ps (by kernel_rfl), ?_⟩
  refine N_run 5 [(0, .string s), (3, .pointer (some (Addr.mk b 0 none))), (5, .pointer ra), (6, .int .i64 rb)] (fun w => by kernel_rfl) ?_
  refine N_end (by kernel_rfl) ?_
  refine S_then ?_
  refine S_seq kk5 kk6 (by kernel_rfl) ?_
  refine S_seq kk7 kk8 (by kernel_rfl) ?_
  refine S_region 2 (Code.ops kk7) (by kernel_rfl) ?_
  refine N_run 4 [(0, .string s), (3, .pointer (some (Addr.mk b 0 none))), (5, .pointer ra), (6, .int .i64 rb), (27, .bool (decide ((s.size : Int) > 1000)))] (fun w => by kernel_rfl) ?_
  by_cases c3 : (s.size : Int) > 1000
  · rw [if_pos c3] at h
    have b4 : (decide ((s.size : Int) > 1000)) = true := decide_eq_true c3
    refine N_env [(0, .string s), (3, .pointer (some (Addr.mk b 0 none))), (5, .pointer ra), (6, .int .i64 rb), (27, .bool true)] (by simp only [b4, Bool.not_true, Bool.not_false]) ?_
    clear b4
    refine N_run 9 [(0, .string s), (3, .pointer (some (Addr.mk b 0 none))), (5, .pointer ra), (6, .int .i64 rb), (36, .bool true)] (fun w => by kernel_rfl) ?_
    refine N_end (by kernel_rfl) ?_
    refine S_then ?_
    refine S_condT (.tmp 36) kk9 kk10 (by kernel_rfl) (by kernel_rfl) ?_
    refine S_seq kk11 kk12 (by kernel_rfl) ?_
    obtain ⟨J, h, j6⟩ := h
    refine S_join (σ := Bool) (fun s_ => [(4, .bool s_)]) (fun s_ H => J s_ H) ?_ ?_
    · rintro s4 H3 j7
      replace h := j6 s4 H3 j7
      refine S_sub [(4, .bool s4)] (sb (by kernel_rfl)) ?_
      refine S_then ?_
      refine S_ret (by kernel_rfl) ?_
      show At _ _ _ _ _ (Q .ret)
      exact S_done (fn := Try.f8) [.bool s4] hQ (show ResOK _ _ _ [.tmp 4] _ from .tmp (by kernel_rfl) (.nil)) h
    · refine S_region 3 (Code.ops kk11) (by kernel_rfl) ?_
      refine N_run 3 [(39, .bool (rb == 0))] (fun w => by kernel_rfl) ?_
      by_cases c8 : rb = 0
      · rw [if_pos c8] at h
        have b9 : (rb == 0) = true := beq_iff_eq.mpr c8
        refine N_env [(39, .bool true)] (by simp only [b9, Bool.not_true, Bool.not_false]) ?_
        clear b9
        refine N_call (some 40) 24 #[] (fun w => by kernel_rfl) h ?_; clear h
        rintro v_2 H4 ⟨x, rfl, h⟩
        refine ⟨[(39, .bool true), (40, .bool x)], ps (by kernel_rfl), ?_⟩
        refine N_run 2 [(4, .bool x)] (fun w => by kernel_rfl) ?_
        refine N_end (by kernel_rfl) ?_
        refine S_then ?_
        exact S_meet (x : Bool) (sb (by kernel_rfl)) h
      · rw [if_neg c8] at h
        have b9 : (rb == 0) = false := beq_eq_false_iff_ne.mpr c8
        refine N_env [(39, .bool false)] (by simp only [b9, Bool.not_true, Bool.not_false]) ?_
        clear b9
        refine N_run 3 [(4, .bool false)] (fun w => by kernel_rfl) ?_
        refine N_end (by kernel_rfl) ?_
        refine S_then ?_
        exact S_meet (false : Bool) (sb (by kernel_rfl)) h
  · rw [if_neg c3] at h
    have b4 : (decide ((s.size : Int) > 1000)) = false := decide_eq_false c3
    refine N_env [(0, .string s), (3, .pointer (some (Addr.mk b 0 none))), (5, .pointer ra), (6, .int .i64 rb), (27, .bool false)] (by simp only [b4, Bool.not_true, Bool.not_false]) ?_
    clear b4
    refine N_run 1 [(0, .string s), (3, .pointer (some (Addr.mk b 0 none))), (5, .pointer ra), (6, .int .i64 rb), (27, .bool false), (28, .pointer (some ((Addr.mk b 0 none).add 1)))] (fun w => by kernel_rfl) ?_
    obtain ⟨xB, xN, xC, q10, h⟩ := h
    refine N_val (some 29) (loadN 40 (.pointer (some ((Addr.mk b 0 none).add 1)))) (.slice xB xN xC) (fun w => by kernel_rfl) (loadN_run (loadOK_one (fun w => by kernel_rfl) q10)) [(0, .string s), (3, .pointer (some (Addr.mk b 0 none))), (5, .pointer ra), (6, .int .i64 rb), (27, .bool false), (29, .slice xB xN xC)] (ps (by kernel_rfl)) ?_
    refine N_run 4 [(0, .string s), (3, .pointer (some (Addr.mk b 0 none))), (5, .pointer ra), (6, .int .i64 rb), (33, .bool (decide ((xN : Int) > 60)))] (fun w => by kernel_rfl) ?_
    refine N_cut [(0, .string s), (3, .pointer (some (Addr.mk b 0 none))), (5, .pointer ra), (6, .int .i64 rb), (36, .bool ((decide ((xN : Int) > 60)) || (rb != 0)))] ?_ ?_
    · refine S_then ?_
      by_cases c13 : ((decide ((xN : Int) > 60)) || (rb != 0)) = true
      · rw [if_pos c13] at h
        have b14 : ((decide ((xN : Int) > 60)) || (rb != 0)) = true := c13
        refine S_env [(0, .string s), (3, .pointer (some (Addr.mk b 0 none))), (5, .pointer ra), (6, .int .i64 rb), (36, .bool true)] (by simp only [b14, Bool.not_true, Bool.not_false]) ?_
        clear b14
        refine S_condT (.tmp 36) kk9 kk10 (by kernel_rfl) (by kernel_rfl) ?_
        refine S_seq kk11 kk12 (by kernel_rfl) ?_
        obtain ⟨J_2, h, j16⟩ := h
        refine S_join (σ := Bool) (fun s_ => [(4, .bool s_)]) (fun s_ H => J_2 s_ H) ?_ ?_
        · rintro s4x2 H5 j17
          replace h := j16 s4x2 H5 j17
          refine S_sub [(4, .bool s4x2)] (sb (by kernel_rfl)) ?_
          refine S_then ?_
          refine S_ret (by kernel_rfl) ?_
          show At _ _ _ _ _ (Q .ret)
          exact S_done (fn := Try.f8) [.bool s4x2] hQ (show ResOK _ _ _ [.tmp 4] _ from .tmp (by kernel_rfl) (.nil)) h
        · refine S_region 3 (Code.ops kk11) (by kernel_rfl) ?_
          refine N_run 3 [(39, .bool (rb == 0))] (fun w => by kernel_rfl) ?_
          by_cases c18 : rb = 0
          · rw [if_pos c18] at h
            have b19 : (rb == 0) = true := beq_iff_eq.mpr c18
            refine N_env [(39, .bool true)] (by simp only [b19, Bool.not_true, Bool.not_false]) ?_
            clear b19
            refine N_call (some 40) 24 #[] (fun w => by kernel_rfl) h ?_; clear h
            rintro v_3 H6 ⟨x_2, rfl, h⟩
            refine ⟨[(39, .bool true), (40, .bool x_2)], ps (by kernel_rfl), ?_⟩
            refine N_run 2 [(4, .bool x_2)] (fun w => by kernel_rfl) ?_
            refine N_end (by kernel_rfl) ?_
            refine S_then ?_
            exact S_meet (x_2 : Bool) (sb (by kernel_rfl)) h
          · rw [if_neg c18] at h
            have b19 : (rb == 0) = false := beq_eq_false_iff_ne.mpr c18
            refine N_env [(39, .bool false)] (by simp only [b19, Bool.not_true, Bool.not_false]) ?_
            clear b19
            refine N_run 3 [(4, .bool false)] (fun w => by kernel_rfl) ?_
            refine N_end (by kernel_rfl) ?_
            refine S_then ?_
            exact S_meet (false : Bool) (sb (by kernel_rfl)) h
      · rw [if_neg c13] at h
        have b14 : ((decide ((xN : Int) > 60)) || (rb != 0)) = false := eq_false_of_ne_true c13
        refine S_env [(0, .string s), (3, .pointer (some (Addr.mk b 0 none))), (5, .pointer ra), (6, .int .i64 rb), (36, .bool false)] (by simp only [b14, Bool.not_true, Bool.not_false]) ?_
        clear b14
        refine S_condF (.tmp 36) kk9 kk10 (by kernel_rfl) (by kernel_rfl) ?_
        refine S_skip (by kernel_rfl) ?_
        refine S_then ?_
        refine S_seq kk13 kk14 (by kernel_rfl) ?_
        refine S_region 4 (Code.ops kk13) (by kernel_rfl) ?_
        refine N_run 1 [(0, .string s), (3, .pointer (some (Addr.mk b 0 none))), (5, .pointer ra), (42, .string s)] (fun w => by kernel_rfl) ?_
        refine N_op (some 43) (convertN 9 86 (.string s)) _ (fun w => by kernel_rfl) (ss_torunes Try.underlying9 Try.underlying86 Try.underlying21 h) ?_
        rintro _ H7 ⟨sl, slN, slC, rfl, h⟩
        refine ⟨[(0, .string s), (3, .pointer (some (Addr.mk b 0 none))), (5, .pointer ra), (43, .slice sl slN slC)], ps (by kernel_rfl), ?_⟩
        refine N_run 1 [(0, .string s), (3, .pointer (some (Addr.mk b 0 none))), (5, .pointer ra), (7, .slice sl slN slC)] (fun w => by kernel_rfl) ?_
        refine N_end (by kernel_rfl) ?_
        refine S_then ?_
        refine S_seq kk15 kk16 (by kernel_rfl) ?_
        refine S_region 5 (Code.ops kk15) (by kernel_rfl) ?_
        refine N_run 2 [(3, .pointer (some (Addr.mk b 0 none))), (5, .pointer ra), (7, .slice sl slN slC), (45, .pointer ra), (46, .string s)] (fun w => by kernel_rfl) ?_
        refine N_call (some 47) 39 #[.pointer ra, .string s] (fun w => by kernel_rfl) h ?_; clear h
        rintro v_4 H8 ⟨ra_2, rb_2, rfl, h⟩
        refine ⟨[(3, .pointer (some (Addr.mk b 0 none))), (5, .pointer ra), (7, .slice sl slN slC), (47, .tuple #[.int .u64 ra_2, .int .i64 rb_2])], ps (by kernel_rfl), ?_⟩
        refine N_run 5 [(3, .pointer (some (Addr.mk b 0 none))), (5, .pointer ra), (6, .int .i64 rb_2), (7, .slice sl slN slC), (8, .int .u64 ra_2)] (fun w => by kernel_rfl) ?_
        refine N_end (by kernel_rfl) ?_
        refine S_then ?_
        refine S_seq kk17 kk18 (by kernel_rfl) ?_
        refine S_seq kk19 kk20 (by kernel_rfl) ?_
        refine S_region 6 (Code.ops kk19) (by kernel_rfl) ?_
        refine N_run 6 [(3, .pointer (some (Addr.mk b 0 none))), (5, .pointer ra), (6, .int .i64 rb_2), (7, .slice sl slN slC), (8, .int .u64 ra_2), (55, .bool (!((rb_2 == 6) == (decide ((slN : Int) > 62)))))] (fun w => by kernel_rfl) ?_
        refine N_end (by kernel_rfl) ?_
        refine S_then ?_
        by_cases c20 : (rb_2 == 6) = (decide ((slN : Int) > 62))
        · rw [if_pos c20] at h
          have b21 : (!((rb_2 == 6) == (decide ((slN : Int) > 62)))) = false := congrArg Bool.not (beq_iff_eq.mpr c20)
          refine S_env [(3, .pointer (some (Addr.mk b 0 none))), (5, .pointer ra), (6, .int .i64 rb_2), (7, .slice sl slN slC), (8, .int .u64 ra_2), (55, .bool false)] (by simp only [b21, Bool.not_true, Bool.not_false]) ?_
          clear b21
          refine S_condF (.tmp 55) kk21 kk22 (by kernel_rfl) (by kernel_rfl) ?_
          refine S_skip (by kernel_rfl) ?_
          refine S_then ?_
          refine S_seq kk23 kk24 (by kernel_rfl) ?_
          refine S_seq kk25 kk26 (by kernel_rfl) ?_
          refine S_region 8 (Code.ops kk25) (by kernel_rfl) ?_
          refine N_run 2 [(3, .pointer (some (Addr.mk b 0 none))), (5, .pointer ra), (7, .slice sl slN slC), (8, .int .u64 ra_2), (57, .bool (rb_2 == 0))] (fun w => by kernel_rfl) ?_
          refine N_end (by kernel_rfl) ?_
          refine S_then ?_
          obtain ⟨J_3, h, j23⟩ := h
          refine S_join (σ := Unit) (fun s_ => [(3, .pointer (some (Addr.mk b 0 none))), (5, .pointer ra)]) (fun s_ H => J_3  H) ?_ ?_
          · rintro _ H9 j24
            replace h := j23 H9 j24
            refine S_sub [(3, .pointer (some (Addr.mk b 0 none))), (5, .pointer ra)] (sb (by kernel_rfl)) ?_
            refine S_then ?_
            refine S_seq kk29 kk30 (by kernel_rfl) ?_
            refine S_region 12 (Code.ops kk29) (by kernel_rfl) ?_
            obtain ⟨xNeg, xMagB, xMagN, xMagC, q25, h⟩ := h
            refine N_val (some 81) (loadN 70 (.pointer (some (Addr.mk b 0 none)))) (.agg #[.bool xNeg, .slice xMagB xMagN xMagC]) (fun w => by kernel_rfl) (loadN_run (loadOK_row (fun w => by kernel_rfl) (fun w => by kernel_rfl) q25)) [(3, .pointer (some (Addr.mk b 0 none))), (5, .pointer ra), (81, .agg #[.bool xNeg, .slice xMagB xMagN xMagC])] (ps (by kernel_rfl)) ?_
            refine N_call (some 82) 41 #[.agg #[.bool xNeg, .slice xMagB xMagN xMagC]] (fun w => by kernel_rfl) h ?_; clear h
            rintro v_5 H10 ⟨raNeg, raMagB, raMagN, raMagC, rb_3, rfl, h⟩
            refine ⟨[(3, .pointer (some (Addr.mk b 0 none))), (5, .pointer ra), (82, .tuple #[.agg #[.bool raNeg, .slice raMagB raMagN raMagC], .int .i64 rb_3])], ps (by kernel_rfl), ?_⟩
            refine N_run 3 [(3, .pointer (some (Addr.mk b 0 none))), (5, .pointer ra), (83, .agg #[.bool raNeg, .slice raMagB raMagN raMagC]), (84, .int .i64 rb_3)] (fun w => by kernel_rfl) ?_
            refine N_new (some 11) (fun b => .pointer (some (Addr.mk b 0 none))) (.cells #[.bool false, .slice none 0 0] 70) (fun w => by kernel_rfl) ?_
            intro b_2 H11 e26 e27
            replace h := h b_2 H11 e26 e27
            refine ⟨[(3, .pointer (some (Addr.mk b 0 none))), (5, .pointer ra), (11, .pointer (some (Addr.mk b_2 0 none))), (83, .agg #[.bool raNeg, .slice raMagB raMagN raMagC]), (84, .int .i64 rb_3)], ps (by kernel_rfl), ?_⟩
            obtain ⟨q29, h⟩ := h
            refine N_skipop none (storeN 70 (.pointer (some (Addr.mk b_2 0 none))) (.agg #[.bool raNeg, .slice raMagB raMagN raMagC])) (fun Hz => Hz = hputs H11 (Addr.mk b_2 0 none) [.bool raNeg, .slice raMagB raMagN raMagC] 0) (fun w => by kernel_rfl) (ss_store [.bool raNeg, .slice raMagB raMagN raMagC] 2 (by kernel_rfl) (by kernel_rfl) (fun w => by kernel_rfl) (by kernel_rfl) q29) ?_
            intro H12 e28
            replace h := h H12 e28
            refine ⟨[(3, .pointer (some (Addr.mk b 0 none))), (5, .pointer ra), (11, .pointer (some (Addr.mk b_2 0 none))), (84, .int .i64 rb_3)], ps (by kernel_rfl), ?_⟩
            refine N_run 1 [(3, .pointer (some (Addr.mk b 0 none))), (5, .pointer ra), (11, .pointer (some (Addr.mk b_2 0 none))), (12, .int .i64 rb_3)] (fun w => by kernel_rfl) ?_
            refine N_end (by kernel_rfl) ?_
            refine S_then ?_
            refine S_seq kk31 kk32 (by kernel_rfl) ?_
            refine S_region 13 (Code.ops kk31) (by kernel_rfl) ?_
            refine N_run 1 [(3, .pointer (some (Addr.mk b 0 none))), (5, .pointer ra), (11, .pointer (some (Addr.mk b_2 0 none))), (12, .int .i64 rb_3), (86, .pointer ra)] (fun w => by kernel_rfl) ?_
            obtain ⟨xNeg_2, xMagB_2, xMagN_2, xMagC_2, q30, h⟩ := h
            refine N_val (some 87) (loadN 70 (.pointer (some (Addr.mk b 0 none)))) (.agg #[.bool xNeg_2, .slice xMagB_2 xMagN_2 xMagC_2]) (fun w => by kernel_rfl) (loadN_run (loadOK_row (fun w => by kernel_rfl) (fun w => by kernel_rfl) q30)) [(5, .pointer ra), (11, .pointer (some (Addr.mk b_2 0 none))), (12, .int .i64 rb_3), (86, .pointer ra), (87, .agg #[.bool xNeg_2, .slice xMagB_2 xMagN_2 xMagC_2])] (ps (by kernel_rfl)) ?_
            refine N_call (some 88) 42 #[.pointer ra, .agg #[.bool xNeg_2, .slice xMagB_2 xMagN_2 xMagC_2]] (fun w => by kernel_rfl) h ?_; clear h
            rintro v_6 H13 ⟨ra_3, rb_4, rfl, h⟩
            refine ⟨[(5, .pointer ra), (11, .pointer (some (Addr.mk b_2 0 none))), (12, .int .i64 rb_3), (88, .tuple #[.int .u64 ra_3, .int .i64 rb_4])], ps (by kernel_rfl), ?_⟩
            refine N_run 5 [(5, .pointer ra), (6, .int .i64 rb_4), (11, .pointer (some (Addr.mk b_2 0 none))), (12, .int .i64 rb_3), (13, .int .u64 ra_3)] (fun w => by kernel_rfl) ?_
            refine N_end (by kernel_rfl) ?_
            refine S_then ?_
            refine S_seq kk33 kk34 (by kernel_rfl) ?_
            refine S_seq kk35 kk36 (by kernel_rfl) ?_
            refine S_region 14 (Code.ops kk35) (by kernel_rfl) ?_
            refine N_run 3 [(5, .pointer ra), (6, .int .i64 rb_4), (11, .pointer (some (Addr.mk b_2 0 none))), (13, .int .u64 ra_3), (93, .bool (rb_4 != rb_3))] (fun w => by kernel_rfl) ?_
            refine N_end (by kernel_rfl) ?_
            refine S_then ?_
            by_cases c31 : rb_4 = rb_3
            · rw [if_pos c31] at h
              have b32 : (rb_4 != rb_3) = false := bne_eq_false_iff_eq.mpr c31
              refine S_env [(5, .pointer ra), (6, .int .i64 rb_4), (11, .pointer (some (Addr.mk b_2 0 none))), (13, .int .u64 ra_3), (93, .bool false)] (by simp only [b32, Bool.not_true, Bool.not_false]) ?_
              clear b32
              refine S_condF (.tmp 93) kk37 kk38 (by kernel_rfl) (by kernel_rfl) ?_
              refine S_skip (by kernel_rfl) ?_
              refine S_then ?_
              refine S_seq kk39 kk40 (by kernel_rfl) ?_
              refine S_seq kk41 kk42 (by kernel_rfl) ?_
              refine S_region 16 (Code.ops kk41) (by kernel_rfl) ?_
              refine N_run 2 [(5, .pointer ra), (11, .pointer (some (Addr.mk b_2 0 none))), (13, .int .u64 ra_3), (95, .bool (rb_4 != 0))] (fun w => by kernel_rfl) ?_
              refine N_end (by kernel_rfl) ?_
              refine S_then ?_
              by_cases c33 : rb_4 = 0
              · rw [if_pos c33] at h
                have b34 : (rb_4 != 0) = false := bne_eq_false_iff_eq.mpr c33
                refine S_env [(5, .pointer ra), (11, .pointer (some (Addr.mk b_2 0 none))), (13, .int .u64 ra_3), (95, .bool false)] (by simp only [b34, Bool.not_true, Bool.not_false]) ?_
                clear b34
                refine S_condF (.tmp 95) kk43 kk44 (by kernel_rfl) (by kernel_rfl) ?_
                refine S_skip (by kernel_rfl) ?_
                refine S_then ?_
                refine S_seq kk45 kk46 (by kernel_rfl) ?_
                refine S_region 18 (Code.ops kk45) (by kernel_rfl) ?_
                refine N_run 2 [(5, .pointer ra), (11, .pointer (some (Addr.mk b_2 0 none))), (13, .int .u64 ra_3), (98, .pointer ra), (99, .int .u64 ra_3)] (fun w => by kernel_rfl) ?_
                refine N_call (some 100) 43 #[.pointer ra, .int .u64 ra_3] (fun w => by kernel_rfl) h ?_; clear h
                rintro v_7 H14 ⟨raNeg_2, raMagB_2, raMagN_2, raMagC_2, rb_5, rfl, h⟩
                refine ⟨[(5, .pointer ra), (11, .pointer (some (Addr.mk b_2 0 none))), (13, .int .u64 ra_3), (100, .tuple #[.agg #[.bool raNeg_2, .slice raMagB_2 raMagN_2 raMagC_2], .int .i64 rb_5])], ps (by kernel_rfl), ?_⟩
                refine N_run 3 [(5, .pointer ra), (11, .pointer (some (Addr.mk b_2 0 none))), (13, .int .u64 ra_3), (101, .agg #[.bool raNeg_2, .slice raMagB_2 raMagN_2 raMagC_2]), (102, .int .i64 rb_5)] (fun w => by kernel_rfl) ?_
                refine N_new (some 14) (fun b => .pointer (some (Addr.mk b 0 none))) (.cells #[.bool false, .slice none 0 0] 70) (fun w => by kernel_rfl) ?_
                intro b_3 H15 e35 e36
                replace h := h b_3 H15 e35 e36
                refine ⟨[(5, .pointer ra), (11, .pointer (some (Addr.mk b_2 0 none))), (13, .int .u64 ra_3), (14, .pointer (some (Addr.mk b_3 0 none))), (101, .agg #[.bool raNeg_2, .slice raMagB_2 raMagN_2 raMagC_2]), (102, .int .i64 rb_5)], ps (by kernel_rfl), ?_⟩
                obtain ⟨q38, h⟩ := h
                refine N_skipop none (storeN 70 (.pointer (some (Addr.mk b_3 0 none))) (.agg #[.bool raNeg_2, .slice raMagB_2 raMagN_2 raMagC_2])) (fun Hz => Hz = hputs H15 (Addr.mk b_3 0 none) [.bool raNeg_2, .slice raMagB_2 raMagN_2 raMagC_2] 0) (fun w => by kernel_rfl) (ss_store [.bool raNeg_2, .slice raMagB_2 raMagN_2 raMagC_2] 2 (by kernel_rfl) (by kernel_rfl) (fun w => by kernel_rfl) (by kernel_rfl) q38) ?_
                intro H16 e37
                replace h := h H16 e37
                refine ⟨[(5, .pointer ra), (11, .pointer (some (Addr.mk b_2 0 none))), (13, .int .u64 ra_3), (14, .pointer (some (Addr.mk b_3 0 none))), (102, .int .i64 rb_5)], ps (by kernel_rfl), ?_⟩
                refine N_run 1 [(5, .pointer ra), (11, .pointer (some (Addr.mk b_2 0 none))), (13, .int .u64 ra_3), (14, .pointer (some (Addr.mk b_3 0 none))), (15, .int .i64 rb_5)] (fun w => by kernel_rfl) ?_
                refine N_end (by kernel_rfl) ?_
                refine S_then ?_
                refine S_seq kk47 kk48 (by kernel_rfl) ?_
                refine S_region 19 (Code.ops kk47) (by kernel_rfl) ?_
                refine N_run 1 [(5, .pointer ra), (11, .pointer (some (Addr.mk b_2 0 none))), (13, .int .u64 ra_3), (14, .pointer (some (Addr.mk b_3 0 none))), (15, .int .i64 rb_5), (104, .pointer ra)] (fun w => by kernel_rfl) ?_
                obtain ⟨xNeg_3, xMagB_3, xMagN_3, xMagC_3, q39, h⟩ := h
                refine N_val (some 105) (loadN 70 (.pointer (some (Addr.mk b_2 0 none)))) (.agg #[.bool xNeg_3, .slice xMagB_3 xMagN_3 xMagC_3]) (fun w => by kernel_rfl) (loadN_run (loadOK_row (fun w => by kernel_rfl) (fun w => by kernel_rfl) q39)) [(5, .pointer ra), (11, .pointer (some (Addr.mk b_2 0 none))), (13, .int .u64 ra_3), (14, .pointer (some (Addr.mk b_3 0 none))), (15, .int .i64 rb_5), (104, .pointer ra), (105, .agg #[.bool xNeg_3, .slice xMagB_3 xMagN_3 xMagC_3])] (ps (by kernel_rfl)) ?_
                refine N_call (some 106) 42 #[.pointer ra, .agg #[.bool xNeg_3, .slice xMagB_3 xMagN_3 xMagC_3]] (fun w => by kernel_rfl) h ?_; clear h
                rintro v_8 H17 ⟨ra_4, rb_6, rfl, h⟩
                refine ⟨[(5, .pointer ra), (11, .pointer (some (Addr.mk b_2 0 none))), (13, .int .u64 ra_3), (14, .pointer (some (Addr.mk b_3 0 none))), (15, .int .i64 rb_5), (106, .tuple #[.int .u64 ra_4, .int .i64 rb_6])], ps (by kernel_rfl), ?_⟩
                refine N_run 5 [(5, .pointer ra), (11, .pointer (some (Addr.mk b_2 0 none))), (13, .int .u64 ra_3), (14, .pointer (some (Addr.mk b_3 0 none))), (15, .int .i64 rb_5), (16, .int .u64 ra_4), (17, .int .i64 rb_6)] (fun w => by kernel_rfl) ?_
                refine N_end (by kernel_rfl) ?_
                refine S_then ?_
                refine S_seq kk49 kk50 (by kernel_rfl) ?_
                refine S_region 20 (Code.ops kk49) (by kernel_rfl) ?_
                obtain ⟨xNeg_4, xMagB_4, xMagN_4, xMagC_4, q40, h⟩ := h
                refine N_val (some 110) (loadN 70 (.pointer (some (Addr.mk b_2 0 none)))) (.agg #[.bool xNeg_4, .slice xMagB_4 xMagN_4 xMagC_4]) (fun w => by kernel_rfl) (loadN_run (loadOK_row (fun w => by kernel_rfl) (fun w => by kernel_rfl) q40)) [(5, .pointer ra), (11, .pointer (some (Addr.mk b_2 0 none))), (13, .int .u64 ra_3), (14, .pointer (some (Addr.mk b_3 0 none))), (15, .int .i64 rb_5), (16, .int .u64 ra_4), (17, .int .i64 rb_6), (110, .agg #[.bool xNeg_4, .slice xMagB_4 xMagN_4 xMagC_4])] (ps (by kernel_rfl)) ?_
                refine N_call (some 111) 44 #[.agg #[.bool xNeg_4, .slice xMagB_4 xMagN_4 xMagC_4]] (fun w => by kernel_rfl) h ?_; clear h
                rintro v_9 H18 ⟨ra_5, rb_7, rfl, h⟩
                refine ⟨[(5, .pointer ra), (11, .pointer (some (Addr.mk b_2 0 none))), (13, .int .u64 ra_3), (14, .pointer (some (Addr.mk b_3 0 none))), (15, .int .i64 rb_5), (16, .int .u64 ra_4), (17, .int .i64 rb_6), (111, .tuple #[.int .i64 ra_5, .bool rb_7])], ps (by kernel_rfl), ?_⟩
                refine N_run 5 [(5, .pointer ra), (11, .pointer (some (Addr.mk b_2 0 none))), (13, .int .u64 ra_3), (14, .pointer (some (Addr.mk b_3 0 none))), (15, .int .i64 rb_5), (16, .int .u64 ra_4), (17, .int .i64 rb_6), (19, .bool rb_7)] (fun w => by kernel_rfl) ?_
                refine N_end (by kernel_rfl) ?_
                refine S_then ?_
                refine S_seq kk51 kk52 (by kernel_rfl) ?_
                refine S_region 21 (Code.ops kk51) (by kernel_rfl) ?_
                refine N_run 3 [(5, .pointer ra), (11, .pointer (some (Addr.mk b_2 0 none))), (13, .int .u64 ra_3), (14, .pointer (some (Addr.mk b_3 0 none))), (16, .int .u64 ra_4), (17, .int .i64 rb_6), (19, .bool rb_7), (116, .bool (rb_5 == 0))] (fun w => by kernel_rfl) ?_
                by_cases c41 : rb_5 = 0
                · rw [if_pos c41] at h
                  have b42 : (rb_5 == 0) = true := beq_iff_eq.mpr c41
                  refine N_env [(5, .pointer ra), (11, .pointer (some (Addr.mk b_2 0 none))), (13, .int .u64 ra_3), (14, .pointer (some (Addr.mk b_3 0 none))), (16, .int .u64 ra_4), (17, .int .i64 rb_6), (19, .bool rb_7), (116, .bool true)] (by simp only [b42, Bool.not_true, Bool.not_false]) ?_
                  clear b42
                  obtain ⟨xNeg_5, xMagB_5, xMagN_5, xMagC_5, q43, h⟩ := h
                  refine N_val (some 117) (loadN 70 (.pointer (some (Addr.mk b_3 0 none)))) (.agg #[.bool xNeg_5, .slice xMagB_5 xMagN_5 xMagC_5]) (fun w => by kernel_rfl) (loadN_run (loadOK_row (fun w => by kernel_rfl) (fun w => by kernel_rfl) q43)) [(5, .pointer ra), (11, .pointer (some (Addr.mk b_2 0 none))), (13, .int .u64 ra_3), (16, .int .u64 ra_4), (17, .int .i64 rb_6), (19, .bool rb_7), (116, .bool true), (117, .agg #[.bool xNeg_5, .slice xMagB_5 xMagN_5 xMagC_5])] (ps (by kernel_rfl)) ?_
                  obtain ⟨xNeg_6, xMagB_6, xMagN_6, xMagC_6, q44, h⟩ := h
                  refine N_val (some 118) (loadN 70 (.pointer (some (Addr.mk b_2 0 none)))) (.agg #[.bool xNeg_6, .slice xMagB_6 xMagN_6 xMagC_6]) (fun w => by kernel_rfl) (loadN_run (loadOK_row (fun w => by kernel_rfl) (fun w => by kernel_rfl) q44)) [(5, .pointer ra), (13, .int .u64 ra_3), (16, .int .u64 ra_4), (17, .int .i64 rb_6), (19, .bool rb_7), (116, .bool true), (117, .agg #[.bool xNeg_5, .slice xMagB_5 xMagN_5 xMagC_5]), (118, .agg #[.bool xNeg_6, .slice xMagB_6 xMagN_6 xMagC_6])] (ps (by kernel_rfl)) ?_
                  refine N_call (some 119) 45 #[.agg #[.bool xNeg_5, .slice xMagB_5 xMagN_5 xMagC_5], .agg #[.bool xNeg_6, .slice xMagB_6 xMagN_6 xMagC_6]] (fun w => by kernel_rfl) h ?_; clear h
                  rintro v_10 H19 ⟨x_3, rfl, h⟩
                  refine ⟨[(5, .pointer ra), (13, .int .u64 ra_3), (16, .int .u64 ra_4), (17, .int .i64 rb_6), (19, .bool rb_7), (116, .bool true), (119, .bool x_3)], ps (by kernel_rfl), ?_⟩
                  refine N_run 2 [(5, .pointer ra), (13, .int .u64 ra_3), (16, .int .u64 ra_4), (17, .int .i64 rb_6), (19, .bool rb_7), (121, .bool x_3)] (fun w => by kernel_rfl) ?_
                  by_cases c45 : x_3 = true
                  · rw [if_pos c45] at h
                    have b46 : x_3 = true := c45
                    refine N_env [(5, .pointer ra), (13, .int .u64 ra_3), (16, .int .u64 ra_4), (17, .int .i64 rb_6), (19, .bool rb_7), (121, .bool true)] (by simp only [b46, Bool.not_true, Bool.not_false]) ?_
                    clear b46
                    refine N_run 4 [(5, .pointer ra), (13, .int .u64 ra_3), (16, .int .u64 ra_4), (19, .bool rb_7), (125, .bool (rb_6 == 0))] (fun w => by kernel_rfl) ?_
                    by_cases c47 : rb_6 = 0
                    · rw [if_pos c47] at h
                      have b48 : (rb_6 == 0) = true := beq_iff_eq.mpr c47
                      refine N_env [(5, .pointer ra), (13, .int .u64 ra_3), (16, .int .u64 ra_4), (19, .bool rb_7), (125, .bool true)] (by simp only [b48, Bool.not_true, Bool.not_false]) ?_
                      clear b48
                      refine N_run 7 [(5, .pointer ra), (13, .int .u64 ra_3), (19, .bool rb_7), (132, .bool ((ra_4 == ra_3) == rb_7))] (fun w => by kernel_rfl) ?_
                      by_cases c49 : (ra_4 == ra_3) = rb_7
                      · rw [if_pos c49] at h
                        have b50 : ((ra_4 == ra_3) == rb_7) = true := beq_iff_eq.mpr c49
                        refine N_env [(5, .pointer ra), (13, .int .u64 ra_3), (19, .bool rb_7), (132, .bool true)] (by simp only [b50, Bool.not_true, Bool.not_false]) ?_
                        clear b50
                        refine N_run 2 [(19, .bool rb_7), (132, .bool true), (133, .pointer ra), (134, .int .u64 ra_3)] (fun w => by kernel_rfl) ?_
                        refine N_call (some 135) 36 #[.pointer ra, .int .u64 ra_3] (fun w => by kernel_rfl) h ?_; clear h
                        rintro v_11 H20 ⟨x_4, rfl, h⟩
                        refine ⟨[(19, .bool rb_7), (132, .bool true), (135, .int .i64 x_4)], ps (by kernel_rfl), ?_⟩
                        refine N_run 5 [(140, .bool ((x_4 == 0) == rb_7))] (fun w => by kernel_rfl) ?_
                        by_cases c51 : (x_4 == 0) = rb_7
                        · rw [if_pos c51] at h
                          have b52 : ((x_4 == 0) == rb_7) = true := beq_iff_eq.mpr c51
                          refine N_env [(140, .bool true)] (by simp only [b52, Bool.not_true, Bool.not_false]) ?_
                          clear b52
                          refine N_call (some 141) 24 #[] (fun w => by kernel_rfl) h ?_; clear h
                          rintro v_12 H21 ⟨x_5, rfl, h⟩
                          refine ⟨[(140, .bool true), (141, .bool x_5)], ps (by kernel_rfl), ?_⟩
                          refine N_run 2 [(4, .bool x_5)] (fun w => by kernel_rfl) ?_
                          refine N_end (by kernel_rfl) ?_
                          refine S_then ?_
                          refine S_ret (by kernel_rfl) ?_
                          show At _ _ _ _ _ (Q .ret)
                          exact S_done (fn := Try.f8) [.bool x_5] hQ (show ResOK _ _ _ [.tmp 4] _ from .tmp (by kernel_rfl) (.nil)) h
                        · rw [if_neg c51] at h
                          have b52 : ((x_4 == 0) == rb_7) = false := beq_eq_false_iff_ne.mpr c51
                          refine N_env [(140, .bool false)] (by simp only [b52, Bool.not_true, Bool.not_false]) ?_
                          clear b52
                          refine N_run 3 [(4, .bool false)] (fun w => by kernel_rfl) ?_
                          refine N_end (by kernel_rfl) ?_
                          refine S_then ?_
                          refine S_ret (by kernel_rfl) ?_
                          show At _ _ _ _ _ (Q .ret)
                          exact S_done (fn := Try.f8) [.bool false] hQ (show ResOK _ _ _ [.tmp 4] _ from .tmp (by kernel_rfl) (.nil)) h
                      · rw [if_neg c49] at h
                        have b50 : ((ra_4 == ra_3) == rb_7) = false := beq_eq_false_iff_ne.mpr c49
                        refine N_env [(5, .pointer ra), (13, .int .u64 ra_3), (19, .bool rb_7), (132, .bool false)] (by simp only [b50, Bool.not_true, Bool.not_false]) ?_
                        clear b50
                        refine N_run 11 [(4, .bool false)] (fun w => by kernel_rfl) ?_
                        refine N_end (by kernel_rfl) ?_
                        refine S_then ?_
                        refine S_ret (by kernel_rfl) ?_
                        show At _ _ _ _ _ (Q .ret)
                        exact S_done (fn := Try.f8) [.bool false] hQ (show ResOK _ _ _ [.tmp 4] _ from .tmp (by kernel_rfl) (.nil)) h
                    · rw [if_neg c47] at h
                      have b48 : (rb_6 == 0) = false := beq_eq_false_iff_ne.mpr c47
                      refine N_env [(5, .pointer ra), (13, .int .u64 ra_3), (16, .int .u64 ra_4), (19, .bool rb_7), (125, .bool false)] (by simp only [b48, Bool.not_true, Bool.not_false]) ?_
                      clear b48
                      refine N_run 18 [(4, .bool false)] (fun w => by kernel_rfl) ?_
                      refine N_end (by kernel_rfl) ?_
                      refine S_then ?_
                      refine S_ret (by kernel_rfl) ?_
                      show At _ _ _ _ _ (Q .ret)
                      exact S_done (fn := Try.f8) [.bool false] hQ (show ResOK _ _ _ [.tmp 4] _ from .tmp (by kernel_rfl) (.nil)) h
                  · rw [if_neg c45] at h
                    have b46 : x_3 = false := eq_false_of_ne_true c45
                    refine N_env [(5, .pointer ra), (13, .int .u64 ra_3), (16, .int .u64 ra_4), (17, .int .i64 rb_6), (19, .bool rb_7), (121, .bool false)] (by simp only [b46, Bool.not_true, Bool.not_false]) ?_
                    clear b46
                    refine N_run 22 [(4, .bool false)] (fun w => by kernel_rfl) ?_
                    refine N_end (by kernel_rfl) ?_
                    refine S_then ?_
                    refine S_ret (by kernel_rfl) ?_
                    show At _ _ _ _ _ (Q .ret)
                    exact S_done (fn := Try.f8) [.bool false] hQ (show ResOK _ _ _ [.tmp 4] _ from .tmp (by kernel_rfl) (.nil)) h
                · rw [if_neg c41] at h
                  have b42 : (rb_5 == 0) = false := beq_eq_false_iff_ne.mpr c41
                  refine N_env [(5, .pointer ra), (11, .pointer (some (Addr.mk b_2 0 none))), (13, .int .u64 ra_3), (14, .pointer (some (Addr.mk b_3 0 none))), (16, .int .u64 ra_4), (17, .int .i64 rb_6), (19, .bool rb_7), (116, .bool false)] (by simp only [b42, Bool.not_true, Bool.not_false]) ?_
                  clear b42
                  refine N_run 27 [(4, .bool false)] (fun w => by kernel_rfl) ?_
                  refine N_end (by kernel_rfl) ?_
                  refine S_then ?_
                  refine S_ret (by kernel_rfl) ?_
                  show At _ _ _ _ _ (Q .ret)
                  exact S_done (fn := Try.f8) [.bool false] hQ (show ResOK _ _ _ [.tmp 4] _ from .tmp (by kernel_rfl) (.nil)) h
              · rw [if_neg c33] at h
                have b34 : (rb_4 != 0) = true := bne_iff_ne.mpr c33
                refine S_env [(5, .pointer ra), (11, .pointer (some (Addr.mk b_2 0 none))), (13, .int .u64 ra_3), (95, .bool true)] (by simp only [b34, Bool.not_true, Bool.not_false]) ?_
                clear b34
                refine S_condT (.tmp 95) kk43 kk44 (by kernel_rfl) (by kernel_rfl) ?_
                refine S_seq kk53 kk54 (by kernel_rfl) ?_
                refine S_region 17 (Code.ops kk53) (by kernel_rfl) ?_
                refine N_sub [] (sb (by kernel_rfl)) ?_
                refine N_call (some 96) 24 #[] (fun w => by kernel_rfl) h ?_; clear h
                rintro v_13 H22 ⟨x_6, rfl, h⟩
                refine ⟨[(96, .bool x_6)], ps (by kernel_rfl), ?_⟩
                refine N_run 1 [(4, .bool x_6)] (fun w => by kernel_rfl) ?_
                refine N_end (by kernel_rfl) ?_
                refine S_then ?_
                refine S_ret (by kernel_rfl) ?_
                show At _ _ _ _ _ (Q .ret)
                exact S_done (fn := Try.f8) [.bool x_6] hQ (show ResOK _ _ _ [.tmp 4] _ from .tmp (by kernel_rfl) (.nil)) h
            · rw [if_neg c31] at h
              have b32 : (rb_4 != rb_3) = true := bne_iff_ne.mpr c31
              refine S_env [(5, .pointer ra), (6, .int .i64 rb_4), (11, .pointer (some (Addr.mk b_2 0 none))), (13, .int .u64 ra_3), (93, .bool true)] (by simp only [b32, Bool.not_true, Bool.not_false]) ?_
              clear b32
              refine S_condT (.tmp 93) kk37 kk38 (by kernel_rfl) (by kernel_rfl) ?_
              refine S_seq kk55 kk56 (by kernel_rfl) ?_
              refine S_region 15 (Code.ops kk55) (by kernel_rfl) ?_
              refine N_run 1 [(4, .bool false)] (fun w => by kernel_rfl) ?_
              refine N_end (by kernel_rfl) ?_
              refine S_then ?_
              refine S_ret (by kernel_rfl) ?_
              show At _ _ _ _ _ (Q .ret)
              exact S_done (fn := Try.f8) [.bool false] hQ (show ResOK _ _ _ [.tmp 4] _ from .tmp (by kernel_rfl) (.nil)) h
          · by_cases c53 : rb_2 = 0
            · rw [if_pos c53] at h
              have b54 : (rb_2 == 0) = true := beq_iff_eq.mpr c53
              refine S_env [(3, .pointer (some (Addr.mk b 0 none))), (5, .pointer ra), (7, .slice sl slN slC), (8, .int .u64 ra_2), (57, .bool true)] (by simp only [b54, Bool.not_true, Bool.not_false]) ?_
              clear b54
              refine S_condT (.tmp 57) kk27 kk28 (by kernel_rfl) (by kernel_rfl) ?_
              refine S_seq kk57 kk58 (by kernel_rfl) ?_
              refine S_region 9 (Code.ops kk57) (by kernel_rfl) ?_
              refine N_run 2 [(3, .pointer (some (Addr.mk b 0 none))), (5, .pointer ra), (7, .slice sl slN slC), (8, .int .u64 ra_2), (59, .pointer ra), (60, .int .u64 ra_2)] (fun w => by kernel_rfl) ?_
              refine N_call (some 61) 40 #[.pointer ra, .int .u64 ra_2] (fun w => by kernel_rfl) h ?_; clear h
              rintro v_14 H23 ⟨ra_6, rb_8, rfl, h⟩
              refine ⟨[(3, .pointer (some (Addr.mk b 0 none))), (5, .pointer ra), (7, .slice sl slN slC), (8, .int .u64 ra_2), (61, .tuple #[.string ra_6, .int .i64 rb_8])], ps (by kernel_rfl), ?_⟩
              refine N_run 5 [(3, .pointer (some (Addr.mk b 0 none))), (5, .pointer ra), (7, .slice sl slN slC), (8, .int .u64 ra_2), (9, .string ra_6), (10, .int .i64 rb_8)] (fun w => by kernel_rfl) ?_
              refine N_end (by kernel_rfl) ?_
              refine S_then ?_
              refine S_seq kk59 kk60 (by kernel_rfl) ?_
              refine S_region 10 (Code.ops kk59) (by kernel_rfl) ?_
              refine N_run 3 [(3, .pointer (some (Addr.mk b 0 none))), (5, .pointer ra), (7, .slice sl slN slC), (8, .int .u64 ra_2), (9, .string ra_6), (66, .bool (rb_8 != 0))] (fun w => by kernel_rfl) ?_
              by_cases c55 : rb_8 = 0
              · rw [if_pos c55] at h
                have b56 : (rb_8 != 0) = false := bne_eq_false_iff_eq.mpr c55
                refine N_env [(3, .pointer (some (Addr.mk b 0 none))), (5, .pointer ra), (7, .slice sl slN slC), (8, .int .u64 ra_2), (9, .string ra_6), (66, .bool false)] (by simp only [b56, Bool.not_true, Bool.not_false]) ?_
                clear b56
                refine N_run 2 [(3, .pointer (some (Addr.mk b 0 none))), (5, .pointer ra), (7, .slice sl slN slC), (8, .int .u64 ra_2), (66, .bool false), (67, .string ra_6), (68, .slice sl slN slC)] (fun w => by kernel_rfl) ?_
                obtain ⟨rs, q57, h⟩ := h
                refine N_val (some 69) (convertN 86 9 (.slice sl slN slC)) (.string (runesStr rs)) (fun w => by kernel_rfl) (fun w hw => convert_runes Try.underlying86 Try.underlying9 Try.underlying21 (by rw [hw]; exact q57.1) q57.2) [(3, .pointer (some (Addr.mk b 0 none))), (5, .pointer ra), (7, .slice sl slN slC), (8, .int .u64 ra_2), (66, .bool false), (67, .string ra_6), (69, .string (runesStr rs))] (ps (by kernel_rfl)) ?_
                refine N_run 3 [(3, .pointer (some (Addr.mk b 0 none))), (5, .pointer ra), (7, .slice sl slN slC), (8, .int .u64 ra_2), (72, .bool (!(ra_6.toList == (runesStr rs).toList)))] (fun w => by kernel_rfl) ?_
                by_cases c58 : ra_6.toList = (runesStr rs).toList
                · rw [if_pos c58] at h
                  have b59 : (!(ra_6.toList == (runesStr rs).toList)) = false := congrArg Bool.not (beq_iff_eq.mpr c58)
                  refine N_env [(3, .pointer (some (Addr.mk b 0 none))), (5, .pointer ra), (7, .slice sl slN slC), (8, .int .u64 ra_2), (72, .bool false)] (by simp only [b59, Bool.not_true, Bool.not_false]) ?_
                  clear b59
                  refine N_run 2 [(3, .pointer (some (Addr.mk b 0 none))), (5, .pointer ra), (7, .slice sl slN slC), (72, .bool false), (73, .pointer ra), (74, .int .u64 ra_2)] (fun w => by kernel_rfl) ?_
                  refine N_call (some 75) 37 #[.pointer ra, .int .u64 ra_2] (fun w => by kernel_rfl) h ?_; clear h
                  rintro v_15 H24 ⟨x_7, rfl, h⟩
                  refine ⟨[(3, .pointer (some (Addr.mk b 0 none))), (5, .pointer ra), (7, .slice sl slN slC), (72, .bool false), (75, .int .i64 x_7)], ps (by kernel_rfl), ?_⟩
                  refine N_run 4 [(3, .pointer (some (Addr.mk b 0 none))), (5, .pointer ra), (79, .bool (x_7 != (slN : Int)))] (fun w => by kernel_rfl) ?_
                  refine N_end (by kernel_rfl) ?_
                  refine S_then ?_
                  by_cases c60 : x_7 = (slN : Int)
                  · rw [if_pos c60] at h
                    have b61 : (x_7 != (slN : Int)) = false := bne_eq_false_iff_eq.mpr c60
                    refine S_env [(3, .pointer (some (Addr.mk b 0 none))), (5, .pointer ra), (79, .bool false)] (by simp only [b61, Bool.not_true, Bool.not_false]) ?_
                    clear b61
                    refine S_condF (.tmp 79) kk61 kk62 (by kernel_rfl) (by kernel_rfl) ?_
                    refine S_skip (by kernel_rfl) ?_
                    refine S_then ?_
                    exact S_meet (() : Unit) (sb (by kernel_rfl)) h
                  · rw [if_neg c60] at h
                    have b61 : (x_7 != (slN : Int)) = true := bne_iff_ne.mpr c60
                    refine S_env [(3, .pointer (some (Addr.mk b 0 none))), (5, .pointer ra), (79, .bool true)] (by simp only [b61, Bool.not_true, Bool.not_false]) ?_
                    clear b61
                    refine S_condT (.tmp 79) kk61 kk62 (by kernel_rfl) (by kernel_rfl) ?_
                    refine S_seq kk63 kk64 (by kernel_rfl) ?_
                    refine S_region 11 (Code.ops kk63) (by kernel_rfl) ?_
                    refine N_run 1 [(4, .bool false)] (fun w => by kernel_rfl) ?_
                    refine N_end (by kernel_rfl) ?_
                    refine S_then ?_
                    refine S_ret (by kernel_rfl) ?_
                    show At _ _ _ _ _ (Q .ret)
                    exact S_done (fn := Try.f8) [.bool false] hQ (show ResOK _ _ _ [.tmp 4] _ from .tmp (by kernel_rfl) (.nil)) h
                · rw [if_neg c58] at h
                  have b59 : (!(ra_6.toList == (runesStr rs).toList)) = true := congrArg Bool.not (beq_eq_false_iff_ne.mpr c58)
                  refine N_env [(3, .pointer (some (Addr.mk b 0 none))), (5, .pointer ra), (7, .slice sl slN slC), (8, .int .u64 ra_2), (72, .bool true)] (by simp only [b59, Bool.not_true, Bool.not_false]) ?_
                  clear b59
                  refine N_run 7 [(3, .pointer (some (Addr.mk b 0 none))), (5, .pointer ra), (79, .bool true)] (fun w => by kernel_rfl) ?_
                  refine N_end (by kernel_rfl) ?_
                  refine S_then ?_
                  refine S_condT (.tmp 79) kk61 kk62 (by kernel_rfl) (by kernel_rfl) ?_
                  refine S_seq kk63 kk64 (by kernel_rfl) ?_
                  refine S_region 11 (Code.ops kk63) (by kernel_rfl) ?_
                  refine N_run 1 [(4, .bool false)] (fun w => by kernel_rfl) ?_
                  refine N_end (by kernel_rfl) ?_
                  refine S_then ?_
                  refine S_ret (by kernel_rfl) ?_
                  show At _ _ _ _ _ (Q .ret)
                  exact S_done (fn := Try.f8) [.bool false] hQ (show ResOK _ _ _ [.tmp 4] _ from .tmp (by kernel_rfl) (.nil)) h
              · rw [if_neg c55] at h
                have b56 : (rb_8 != 0) = true := bne_iff_ne.mpr c55
                refine N_env [(3, .pointer (some (Addr.mk b 0 none))), (5, .pointer ra), (7, .slice sl slN slC), (8, .int .u64 ra_2), (9, .string ra_6), (66, .bool true)] (by simp only [b56, Bool.not_true, Bool.not_false]) ?_
                clear b56
                refine N_run 13 [(3, .pointer (some (Addr.mk b 0 none))), (5, .pointer ra), (79, .bool true)] (fun w => by kernel_rfl) ?_
                refine N_end (by kernel_rfl) ?_
                refine S_then ?_
                refine S_condT (.tmp 79) kk61 kk62 (by kernel_rfl) (by kernel_rfl) ?_
                refine S_seq kk63 kk64 (by kernel_rfl) ?_
                refine S_region 11 (Code.ops kk63) (by kernel_rfl) ?_
                refine N_run 1 [(4, .bool false)] (fun w => by kernel_rfl) ?_
                refine N_end (by kernel_rfl) ?_
                refine S_then ?_
                refine S_ret (by kernel_rfl) ?_
                show At _ _ _ _ _ (Q .ret)
                exact S_done (fn := Try.f8) [.bool false] hQ (show ResOK _ _ _ [.tmp 4] _ from .tmp (by kernel_rfl) (.nil)) h
            · rw [if_neg c53] at h
              have b54 : (rb_2 == 0) = false := beq_eq_false_iff_ne.mpr c53
              refine S_env [(3, .pointer (some (Addr.mk b 0 none))), (5, .pointer ra), (7, .slice sl slN slC), (8, .int .u64 ra_2), (57, .bool false)] (by simp only [b54, Bool.not_true, Bool.not_false]) ?_
              clear b54
              refine S_condF (.tmp 57) kk27 kk28 (by kernel_rfl) (by kernel_rfl) ?_
              refine S_skip (by kernel_rfl) ?_
              refine S_then ?_
              exact S_meet (() : Unit) (sb (by kernel_rfl)) h
        · rw [if_neg c20] at h
          have b21 : (!((rb_2 == 6) == (decide ((slN : Int) > 62)))) = true := congrArg Bool.not (beq_eq_false_iff_ne.mpr c20)
          refine S_env [(3, .pointer (some (Addr.mk b 0 none))), (5, .pointer ra), (6, .int .i64 rb_2), (7, .slice sl slN slC), (8, .int .u64 ra_2), (55, .bool true)] (by simp only [b21, Bool.not_true, Bool.not_false]) ?_
          clear b21
          refine S_condT (.tmp 55) kk21 kk22 (by kernel_rfl) (by kernel_rfl) ?_
          refine S_seq kk65 kk66 (by kernel_rfl) ?_
          refine S_region 7 (Code.ops kk65) (by kernel_rfl) ?_
          refine N_run 1 [(4, .bool false)] (fun w => by kernel_rfl) ?_
          refine N_end (by kernel_rfl) ?_
          refine S_then ?_
          refine S_ret (by kernel_rfl) ?_
          show At _ _ _ _ _ (Q .ret)
          exact S_done (fn := Try.f8) [.bool false] hQ (show ResOK _ _ _ [.tmp 4] _ from .tmp (by kernel_rfl) (.nil)) h
    · intro hk
      refine N_sub [(0, .string s), (3, .pointer (some (Addr.mk b 0 none))), (5, .pointer ra), (6, .int .i64 rb), (33, .bool (decide ((xN : Int) > 60)))] (sb (by kernel_rfl)) ?_
      by_cases c11 : (xN : Int) > 60
      · have b12 : (decide ((xN : Int) > 60)) = true := decide_eq_true c11
        refine N_env [(0, .string s), (3, .pointer (some (Addr.mk b 0 none))), (5, .pointer ra), (6, .int .i64 rb), (33, .bool true)] (by simp only [b12, Bool.not_true, Bool.not_false]) ?_
        refine N_run 3 [(0, .string s), (3, .pointer (some (Addr.mk b 0 none))), (5, .pointer ra), (6, .int .i64 rb), (36, .bool true)] (fun w => by kernel_rfl) ?_
        refine N_end (by kernel_rfl) ?_
        refine S_env [(0, .string s), (3, .pointer (some (Addr.mk b 0 none))), (5, .pointer ra), (6, .int .i64 rb), (36, .bool ((decide ((xN : Int) > 60)) || (rb != 0)))] (by simp only [b12, Bool.true_or, Bool.false_or, Bool.or_true, Bool.or_false, Bool.true_and, Bool.false_and, Bool.and_true, Bool.and_false, Bool.not_true, Bool.not_false, cond_true, cond_false]) ?_
        exact hk
      · have b12 : (decide ((xN : Int) > 60)) = false := decide_eq_false c11
        refine N_env [(0, .string s), (3, .pointer (some (Addr.mk b 0 none))), (5, .pointer ra), (6, .int .i64 rb), (33, .bool false)] (by simp only [b12, Bool.not_true, Bool.not_false]) ?_
        refine N_run 3 [(0, .string s), (3, .pointer (some (Addr.mk b 0 none))), (5, .pointer ra), (6, .int .i64 rb), (36, .bool (rb != 0))] (fun w => by kernel_rfl) ?_
        refine N_end (by kernel_rfl) ?_
        refine S_env [(0, .string s), (3, .pointer (some (Addr.mk b 0 none))), (5, .pointer ra), (6, .int .i64 rb), (36, .bool ((decide ((xN : Int) > 60)) || (rb != 0)))] (by simp only [b12, Bool.true_or, Bool.false_or, Bool.or_true, Bool.or_false, Bool.true_and, Bool.false_and, Bool.and_true, Bool.and_false, Bool.not_true, Bool.not_false, cond_true, cond_false]) ?_
        exact hk
end morainelaw10_ObjBack

end Go.Proofs.Ytfohlkiikppefaa
