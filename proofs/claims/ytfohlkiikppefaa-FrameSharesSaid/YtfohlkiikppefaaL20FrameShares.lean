/-
  Written by a program of mine (gen.py): for functions of this translation a predicate transformer over heaps (.pt), and the proof that it is sound for the call (.link).
-/
import Derived.Test.YtfohlkiikppefaaFnsC
set_option linter.unusedSimpArgs false
set_option linter.unusedVariables false
set_option maxHeartbeats 1000000
namespace Go.Proofs.Ytfohlkiikppefaa
open Go
/-! moraine/morainelaw20.FrameShares -/
noncomputable def morainelaw20_FrameShares.k0 : Code := Func.code Try.f3
noncomputable def morainelaw20_FrameShares.k1 : Code := Code.fa morainelaw20_FrameShares.k0
noncomputable def morainelaw20_FrameShares.k2 : Code := Code.fb morainelaw20_FrameShares.k0
noncomputable def morainelaw20_FrameShares.k3 : Code := Code.fa morainelaw20_FrameShares.k2
noncomputable def morainelaw20_FrameShares.k4 : Code := Code.fb morainelaw20_FrameShares.k2
noncomputable def morainelaw20_FrameShares.k5 : Code := Code.fa morainelaw20_FrameShares.k4
noncomputable def morainelaw20_FrameShares.k6 : Code := Code.fb morainelaw20_FrameShares.k4
noncomputable def morainelaw20_FrameShares.k7 : Code := Code.fa morainelaw20_FrameShares.k5
noncomputable def morainelaw20_FrameShares.k8 : Code := Code.fb morainelaw20_FrameShares.k5
noncomputable def morainelaw20_FrameShares.k9 : Code := Code.fa morainelaw20_FrameShares.k8
noncomputable def morainelaw20_FrameShares.k10 : Code := Code.fb morainelaw20_FrameShares.k8
noncomputable def morainelaw20_FrameShares.k11 : Code := Code.fa morainelaw20_FrameShares.k9
noncomputable def morainelaw20_FrameShares.k12 : Code := Code.fb morainelaw20_FrameShares.k9
noncomputable def morainelaw20_FrameShares.k13 : Code := Code.fa morainelaw20_FrameShares.k6
noncomputable def morainelaw20_FrameShares.k14 : Code := Code.fb morainelaw20_FrameShares.k6
noncomputable def morainelaw20_FrameShares.k15 : Code := Code.fa morainelaw20_FrameShares.k14
noncomputable def morainelaw20_FrameShares.k16 : Code := Code.fb morainelaw20_FrameShares.k14
noncomputable def morainelaw20_FrameShares.k17 : Code := Code.fa morainelaw20_FrameShares.k16
noncomputable def morainelaw20_FrameShares.k18 : Code := Code.fb morainelaw20_FrameShares.k16
noncomputable def morainelaw20_FrameShares.k19 : Code := Code.fa morainelaw20_FrameShares.k17
noncomputable def morainelaw20_FrameShares.k20 : Code := Code.fb morainelaw20_FrameShares.k17
noncomputable def morainelaw20_FrameShares.k21 : Code := Code.fa morainelaw20_FrameShares.k20
noncomputable def morainelaw20_FrameShares.k22 : Code := Code.fa morainelaw20_FrameShares.k21
noncomputable def morainelaw20_FrameShares.k23 : Code := Code.fa morainelaw20_FrameShares.k22
noncomputable def morainelaw20_FrameShares.k24 : Code := Code.fb morainelaw20_FrameShares.k22
noncomputable def morainelaw20_FrameShares.k25 : Code := Code.fa morainelaw20_FrameShares.k23
noncomputable def morainelaw20_FrameShares.k26 : Code := Code.fb morainelaw20_FrameShares.k23
noncomputable def morainelaw20_FrameShares.k27 : Code := Code.fa morainelaw20_FrameShares.k26
noncomputable def morainelaw20_FrameShares.k28 : Code := Code.fb morainelaw20_FrameShares.k26
noncomputable def morainelaw20_FrameShares.k29 : Code := Code.fa morainelaw20_FrameShares.k24
noncomputable def morainelaw20_FrameShares.k30 : Code := Code.fb morainelaw20_FrameShares.k24
noncomputable def morainelaw20_FrameShares.k31 : Code := Code.fa morainelaw20_FrameShares.k29
noncomputable def morainelaw20_FrameShares.k32 : Code := Code.fa morainelaw20_FrameShares.k31
noncomputable def morainelaw20_FrameShares.k33 : Code := Code.fb morainelaw20_FrameShares.k31
noncomputable def morainelaw20_FrameShares.k34 : Code := Code.fa morainelaw20_FrameShares.k33
noncomputable def morainelaw20_FrameShares.k35 : Code := Code.fb morainelaw20_FrameShares.k33
noncomputable def morainelaw20_FrameShares.k36 : Code := Code.fa morainelaw20_FrameShares.k34
noncomputable def morainelaw20_FrameShares.k37 : Code := Code.fb morainelaw20_FrameShares.k34
noncomputable def morainelaw20_FrameShares.k38 : Code := Code.fa morainelaw20_FrameShares.k37
noncomputable def morainelaw20_FrameShares.k39 : Code := Code.fb morainelaw20_FrameShares.k37
noncomputable def morainelaw20_FrameShares.k40 : Code := Code.fa morainelaw20_FrameShares.k35
noncomputable def morainelaw20_FrameShares.k41 : Code := Code.fb morainelaw20_FrameShares.k35
noncomputable def morainelaw20_FrameShares.k42 : Code := Code.fa morainelaw20_FrameShares.k41
noncomputable def morainelaw20_FrameShares.k43 : Code := Code.fb morainelaw20_FrameShares.k41
noncomputable def morainelaw20_FrameShares.k44 : Code := Code.fa morainelaw20_FrameShares.k42
noncomputable def morainelaw20_FrameShares.k45 : Code := Code.fb morainelaw20_FrameShares.k42
noncomputable def morainelaw20_FrameShares.k46 : Code := Code.fa morainelaw20_FrameShares.k45
noncomputable def morainelaw20_FrameShares.k47 : Code := Code.fa morainelaw20_FrameShares.k46
noncomputable def morainelaw20_FrameShares.k48 : Code := Code.fa morainelaw20_FrameShares.k47
noncomputable def morainelaw20_FrameShares.k49 : Code := Code.fb morainelaw20_FrameShares.k47
noncomputable def morainelaw20_FrameShares.k50 : Code := Code.fa morainelaw20_FrameShares.k48
noncomputable def morainelaw20_FrameShares.k51 : Code := Code.fb morainelaw20_FrameShares.k48
noncomputable def morainelaw20_FrameShares.k52 : Code := Code.fa morainelaw20_FrameShares.k51
noncomputable def morainelaw20_FrameShares.k53 : Code := Code.fb morainelaw20_FrameShares.k51
noncomputable def morainelaw20_FrameShares.k54 : Code := Code.fa morainelaw20_FrameShares.k49
noncomputable def morainelaw20_FrameShares.k55 : Code := Code.fb morainelaw20_FrameShares.k49
noncomputable def morainelaw20_FrameShares.k56 : Code := Code.fa morainelaw20_FrameShares.k54
noncomputable def morainelaw20_FrameShares.k57 : Code := Code.fa morainelaw20_FrameShares.k56
noncomputable def morainelaw20_FrameShares.k58 : Code := Code.fb morainelaw20_FrameShares.k56
noncomputable def morainelaw20_FrameShares.k59 : Code := Code.fa morainelaw20_FrameShares.k58
noncomputable def morainelaw20_FrameShares.k60 : Code := Code.fb morainelaw20_FrameShares.k58
noncomputable def morainelaw20_FrameShares.k61 : Code := Code.fa morainelaw20_FrameShares.k59
noncomputable def morainelaw20_FrameShares.k62 : Code := Code.fb morainelaw20_FrameShares.k59
noncomputable def morainelaw20_FrameShares.k63 : Code := Code.fa morainelaw20_FrameShares.k62
noncomputable def morainelaw20_FrameShares.k64 : Code := Code.fb morainelaw20_FrameShares.k62
noncomputable def morainelaw20_FrameShares.k65 : Code := Code.fa morainelaw20_FrameShares.k63
noncomputable def morainelaw20_FrameShares.k66 : Code := Code.fb morainelaw20_FrameShares.k63
noncomputable def morainelaw20_FrameShares.k67 : Code := Code.fa morainelaw20_FrameShares.k60
noncomputable def morainelaw20_FrameShares.k68 : Code := Code.fb morainelaw20_FrameShares.k60
noncomputable def morainelaw20_FrameShares.k69 : Code := Code.fa morainelaw20_FrameShares.k68
noncomputable def morainelaw20_FrameShares.k70 : Code := Code.fb morainelaw20_FrameShares.k68
noncomputable def morainelaw20_FrameShares.k71 : Code := Code.fa morainelaw20_FrameShares.k70
noncomputable def morainelaw20_FrameShares.k72 : Code := Code.fb morainelaw20_FrameShares.k70
noncomputable def morainelaw20_FrameShares.k73 : Code := Code.fa morainelaw20_FrameShares.k71
noncomputable def morainelaw20_FrameShares.k74 : Code := Code.fb morainelaw20_FrameShares.k71
noncomputable def morainelaw20_FrameShares.k75 : Code := Code.fa morainelaw20_FrameShares.k43
noncomputable def morainelaw20_FrameShares.k76 : Code := Code.fb morainelaw20_FrameShares.k43
noncomputable def morainelaw20_FrameShares.k77 : Code := Code.fa morainelaw20_FrameShares.k76
noncomputable def morainelaw20_FrameShares.k78 : Code := Code.fb morainelaw20_FrameShares.k76
noncomputable def morainelaw20_FrameShares.k79 : Code := Code.fa morainelaw20_FrameShares.k77
noncomputable def morainelaw20_FrameShares.k80 : Code := Code.fb morainelaw20_FrameShares.k77
noncomputable def morainelaw20_FrameShares.k81 : Code := Code.fa morainelaw20_FrameShares.k18
noncomputable def morainelaw20_FrameShares.k82 : Code := Code.fb morainelaw20_FrameShares.k18
def morainelaw20_FrameShares.pt (oneB : Option Addr) (oneN : Nat) (oneC : Nat) (otherB : Option Addr) (otherN : Nat) (otherC : Nat) (tailB : Option Addr) (tailN : Nat) (tailC : Nat) (H : Array Obj) (R : Value → Array Obj → Prop) : Prop :=
 obj_New.C 400 H (fun v H1 => ∃ ra : Option Addr, ∃ rb : Int, v = .tuple #[.pointer ra, .int .i64 rb] ∧ 
  if ((((rb != 0) || (decide ((oneN : Int) > 60))) || (decide ((otherN : Int) > 60))) || (decide ((tailN : Int) > 60))) = true then (
   ∃ J : Bool → Array Obj → Prop, (
    if rb = 0 then (
     morainelaw20_awake.C  H1 (fun v_2 H3 => ∃ x : Bool, v_2 = .bool x ∧ 
      J x H3))
    else
    J false H1) ∧ ∀ (s6 : Bool) (H2 : Array Obj), J s6 H2 →
   R (.bool s6) H2)
  else
  morainelaw20_row.C ra tailB tailN tailC 20 H1 (fun v_3 H4 => ∃ x_2 : Int, v_3 = .int .u64 x_2 ∧ 
   morainelaw20_row.C ra oneB oneN oneC x_2 H4 (fun v_4 H5 => ∃ x_3 : Int, v_4 = .int .u64 x_3 ∧ 
    morainelaw20_row.C ra otherB otherN otherC x_2 H5 (fun v_5 H6 => ∃ x_4 : Int, v_5 = .int .u64 x_4 ∧ 
     ∃ (I23 : Int → Array Obj → Prop) (m23 : Int → Array Obj → Nat), I23 0 H6 ∧ ∀ (nv : Int) (H7 : Array Obj), I23 nv H7 →
     if nv < 2 then (
      ∃ J_2 : (Option Addr) → Nat → Nat → Int → Array Obj → Prop, (
       if nv = 1 then (
        J_2 otherB otherN otherC x_4 H7)
       else
       J_2 oneB oneN oneC x_3 H7) ∧ ∀ (lB : Option Addr) (lN : Nat) (lC : Nat) (wv : Int) (H8 : Array Obj), J_2 lB lN lC wv H8 →
      ∀ (b : Nat) (H9 : Array Obj), b = H8.size → H9 = H8.push (.cells #[] 33) →
      appendK 1 33 2 [.int .u16 0] (some (Addr.mk b 0 none)) 0 0 tailB tailN H9 (fun ap apC H10 =>
       appendK 1 33 2 [.int .u16 0] ap (0 + tailN) apC lB lN H10 (fun ap_2 apC_2 H11 =>
        ∃ (I48 : Int → Int → Array Obj → Prop) (m48 : Int → Int → Array Obj → Nat), I48 wv (IntKind.wrap .i64 ((((0 + tailN) + lN) : Int) - 1)) H11 ∧ ∀ (wv_2 : Int) (i : Int) (H12 : Array Obj), I48 wv_2 i H12 →
        if i ≥ 0 then (
         frame_Kind.C ra wv_2 H12 (fun v_6 H13 => ∃ ra_2 : Int, ∃ rb_2 : Int, v_6 = .tuple #[.int .i64 ra_2, .int .i64 rb_2] ∧ 
          if rb_2 = 0 then (
           ∃ ap2A : Addr, ap_2 = some ap2A ∧
           ((0 : Int) ≤ i ∧ i < (((0 + tailN) + lN) : Int)) ∧
           ∃ x_5 : Int, hat H13 (ap2A.add (Int.toNat i * 1)) = some (.int .u16 x_5) ∧
           if ((ra_2 != (IntKind.wrap .i64 x_5)) || (((decide (i < (tailN : Int))) && (i == (IntKind.wrap .i64 ((tailN : Int) - 1)))) && (wv_2 != x_2))) = true then (
            R (.bool false) H13)
           else
           frame_Next.C ra wv_2 H13 (fun v_7 H14 => ∃ ra_3 : Int, ∃ rb_3 : Int, v_7 = .tuple #[.int .u64 ra_3, .int .i64 rb_3] ∧ 
            if rb_3 = 0 then (
             (I48 ra_3 (IntKind.wrap .i64 (i - 1)) H14 ∧ m48 ra_3 (IntKind.wrap .i64 (i - 1)) H14 < m48 wv_2 i H12))
            else
            R (.bool false) H14))
          else
          R (.bool false) H13))
        else
        if wv_2 = 20 then (
         (I23 (IntKind.wrap .i64 (nv + 1)) H12 ∧ m23 (IntKind.wrap .i64 (nv + 1)) H12 < m23 nv H7))
        else
        R (.bool false) H12)))
     else
     morainelaw20_awake.C  H7 (fun v_8 H15 => ∃ x_6 : Bool, v_8 = .bool x_6 ∧ 
      R (.bool x_6) H15)))))
set_option maxRecDepth 100000 in
theorem morainelaw20_FrameShares.link {oneB : Option Addr} {oneN : Nat} {oneC : Nat} {otherB : Option Addr} {otherN : Nat} {otherC : Nat} {tailB : Option Addr} {tailN : Nat} {tailC : Nat} {H : Array Obj} {R : Value → Array Obj → Prop} (h : morainelaw20_FrameShares.pt oneB oneN oneC otherB otherN otherC tailB tailN tailC H R) : morainelaw20_FrameShares.C oneB oneN oneC otherB otherN otherC tailB tailN tailC H R := by
  refine S_enter (fn := Try.f3) (c := morainelaw20_FrameShares.k0) 124 Try.func3 (by kernel_rfl) (by kernel_rfl) (Nat.le_of_ble_eq_true (by kernel_rfl)) ?_
  intro w0 Q hQ
  unfold morainelaw20_FrameShares.pt at h
  refine S_sub [(0, .slice oneB oneN oneC), (1, .slice otherB otherN otherC), (2, .slice tailB tailN tailC)] (sb (by kernel_rfl)) ?_
  refine S_seq morainelaw20_FrameShares.k1 morainelaw20_FrameShares.k2 (by kernel_rfl) ?_
  refine S_region 0 (Code.ops morainelaw20_FrameShares.k1) (by kernel_rfl) ?_
  refine N_run 1 [(0, .slice oneB oneN oneC), (1, .slice otherB otherN otherC), (2, .slice tailB tailN tailC)] (fun w => by kernel_rfl) ?_
  refine N_end (by kernel_rfl) ?_
  refine S_then ?_
  refine S_seq morainelaw20_FrameShares.k3 morainelaw20_FrameShares.k4 (by kernel_rfl) ?_
  refine S_region 1 (Code.ops morainelaw20_FrameShares.k3) (by kernel_rfl) ?_
  refine N_call (some 20) 11 #[.int .i64 400] (fun w => by kernel_rfl) h ?_; clear h
  rintro v H1 ⟨ra, rb, rfl, h⟩
  refine ⟨[(0, .slice oneB oneN oneC), (1, .slice otherB otherN otherC), (2, .slice tailB tailN tailC), (20, .tuple #[.pointer ra, .int .i64 rb])], ps (by kernel_rfl), ?_⟩
  refine N_run 5 [(0, .slice oneB oneN oneC), (1, .slice otherB otherN otherC), (2, .slice tailB tailN tailC), (7, .pointer ra), (8, .int .i64 rb)] (fun w => by kernel_rfl) ?_
  refine N_end (by kernel_rfl) ?_
  refine S_then ?_
  refine S_seq morainelaw20_FrameShares.k5 morainelaw20_FrameShares.k6 (by kernel_rfl) ?_
  refine S_seq morainelaw20_FrameShares.k7 morainelaw20_FrameShares.k8 (by kernel_rfl) ?_
  refine S_region 2 (Code.ops morainelaw20_FrameShares.k7) (by kernel_rfl) ?_
  refine N_cut [(0, .slice oneB oneN oneC), (1, .slice otherB otherN otherC), (2, .slice tailB tailN tailC), (7, .pointer ra), (8, .int .i64 rb), (39, .bool ((((rb != 0) || (decide ((oneN : Int) > 60))) || (decide ((otherN : Int) > 60))) || (decide ((tailN : Int) > 60))))] ?_ ?_
  · refine S_then ?_
    by_cases c7 : ((((rb != 0) || (decide ((oneN : Int) > 60))) || (decide ((otherN : Int) > 60))) || (decide ((tailN : Int) > 60))) = true
    · rw [if_pos c7] at h
      have b8 : ((((rb != 0) || (decide ((oneN : Int) > 60))) || (decide ((otherN : Int) > 60))) || (decide ((tailN : Int) > 60))) = true := c7
      refine S_env [(0, .slice oneB oneN oneC), (1, .slice otherB otherN otherC), (2, .slice tailB tailN tailC), (7, .pointer ra), (8, .int .i64 rb), (39, .bool true)] (by simp only [b8, Bool.not_true, Bool.not_false]) ?_
      clear b8
      refine S_condT (.tmp 39) morainelaw20_FrameShares.k9 morainelaw20_FrameShares.k10 (by kernel_rfl) (by kernel_rfl) ?_
      refine S_seq morainelaw20_FrameShares.k11 morainelaw20_FrameShares.k12 (by kernel_rfl) ?_
      obtain ⟨J, h, j10⟩ := h
      refine S_join (σ := Bool) (fun s_ => [(6, .bool s_)]) (fun s_ H => J s_ H) ?_ ?_
      · rintro s6 H2 j11
        replace h := j10 s6 H2 j11
        refine S_sub [(6, .bool s6)] (sb (by kernel_rfl)) ?_
        refine S_then ?_
        refine S_ret (by kernel_rfl) ?_
        show At _ _ _ _ (Q .ret)
        exact S_done (fn := Try.f3) [.bool s6] hQ (show ResOK _ _ _ [.tmp 6] _ from .tmp (by kernel_rfl) (.nil)) h
      · refine S_region 3 (Code.ops morainelaw20_FrameShares.k11) (by kernel_rfl) ?_
        refine N_run 3 [(42, .bool (rb == 0))] (fun w => by kernel_rfl) ?_
        by_cases c12 : rb = 0
        · rw [if_pos c12] at h
          have b13 : (rb == 0) = true := beq_iff_eq.mpr c12
          refine N_env [(42, .bool true)] (by simp only [b13, Bool.not_true, Bool.not_false]) ?_
          clear b13
          refine N_call (some 43) 12 #[] (fun w => by kernel_rfl) h ?_; clear h
          rintro v_2 H3 ⟨x, rfl, h⟩
          refine ⟨[(42, .bool true), (43, .bool x)], ps (by kernel_rfl), ?_⟩
          refine N_run 2 [(6, .bool x)] (fun w => by kernel_rfl) ?_
          refine N_end (by kernel_rfl) ?_
          refine S_then ?_
          exact S_meet (x : Bool) (sb (by kernel_rfl)) h
        · rw [if_neg c12] at h
          have b13 : (rb == 0) = false := beq_eq_false_iff_ne.mpr c12
          refine N_env [(42, .bool false)] (by simp only [b13, Bool.not_true, Bool.not_false]) ?_
          clear b13
          refine N_run 3 [(6, .bool false)] (fun w => by kernel_rfl) ?_
          refine N_end (by kernel_rfl) ?_
          refine S_then ?_
          exact S_meet (false : Bool) (sb (by kernel_rfl)) h
    · rw [if_neg c7] at h
      have b8 : ((((rb != 0) || (decide ((oneN : Int) > 60))) || (decide ((otherN : Int) > 60))) || (decide ((tailN : Int) > 60))) = false := eq_false_of_ne_true c7
      refine S_env [(0, .slice oneB oneN oneC), (1, .slice otherB otherN otherC), (2, .slice tailB tailN tailC), (7, .pointer ra), (8, .int .i64 rb), (39, .bool false)] (by simp only [b8, Bool.not_true, Bool.not_false]) ?_
      clear b8
      refine S_condF (.tmp 39) morainelaw20_FrameShares.k9 morainelaw20_FrameShares.k10 (by kernel_rfl) (by kernel_rfl) ?_
      refine S_skip (by kernel_rfl) ?_
      refine S_then ?_
      refine S_seq morainelaw20_FrameShares.k13 morainelaw20_FrameShares.k14 (by kernel_rfl) ?_
      refine S_region 4 (Code.ops morainelaw20_FrameShares.k13) (by kernel_rfl) ?_
      refine N_run 2 [(0, .slice oneB oneN oneC), (1, .slice otherB otherN otherC), (2, .slice tailB tailN tailC), (7, .pointer ra), (45, .pointer ra), (46, .slice tailB tailN tailC)] (fun w => by kernel_rfl) ?_
      refine N_call (some 47) 13 #[.pointer ra, .slice tailB tailN tailC, .int .u64 20] (fun w => by kernel_rfl) h ?_; clear h
      rintro v_3 H4 ⟨x_2, rfl, h⟩
      refine ⟨[(0, .slice oneB oneN oneC), (1, .slice otherB otherN otherC), (2, .slice tailB tailN tailC), (7, .pointer ra), (47, .int .u64 x_2)], ps (by kernel_rfl), ?_⟩
      refine N_run 1 [(0, .slice oneB oneN oneC), (1, .slice otherB otherN otherC), (2, .slice tailB tailN tailC), (7, .pointer ra), (9, .int .u64 x_2)] (fun w => by kernel_rfl) ?_
      refine N_end (by kernel_rfl) ?_
      refine S_then ?_
      refine S_seq morainelaw20_FrameShares.k15 morainelaw20_FrameShares.k16 (by kernel_rfl) ?_
      refine S_region 5 (Code.ops morainelaw20_FrameShares.k15) (by kernel_rfl) ?_
      refine N_run 3 [(0, .slice oneB oneN oneC), (1, .slice otherB otherN otherC), (2, .slice tailB tailN tailC), (7, .pointer ra), (9, .int .u64 x_2), (48, .pointer ra), (49, .slice oneB oneN oneC), (50, .int .u64 x_2)] (fun w => by kernel_rfl) ?_
      refine N_call (some 51) 13 #[.pointer ra, .slice oneB oneN oneC, .int .u64 x_2] (fun w => by kernel_rfl) h ?_; clear h
      rintro v_4 H5 ⟨x_3, rfl, h⟩
      refine ⟨[(0, .slice oneB oneN oneC), (1, .slice otherB otherN otherC), (2, .slice tailB tailN tailC), (7, .pointer ra), (9, .int .u64 x_2), (51, .int .u64 x_3)], ps (by kernel_rfl), ?_⟩
      refine N_run 3 [(0, .slice oneB oneN oneC), (1, .slice otherB otherN otherC), (2, .slice tailB tailN tailC), (7, .pointer ra), (9, .int .u64 x_2), (51, .int .u64 x_3), (52, .pointer ra), (53, .slice otherB otherN otherC), (54, .int .u64 x_2)] (fun w => by kernel_rfl) ?_
      refine N_call (some 55) 13 #[.pointer ra, .slice otherB otherN otherC, .int .u64 x_2] (fun w => by kernel_rfl) h ?_; clear h
      rintro v_5 H6 ⟨x_4, rfl, h⟩
      refine ⟨[(0, .slice oneB oneN oneC), (1, .slice otherB otherN otherC), (2, .slice tailB tailN tailC), (7, .pointer ra), (9, .int .u64 x_2), (51, .int .u64 x_3), (55, .int .u64 x_4)], ps (by kernel_rfl), ?_⟩
      refine N_run 2 [(0, .slice oneB oneN oneC), (1, .slice otherB otherN otherC), (2, .slice tailB tailN tailC), (7, .pointer ra), (9, .int .u64 x_2), (10, .int .u64 x_3), (11, .int .u64 x_4)] (fun w => by kernel_rfl) ?_
      refine N_end (by kernel_rfl) ?_
      refine S_then ?_
      refine S_seq morainelaw20_FrameShares.k17 morainelaw20_FrameShares.k18 (by kernel_rfl) ?_
      refine S_seq morainelaw20_FrameShares.k19 morainelaw20_FrameShares.k20 (by kernel_rfl) ?_
      refine S_region 6 (Code.ops morainelaw20_FrameShares.k19) (by kernel_rfl) ?_
      refine N_run 1 [(0, .slice oneB oneN oneC), (1, .slice otherB otherN otherC), (2, .slice tailB tailN tailC), (7, .pointer ra), (9, .int .u64 x_2), (10, .int .u64 x_3), (11, .int .u64 x_4), (12, .int .i64 0)] (fun w => by kernel_rfl) ?_
      refine N_end (by kernel_rfl) ?_
      refine S_then ?_
      refine S_block 0 morainelaw20_FrameShares.k21 (by kernel_rfl) ?_
      obtain ⟨I23, m23, i14, i15⟩ := h
      refine S_loop (x := morainelaw20_FrameShares.k22) (σ := Int) (fun s_ => [(0, .slice oneB oneN oneC), (1, .slice otherB otherN otherC), (2, .slice tailB tailN tailC), (7, .pointer ra), (9, .int .u64 x_2), (10, .int .u64 x_3), (11, .int .u64 x_4), (12, .int .i64 s_)]) (fun s_ H => I23 s_ H) (fun s_ H => m23 s_ H) (0 : Int) (by kernel_rfl) i14 (sb (by kernel_rfl)) ?_
      rintro nv H7 i16
      have h := i15 nv H7 i16
      refine S_sub [(0, .slice oneB oneN oneC), (1, .slice otherB otherN otherC), (2, .slice tailB tailN tailC), (7, .pointer ra), (9, .int .u64 x_2), (10, .int .u64 x_3), (11, .int .u64 x_4), (12, .int .i64 nv)] (sb (by kernel_rfl)) ?_
      refine S_seq morainelaw20_FrameShares.k23 morainelaw20_FrameShares.k24 (by kernel_rfl) ?_
      refine S_seq morainelaw20_FrameShares.k25 morainelaw20_FrameShares.k26 (by kernel_rfl) ?_
      refine S_region 7 (Code.ops morainelaw20_FrameShares.k25) (by kernel_rfl) ?_
      refine N_run 2 [(0, .slice oneB oneN oneC), (1, .slice otherB otherN otherC), (2, .slice tailB tailN tailC), (7, .pointer ra), (9, .int .u64 x_2), (10, .int .u64 x_3), (11, .int .u64 x_4), (12, .int .i64 nv), (57, .bool (decide (nv < 2)))] (fun w => by kernel_rfl) ?_
      refine N_end (by kernel_rfl) ?_
      refine S_then ?_
      by_cases c17 : nv < 2
      · rw [if_pos c17] at h
        have b18 : (decide (nv < 2)) = true := decide_eq_true c17
        refine S_env [(0, .slice oneB oneN oneC), (1, .slice otherB otherN otherC), (2, .slice tailB tailN tailC), (7, .pointer ra), (9, .int .u64 x_2), (10, .int .u64 x_3), (11, .int .u64 x_4), (12, .int .i64 nv), (57, .bool true)] (by simp only [b18, Bool.not_true, Bool.not_false]) ?_
        clear b18
        refine S_condT (.tmp 57) morainelaw20_FrameShares.k27 morainelaw20_FrameShares.k28 (by kernel_rfl) (by kernel_rfl) ?_
        refine S_skip (by kernel_rfl) ?_
        refine S_then ?_
        refine S_seq morainelaw20_FrameShares.k29 morainelaw20_FrameShares.k30 (by kernel_rfl) ?_
        refine S_block 1 morainelaw20_FrameShares.k31 (by kernel_rfl) ?_
        refine S_seq morainelaw20_FrameShares.k32 morainelaw20_FrameShares.k33 (by kernel_rfl) ?_
        refine S_region 9 (Code.ops morainelaw20_FrameShares.k32) (by kernel_rfl) ?_
        refine N_run 4 [(0, .slice oneB oneN oneC), (1, .slice otherB otherN otherC), (2, .slice tailB tailN tailC), (7, .pointer ra), (9, .int .u64 x_2), (10, .int .u64 x_3), (11, .int .u64 x_4), (12, .int .i64 nv), (13, .slice oneB oneN oneC), (14, .int .u64 x_3)] (fun w => by kernel_rfl) ?_
        refine N_end (by kernel_rfl) ?_
        refine S_then ?_
        refine S_seq morainelaw20_FrameShares.k34 morainelaw20_FrameShares.k35 (by kernel_rfl) ?_
        refine S_seq morainelaw20_FrameShares.k36 morainelaw20_FrameShares.k37 (by kernel_rfl) ?_
        refine S_region 10 (Code.ops morainelaw20_FrameShares.k36) (by kernel_rfl) ?_
        refine N_run 2 [(0, .slice oneB oneN oneC), (1, .slice otherB otherN otherC), (2, .slice tailB tailN tailC), (7, .pointer ra), (9, .int .u64 x_2), (10, .int .u64 x_3), (11, .int .u64 x_4), (12, .int .i64 nv), (13, .slice oneB oneN oneC), (14, .int .u64 x_3), (63, .bool (nv == 1))] (fun w => by kernel_rfl) ?_
        refine N_end (by kernel_rfl) ?_
        refine S_then ?_
        obtain ⟨J_2, h, j20⟩ := h
        refine S_join (σ := (Option Addr) × Nat × Nat × Int) (fun s_ => [(0, .slice oneB oneN oneC), (1, .slice otherB otherN otherC), (2, .slice tailB tailN tailC), (7, .pointer ra), (9, .int .u64 x_2), (10, .int .u64 x_3), (11, .int .u64 x_4), (12, .int .i64 nv), (13, .slice s_.1 s_.2.1 s_.2.2.1), (14, .int .u64 s_.2.2.2)]) (fun s_ H => J_2 s_.1 s_.2.1 s_.2.2.1 s_.2.2.2 H) ?_ ?_
        · rintro ⟨lB, lN, lC, wv⟩ H8 j21
          replace h := j20 lB lN lC wv H8 j21
          refine S_sub [(0, .slice oneB oneN oneC), (1, .slice otherB otherN otherC), (2, .slice tailB tailN tailC), (7, .pointer ra), (9, .int .u64 x_2), (10, .int .u64 x_3), (11, .int .u64 x_4), (12, .int .i64 nv), (13, .slice lB lN lC), (14, .int .u64 wv)] (sb (by kernel_rfl)) ?_
          refine S_then ?_
          refine S_seq morainelaw20_FrameShares.k40 morainelaw20_FrameShares.k41 (by kernel_rfl) ?_
          refine S_region 12 (Code.ops morainelaw20_FrameShares.k40) (by kernel_rfl) ?_
          refine N_new (some 66) (fun b => .slice (some (Addr.mk b 0 none)) 0 0) (.cells #[] 33) (fun w => by kernel_rfl) ?_
          intro b H9 e22 e23
          replace h := h b H9 e22 e23
          refine ⟨[(0, .slice oneB oneN oneC), (1, .slice otherB otherN otherC), (2, .slice tailB tailN tailC), (7, .pointer ra), (9, .int .u64 x_2), (10, .int .u64 x_3), (11, .int .u64 x_4), (12, .int .i64 nv), (13, .slice lB lN lC), (14, .int .u64 wv), (66, .slice (some (Addr.mk b 0 none)) 0 0)], ps (by kernel_rfl), ?_⟩
          refine N_run 1 [(0, .slice oneB oneN oneC), (1, .slice otherB otherN otherC), (2, .slice tailB tailN tailC), (7, .pointer ra), (9, .int .u64 x_2), (10, .int .u64 x_3), (11, .int .u64 x_4), (12, .int .i64 nv), (13, .slice lB lN lC), (14, .int .u64 wv), (66, .slice (some (Addr.mk b 0 none)) 0 0), (67, .slice tailB tailN tailC)] (fun w => by kernel_rfl) ?_
          refine N_op (some 68) (appendN #[22, 22] 22 #[.slice (some (Addr.mk b 0 none)) 0 0, .slice tailB tailN tailC]) _ (fun w => by kernel_rfl) (ss_append (T := 33) (sz := 1) (bytes := 2) (zero := .int .u16 0) Try.underlying22 Try.underlying22 rfl (show Try.prog.info? 33 = some Try.t33 from by kernel_rfl) (by kernel_rfl) (by kernel_rfl) (by decide) (by kernel_rfl) h) ?_
          rintro _ H10 ⟨ap, apC, rfl, h⟩
          refine ⟨[(0, .slice oneB oneN oneC), (1, .slice otherB otherN otherC), (2, .slice tailB tailN tailC), (7, .pointer ra), (9, .int .u64 x_2), (10, .int .u64 x_3), (11, .int .u64 x_4), (12, .int .i64 nv), (13, .slice lB lN lC), (14, .int .u64 wv), (68, .slice ap (0 + tailN) apC)], ps (by kernel_rfl), ?_⟩
          refine N_run 1 [(0, .slice oneB oneN oneC), (1, .slice otherB otherN otherC), (2, .slice tailB tailN tailC), (7, .pointer ra), (9, .int .u64 x_2), (10, .int .u64 x_3), (11, .int .u64 x_4), (12, .int .i64 nv), (14, .int .u64 wv), (68, .slice ap (0 + tailN) apC), (69, .slice lB lN lC)] (fun w => by kernel_rfl) ?_
          refine N_op (some 70) (appendN #[22, 22] 22 #[.slice ap (0 + tailN) apC, .slice lB lN lC]) _ (fun w => by kernel_rfl) (ss_append (T := 33) (sz := 1) (bytes := 2) (zero := .int .u16 0) Try.underlying22 Try.underlying22 rfl (show Try.prog.info? 33 = some Try.t33 from by kernel_rfl) (by kernel_rfl) (by kernel_rfl) (by decide) (by kernel_rfl) h) ?_
          rintro _ H11 ⟨ap_2, apC_2, rfl, h⟩
          refine ⟨[(0, .slice oneB oneN oneC), (1, .slice otherB otherN otherC), (2, .slice tailB tailN tailC), (7, .pointer ra), (9, .int .u64 x_2), (10, .int .u64 x_3), (11, .int .u64 x_4), (12, .int .i64 nv), (14, .int .u64 wv), (70, .slice ap_2 ((0 + tailN) + lN) apC_2)], ps (by kernel_rfl), ?_⟩
          refine N_run 1 [(0, .slice oneB oneN oneC), (1, .slice otherB otherN otherC), (2, .slice tailB tailN tailC), (7, .pointer ra), (9, .int .u64 x_2), (10, .int .u64 x_3), (11, .int .u64 x_4), (12, .int .i64 nv), (14, .int .u64 wv), (15, .slice ap_2 ((0 + tailN) + lN) apC_2)] (fun w => by kernel_rfl) ?_
          refine N_end (by kernel_rfl) ?_
          refine S_then ?_
          refine S_seq morainelaw20_FrameShares.k42 morainelaw20_FrameShares.k43 (by kernel_rfl) ?_
          refine S_seq morainelaw20_FrameShares.k44 morainelaw20_FrameShares.k45 (by kernel_rfl) ?_
          refine S_region 13 (Code.ops morainelaw20_FrameShares.k44) (by kernel_rfl) ?_
          refine N_run 4 [(0, .slice oneB oneN oneC), (1, .slice otherB otherN otherC), (2, .slice tailB tailN tailC), (7, .pointer ra), (9, .int .u64 x_2), (10, .int .u64 x_3), (11, .int .u64 x_4), (12, .int .i64 nv), (14, .int .u64 wv), (15, .slice ap_2 ((0 + tailN) + lN) apC_2), (16, .int .i64 (IntKind.wrap .i64 ((((0 + tailN) + lN) : Int) - 1)))] (fun w => by kernel_rfl) ?_
          refine N_end (by kernel_rfl) ?_
          refine S_then ?_
          refine S_block 2 morainelaw20_FrameShares.k46 (by kernel_rfl) ?_
          obtain ⟨I48, m48, i24, i25⟩ := h
          refine S_loop (x := morainelaw20_FrameShares.k47) (σ := Int × Int) (fun s_ => [(0, .slice oneB oneN oneC), (1, .slice otherB otherN otherC), (2, .slice tailB tailN tailC), (7, .pointer ra), (9, .int .u64 x_2), (10, .int .u64 x_3), (11, .int .u64 x_4), (12, .int .i64 nv), (14, .int .u64 s_.1), (15, .slice ap_2 ((0 + tailN) + lN) apC_2), (16, .int .i64 s_.2)]) (fun s_ H => I48 s_.1 s_.2 H) (fun s_ H => m48 s_.1 s_.2 H) ((wv, (IntKind.wrap .i64 ((((0 + tailN) + lN) : Int) - 1))) : Int × Int) (by kernel_rfl) i24 (sb (by kernel_rfl)) ?_
          rintro ⟨wv_2, i⟩ H12 i26
          have h := i25 wv_2 i H12 i26
          refine S_sub [(0, .slice oneB oneN oneC), (1, .slice otherB otherN otherC), (2, .slice tailB tailN tailC), (7, .pointer ra), (9, .int .u64 x_2), (10, .int .u64 x_3), (11, .int .u64 x_4), (12, .int .i64 nv), (14, .int .u64 wv_2), (15, .slice ap_2 ((0 + tailN) + lN) apC_2), (16, .int .i64 i)] (sb (by kernel_rfl)) ?_
          refine S_seq morainelaw20_FrameShares.k48 morainelaw20_FrameShares.k49 (by kernel_rfl) ?_
          refine S_seq morainelaw20_FrameShares.k50 morainelaw20_FrameShares.k51 (by kernel_rfl) ?_
          refine S_region 14 (Code.ops morainelaw20_FrameShares.k50) (by kernel_rfl) ?_
          refine N_run 2 [(0, .slice oneB oneN oneC), (1, .slice otherB otherN otherC), (2, .slice tailB tailN tailC), (7, .pointer ra), (9, .int .u64 x_2), (10, .int .u64 x_3), (11, .int .u64 x_4), (12, .int .i64 nv), (14, .int .u64 wv_2), (15, .slice ap_2 ((0 + tailN) + lN) apC_2), (16, .int .i64 i), (75, .bool (decide (i ≥ 0)))] (fun w => by kernel_rfl) ?_
          refine N_end (by kernel_rfl) ?_
          refine S_then ?_
          by_cases c27 : i ≥ 0
          · rw [if_pos c27] at h
            have b28 : (decide (i ≥ 0)) = true := decide_eq_true c27
            refine S_env [(0, .slice oneB oneN oneC), (1, .slice otherB otherN otherC), (2, .slice tailB tailN tailC), (7, .pointer ra), (9, .int .u64 x_2), (10, .int .u64 x_3), (11, .int .u64 x_4), (12, .int .i64 nv), (14, .int .u64 wv_2), (15, .slice ap_2 ((0 + tailN) + lN) apC_2), (16, .int .i64 i), (75, .bool true)] (by simp only [b28, Bool.not_true, Bool.not_false]) ?_
            clear b28
            refine S_condT (.tmp 75) morainelaw20_FrameShares.k52 morainelaw20_FrameShares.k53 (by kernel_rfl) (by kernel_rfl) ?_
            refine S_skip (by kernel_rfl) ?_
            refine S_then ?_
            refine S_seq morainelaw20_FrameShares.k54 morainelaw20_FrameShares.k55 (by kernel_rfl) ?_
            refine S_block 3 morainelaw20_FrameShares.k56 (by kernel_rfl) ?_
            refine S_seq morainelaw20_FrameShares.k57 morainelaw20_FrameShares.k58 (by kernel_rfl) ?_
            refine S_region 16 (Code.ops morainelaw20_FrameShares.k57) (by kernel_rfl) ?_
            refine N_run 2 [(0, .slice oneB oneN oneC), (1, .slice otherB otherN otherC), (2, .slice tailB tailN tailC), (7, .pointer ra), (9, .int .u64 x_2), (10, .int .u64 x_3), (11, .int .u64 x_4), (12, .int .i64 nv), (14, .int .u64 wv_2), (15, .slice ap_2 ((0 + tailN) + lN) apC_2), (16, .int .i64 i), (79, .pointer ra), (80, .int .u64 wv_2)] (fun w => by kernel_rfl) ?_
            refine N_call (some 81) 14 #[.pointer ra, .int .u64 wv_2] (fun w => by kernel_rfl) h ?_; clear h
            rintro v_6 H13 ⟨ra_2, rb_2, rfl, h⟩
            refine ⟨[(0, .slice oneB oneN oneC), (1, .slice otherB otherN otherC), (2, .slice tailB tailN tailC), (7, .pointer ra), (9, .int .u64 x_2), (10, .int .u64 x_3), (11, .int .u64 x_4), (12, .int .i64 nv), (14, .int .u64 wv_2), (15, .slice ap_2 ((0 + tailN) + lN) apC_2), (16, .int .i64 i), (81, .tuple #[.int .i64 ra_2, .int .i64 rb_2])], ps (by kernel_rfl), ?_⟩
            refine N_run 5 [(0, .slice oneB oneN oneC), (1, .slice otherB otherN otherC), (2, .slice tailB tailN tailC), (7, .pointer ra), (9, .int .u64 x_2), (10, .int .u64 x_3), (11, .int .u64 x_4), (12, .int .i64 nv), (14, .int .u64 wv_2), (15, .slice ap_2 ((0 + tailN) + lN) apC_2), (16, .int .i64 i), (17, .int .i64 ra_2), (18, .int .i64 rb_2)] (fun w => by kernel_rfl) ?_
            refine N_end (by kernel_rfl) ?_
            refine S_then ?_
            refine S_seq morainelaw20_FrameShares.k59 morainelaw20_FrameShares.k60 (by kernel_rfl) ?_
            refine S_seq morainelaw20_FrameShares.k61 morainelaw20_FrameShares.k62 (by kernel_rfl) ?_
            refine S_region 17 (Code.ops morainelaw20_FrameShares.k61) (by kernel_rfl) ?_
            refine N_run 3 [(0, .slice oneB oneN oneC), (1, .slice otherB otherN otherC), (2, .slice tailB tailN tailC), (7, .pointer ra), (9, .int .u64 x_2), (10, .int .u64 x_3), (11, .int .u64 x_4), (12, .int .i64 nv), (14, .int .u64 wv_2), (15, .slice ap_2 ((0 + tailN) + lN) apC_2), (16, .int .i64 i), (17, .int .i64 ra_2), (86, .bool (rb_2 != 0))] (fun w => by kernel_rfl) ?_
            by_cases c29 : rb_2 = 0
            · rw [if_pos c29] at h
              have b30 : (rb_2 != 0) = false := bne_eq_false_iff_eq.mpr c29
              refine N_env [(0, .slice oneB oneN oneC), (1, .slice otherB otherN otherC), (2, .slice tailB tailN tailC), (7, .pointer ra), (9, .int .u64 x_2), (10, .int .u64 x_3), (11, .int .u64 x_4), (12, .int .i64 nv), (14, .int .u64 wv_2), (15, .slice ap_2 ((0 + tailN) + lN) apC_2), (16, .int .i64 i), (17, .int .i64 ra_2), (86, .bool false)] (by simp only [b30, Bool.not_true, Bool.not_false]) ?_
              clear b30
              refine N_run 3 [(0, .slice oneB oneN oneC), (1, .slice otherB otherN otherC), (2, .slice tailB tailN tailC), (7, .pointer ra), (9, .int .u64 x_2), (10, .int .u64 x_3), (11, .int .u64 x_4), (12, .int .i64 nv), (14, .int .u64 wv_2), (15, .slice ap_2 ((0 + tailN) + lN) apC_2), (16, .int .i64 i), (86, .bool false), (87, .int .i64 ra_2), (88, .slice ap_2 ((0 + tailN) + lN) apC_2), (89, .int .i64 i)] (fun w => by kernel_rfl) ?_
              obtain ⟨ap2A, rfl, h⟩ := h
              obtain ⟨q31, h⟩ := h
              refine N_val (some 90) (indexAtN 22 (.slice (some ap2A) ((0 + tailN) + lN) apC_2) (.int .i64 i)) (.pointer (some (ap2A.add (Int.toNat i * 1)))) (fun w => by kernel_rfl) (fun w _ => indexAt_run (P := Try.prog) (t := 22) (elem := 33) (sz := 1) (a := ap2A) (len := ((0 + tailN) + lN)) (cap := apC_2) (k := .i64) (i := i) Try.underlying22 (fun w => by kernel_rfl) q31.1 q31.2 w) [(0, .slice oneB oneN oneC), (1, .slice otherB otherN otherC), (2, .slice tailB tailN tailC), (7, .pointer ra), (9, .int .u64 x_2), (10, .int .u64 x_3), (11, .int .u64 x_4), (12, .int .i64 nv), (14, .int .u64 wv_2), (15, .slice (some ap2A) ((0 + tailN) + lN) apC_2), (16, .int .i64 i), (86, .bool false), (87, .int .i64 ra_2), (90, .pointer (some (ap2A.add (Int.toNat i * 1))))] (ps (by kernel_rfl)) ?_
              obtain ⟨x_5, q32, h⟩ := h
              refine N_val (some 91) (loadN 33 (.pointer (some (ap2A.add (Int.toNat i * 1))))) (.int .u16 x_5) (fun w => by kernel_rfl) (loadN_run (loadOK_one (fun w => by kernel_rfl) q32)) [(0, .slice oneB oneN oneC), (1, .slice otherB otherN otherC), (2, .slice tailB tailN tailC), (7, .pointer ra), (9, .int .u64 x_2), (10, .int .u64 x_3), (11, .int .u64 x_4), (12, .int .i64 nv), (14, .int .u64 wv_2), (15, .slice (some ap2A) ((0 + tailN) + lN) apC_2), (16, .int .i64 i), (86, .bool false), (87, .int .i64 ra_2), (91, .int .u16 x_5)] (ps (by kernel_rfl)) ?_
              refine N_run 4 [(0, .slice oneB oneN oneC), (1, .slice otherB otherN otherC), (2, .slice tailB tailN tailC), (7, .pointer ra), (9, .int .u64 x_2), (10, .int .u64 x_3), (11, .int .u64 x_4), (12, .int .i64 nv), (14, .int .u64 wv_2), (15, .slice (some ap2A) ((0 + tailN) + lN) apC_2), (16, .int .i64 i), (95, .bool (ra_2 != (IntKind.wrap .i64 x_5)))] (fun w => by kernel_rfl) ?_
              refine N_cut [(0, .slice oneB oneN oneC), (1, .slice otherB otherN otherC), (2, .slice tailB tailN tailC), (7, .pointer ra), (9, .int .u64 x_2), (10, .int .u64 x_3), (11, .int .u64 x_4), (12, .int .i64 nv), (14, .int .u64 wv_2), (15, .slice (some ap2A) ((0 + tailN) + lN) apC_2), (16, .int .i64 i), (112, .bool ((ra_2 != (IntKind.wrap .i64 x_5)) || (((decide (i < (tailN : Int))) && (i == (IntKind.wrap .i64 ((tailN : Int) - 1)))) && (wv_2 != x_2))))] ?_ ?_
              · refine S_then ?_
                by_cases c39 : ((ra_2 != (IntKind.wrap .i64 x_5)) || (((decide (i < (tailN : Int))) && (i == (IntKind.wrap .i64 ((tailN : Int) - 1)))) && (wv_2 != x_2))) = true
                · rw [if_pos c39] at h
                  have b40 : ((ra_2 != (IntKind.wrap .i64 x_5)) || (((decide (i < (tailN : Int))) && (i == (IntKind.wrap .i64 ((tailN : Int) - 1)))) && (wv_2 != x_2))) = true := c39
                  refine S_env [(0, .slice oneB oneN oneC), (1, .slice otherB otherN otherC), (2, .slice tailB tailN tailC), (7, .pointer ra), (9, .int .u64 x_2), (10, .int .u64 x_3), (11, .int .u64 x_4), (12, .int .i64 nv), (14, .int .u64 wv_2), (15, .slice (some ap2A) ((0 + tailN) + lN) apC_2), (16, .int .i64 i), (112, .bool true)] (by simp only [b40, Bool.not_true, Bool.not_false]) ?_
                  clear b40
                  refine S_condT (.tmp 112) morainelaw20_FrameShares.k63 morainelaw20_FrameShares.k64 (by kernel_rfl) (by kernel_rfl) ?_
                  refine S_seq morainelaw20_FrameShares.k65 morainelaw20_FrameShares.k66 (by kernel_rfl) ?_
                  refine S_region 18 (Code.ops morainelaw20_FrameShares.k65) (by kernel_rfl) ?_
                  refine N_run 1 [(6, .bool false)] (fun w => by kernel_rfl) ?_
                  refine N_end (by kernel_rfl) ?_
                  refine S_then ?_
                  refine S_ret (by kernel_rfl) ?_
                  show At _ _ _ _ (Q .ret)
                  exact S_done (fn := Try.f3) [.bool false] hQ (show ResOK _ _ _ [.tmp 6] _ from .tmp (by kernel_rfl) (.nil)) h
                · rw [if_neg c39] at h
                  have b40 : ((ra_2 != (IntKind.wrap .i64 x_5)) || (((decide (i < (tailN : Int))) && (i == (IntKind.wrap .i64 ((tailN : Int) - 1)))) && (wv_2 != x_2))) = false := eq_false_of_ne_true c39
                  refine S_env [(0, .slice oneB oneN oneC), (1, .slice otherB otherN otherC), (2, .slice tailB tailN tailC), (7, .pointer ra), (9, .int .u64 x_2), (10, .int .u64 x_3), (11, .int .u64 x_4), (12, .int .i64 nv), (14, .int .u64 wv_2), (15, .slice (some ap2A) ((0 + tailN) + lN) apC_2), (16, .int .i64 i), (112, .bool false)] (by simp only [b40, Bool.not_true, Bool.not_false]) ?_
                  clear b40
                  refine S_condF (.tmp 112) morainelaw20_FrameShares.k63 morainelaw20_FrameShares.k64 (by kernel_rfl) (by kernel_rfl) ?_
                  refine S_skip (by kernel_rfl) ?_
                  refine S_then ?_
                  refine S_seq morainelaw20_FrameShares.k67 morainelaw20_FrameShares.k68 (by kernel_rfl) ?_
                  refine S_region 19 (Code.ops morainelaw20_FrameShares.k67) (by kernel_rfl) ?_
                  refine N_run 2 [(0, .slice oneB oneN oneC), (1, .slice otherB otherN otherC), (2, .slice tailB tailN tailC), (7, .pointer ra), (9, .int .u64 x_2), (10, .int .u64 x_3), (11, .int .u64 x_4), (12, .int .i64 nv), (15, .slice (some ap2A) ((0 + tailN) + lN) apC_2), (16, .int .i64 i), (114, .pointer ra), (115, .int .u64 wv_2)] (fun w => by kernel_rfl) ?_
                  refine N_call (some 116) 15 #[.pointer ra, .int .u64 wv_2] (fun w => by kernel_rfl) h ?_; clear h
                  rintro v_7 H14 ⟨ra_3, rb_3, rfl, h⟩
                  refine ⟨[(0, .slice oneB oneN oneC), (1, .slice otherB otherN otherC), (2, .slice tailB tailN tailC), (7, .pointer ra), (9, .int .u64 x_2), (10, .int .u64 x_3), (11, .int .u64 x_4), (12, .int .i64 nv), (15, .slice (some ap2A) ((0 + tailN) + lN) apC_2), (16, .int .i64 i), (116, .tuple #[.int .u64 ra_3, .int .i64 rb_3])], ps (by kernel_rfl), ?_⟩
                  refine N_run 5 [(0, .slice oneB oneN oneC), (1, .slice otherB otherN otherC), (2, .slice tailB tailN tailC), (7, .pointer ra), (9, .int .u64 x_2), (10, .int .u64 x_3), (11, .int .u64 x_4), (12, .int .i64 nv), (14, .int .u64 ra_3), (15, .slice (some ap2A) ((0 + tailN) + lN) apC_2), (16, .int .i64 i), (18, .int .i64 rb_3)] (fun w => by kernel_rfl) ?_
                  refine N_end (by kernel_rfl) ?_
                  refine S_then ?_
                  refine S_seq morainelaw20_FrameShares.k69 morainelaw20_FrameShares.k70 (by kernel_rfl) ?_
                  refine S_region 20 (Code.ops morainelaw20_FrameShares.k69) (by kernel_rfl) ?_
                  refine N_run 2 [(0, .slice oneB oneN oneC), (1, .slice otherB otherN otherC), (2, .slice tailB tailN tailC), (7, .pointer ra), (9, .int .u64 x_2), (10, .int .u64 x_3), (11, .int .u64 x_4), (12, .int .i64 nv), (14, .int .u64 ra_3), (15, .slice (some ap2A) ((0 + tailN) + lN) apC_2), (16, .int .i64 i), (120, .bool (rb_3 != 0))] (fun w => by kernel_rfl) ?_
                  refine N_end (by kernel_rfl) ?_
                  refine S_then ?_
                  by_cases c41 : rb_3 = 0
                  · rw [if_pos c41] at h
                    have b42 : (rb_3 != 0) = false := bne_eq_false_iff_eq.mpr c41
                    refine S_env [(0, .slice oneB oneN oneC), (1, .slice otherB otherN otherC), (2, .slice tailB tailN tailC), (7, .pointer ra), (9, .int .u64 x_2), (10, .int .u64 x_3), (11, .int .u64 x_4), (12, .int .i64 nv), (14, .int .u64 ra_3), (15, .slice (some ap2A) ((0 + tailN) + lN) apC_2), (16, .int .i64 i), (120, .bool false)] (by simp only [b42, Bool.not_true, Bool.not_false]) ?_
                    clear b42
                    refine S_condF (.tmp 120) morainelaw20_FrameShares.k71 morainelaw20_FrameShares.k72 (by kernel_rfl) (by kernel_rfl) ?_
                    refine S_skip (by kernel_rfl) ?_
                    refine S_blockEnd ?_
                    refine S_then ?_
                    refine S_region 15 (Code.ops morainelaw20_FrameShares.k55) (by kernel_rfl) ?_
                    refine N_run 3 [(0, .slice oneB oneN oneC), (1, .slice otherB otherN otherC), (2, .slice tailB tailN tailC), (7, .pointer ra), (9, .int .u64 x_2), (10, .int .u64 x_3), (11, .int .u64 x_4), (12, .int .i64 nv), (14, .int .u64 ra_3), (15, .slice (some ap2A) ((0 + tailN) + lN) apC_2), (16, .int .i64 (IntKind.wrap .i64 (i - 1)))] (fun w => by kernel_rfl) ?_
                    refine N_end (by kernel_rfl) ?_
                    refine S_then ?_
                    exact S_round ((ra_3, (IntKind.wrap .i64 (i - 1))) : Int × Int) (sb (by kernel_rfl)) h
                  · rw [if_neg c41] at h
                    have b42 : (rb_3 != 0) = true := bne_iff_ne.mpr c41
                    refine S_env [(0, .slice oneB oneN oneC), (1, .slice otherB otherN otherC), (2, .slice tailB tailN tailC), (7, .pointer ra), (9, .int .u64 x_2), (10, .int .u64 x_3), (11, .int .u64 x_4), (12, .int .i64 nv), (14, .int .u64 ra_3), (15, .slice (some ap2A) ((0 + tailN) + lN) apC_2), (16, .int .i64 i), (120, .bool true)] (by simp only [b42, Bool.not_true, Bool.not_false]) ?_
                    clear b42
                    refine S_condT (.tmp 120) morainelaw20_FrameShares.k71 morainelaw20_FrameShares.k72 (by kernel_rfl) (by kernel_rfl) ?_
                    refine S_seq morainelaw20_FrameShares.k73 morainelaw20_FrameShares.k74 (by kernel_rfl) ?_
                    refine S_region 21 (Code.ops morainelaw20_FrameShares.k73) (by kernel_rfl) ?_
                    refine N_run 1 [(6, .bool false)] (fun w => by kernel_rfl) ?_
                    refine N_end (by kernel_rfl) ?_
                    refine S_then ?_
                    refine S_ret (by kernel_rfl) ?_
                    show At _ _ _ _ (Q .ret)
                    exact S_done (fn := Try.f3) [.bool false] hQ (show ResOK _ _ _ [.tmp 6] _ from .tmp (by kernel_rfl) (.nil)) h
              · intro hk
                refine N_sub [(0, .slice oneB oneN oneC), (1, .slice otherB otherN otherC), (2, .slice tailB tailN tailC), (7, .pointer ra), (9, .int .u64 x_2), (10, .int .u64 x_3), (11, .int .u64 x_4), (12, .int .i64 nv), (14, .int .u64 wv_2), (15, .slice (some ap2A) ((0 + tailN) + lN) apC_2), (16, .int .i64 i), (95, .bool (ra_2 != (IntKind.wrap .i64 x_5)))] (sb (by kernel_rfl)) ?_
                by_cases c33 : ra_2 = (IntKind.wrap .i64 x_5)
                · have b34 : (ra_2 != (IntKind.wrap .i64 x_5)) = false := bne_eq_false_iff_eq.mpr c33
                  refine N_env [(0, .slice oneB oneN oneC), (1, .slice otherB otherN otherC), (2, .slice tailB tailN tailC), (7, .pointer ra), (9, .int .u64 x_2), (10, .int .u64 x_3), (11, .int .u64 x_4), (12, .int .i64 nv), (14, .int .u64 wv_2), (15, .slice (some ap2A) ((0 + tailN) + lN) apC_2), (16, .int .i64 i), (95, .bool false)] (by simp only [b34, Bool.not_true, Bool.not_false]) ?_
                  refine N_run 5 [(0, .slice oneB oneN oneC), (1, .slice otherB otherN otherC), (2, .slice tailB tailN tailC), (7, .pointer ra), (9, .int .u64 x_2), (10, .int .u64 x_3), (11, .int .u64 x_4), (12, .int .i64 nv), (14, .int .u64 wv_2), (15, .slice (some ap2A) ((0 + tailN) + lN) apC_2), (16, .int .i64 i), (95, .bool false), (100, .bool (decide (i < (tailN : Int))))] (fun w => by kernel_rfl) ?_
                  by_cases c35 : i < (tailN : Int)
                  · have b36 : (decide (i < (tailN : Int))) = true := decide_eq_true c35
                    refine N_env [(0, .slice oneB oneN oneC), (1, .slice otherB otherN otherC), (2, .slice tailB tailN tailC), (7, .pointer ra), (9, .int .u64 x_2), (10, .int .u64 x_3), (11, .int .u64 x_4), (12, .int .i64 nv), (14, .int .u64 wv_2), (15, .slice (some ap2A) ((0 + tailN) + lN) apC_2), (16, .int .i64 i), (95, .bool false), (100, .bool true)] (by simp only [b36, Bool.not_true, Bool.not_false]) ?_
                    refine N_run 7 [(0, .slice oneB oneN oneC), (1, .slice otherB otherN otherC), (2, .slice tailB tailN tailC), (7, .pointer ra), (9, .int .u64 x_2), (10, .int .u64 x_3), (11, .int .u64 x_4), (12, .int .i64 nv), (14, .int .u64 wv_2), (15, .slice (some ap2A) ((0 + tailN) + lN) apC_2), (16, .int .i64 i), (95, .bool false), (107, .bool (i == (IntKind.wrap .i64 ((tailN : Int) - 1))))] (fun w => by kernel_rfl) ?_
                    by_cases c37 : i = (IntKind.wrap .i64 ((tailN : Int) - 1))
                    · have b38 : (i == (IntKind.wrap .i64 ((tailN : Int) - 1))) = true := beq_iff_eq.mpr c37
                      refine N_env [(0, .slice oneB oneN oneC), (1, .slice otherB otherN otherC), (2, .slice tailB tailN tailC), (7, .pointer ra), (9, .int .u64 x_2), (10, .int .u64 x_3), (11, .int .u64 x_4), (12, .int .i64 nv), (14, .int .u64 wv_2), (15, .slice (some ap2A) ((0 + tailN) + lN) apC_2), (16, .int .i64 i), (95, .bool false), (107, .bool true)] (by simp only [b38, Bool.not_true, Bool.not_false]) ?_
                      refine N_run 5 [(0, .slice oneB oneN oneC), (1, .slice otherB otherN otherC), (2, .slice tailB tailN tailC), (7, .pointer ra), (9, .int .u64 x_2), (10, .int .u64 x_3), (11, .int .u64 x_4), (12, .int .i64 nv), (14, .int .u64 wv_2), (15, .slice (some ap2A) ((0 + tailN) + lN) apC_2), (16, .int .i64 i), (112, .bool (wv_2 != x_2))] (fun w => by kernel_rfl) ?_
                      refine N_end (by kernel_rfl) ?_
                      refine S_env [(0, .slice oneB oneN oneC), (1, .slice otherB otherN otherC), (2, .slice tailB tailN tailC), (7, .pointer ra), (9, .int .u64 x_2), (10, .int .u64 x_3), (11, .int .u64 x_4), (12, .int .i64 nv), (14, .int .u64 wv_2), (15, .slice (some ap2A) ((0 + tailN) + lN) apC_2), (16, .int .i64 i), (112, .bool ((ra_2 != (IntKind.wrap .i64 x_5)) || (((decide (i < (tailN : Int))) && (i == (IntKind.wrap .i64 ((tailN : Int) - 1)))) && (wv_2 != x_2))))] (by simp only [b34, b36, b38, Bool.true_or, Bool.false_or, Bool.or_true, Bool.or_false, Bool.true_and, Bool.false_and, Bool.and_true, Bool.and_false, Bool.not_true, Bool.not_false, cond_true, cond_false]) ?_
                      exact hk
                    · have b38 : (i == (IntKind.wrap .i64 ((tailN : Int) - 1))) = false := beq_eq_false_iff_ne.mpr c37
                      refine N_env [(0, .slice oneB oneN oneC), (1, .slice otherB otherN otherC), (2, .slice tailB tailN tailC), (7, .pointer ra), (9, .int .u64 x_2), (10, .int .u64 x_3), (11, .int .u64 x_4), (12, .int .i64 nv), (14, .int .u64 wv_2), (15, .slice (some ap2A) ((0 + tailN) + lN) apC_2), (16, .int .i64 i), (95, .bool false), (107, .bool false)] (by simp only [b38, Bool.not_true, Bool.not_false]) ?_
                      refine N_run 5 [(0, .slice oneB oneN oneC), (1, .slice otherB otherN otherC), (2, .slice tailB tailN tailC), (7, .pointer ra), (9, .int .u64 x_2), (10, .int .u64 x_3), (11, .int .u64 x_4), (12, .int .i64 nv), (14, .int .u64 wv_2), (15, .slice (some ap2A) ((0 + tailN) + lN) apC_2), (16, .int .i64 i), (112, .bool false)] (fun w => by kernel_rfl) ?_
                      refine N_end (by kernel_rfl) ?_
                      refine S_env [(0, .slice oneB oneN oneC), (1, .slice otherB otherN otherC), (2, .slice tailB tailN tailC), (7, .pointer ra), (9, .int .u64 x_2), (10, .int .u64 x_3), (11, .int .u64 x_4), (12, .int .i64 nv), (14, .int .u64 wv_2), (15, .slice (some ap2A) ((0 + tailN) + lN) apC_2), (16, .int .i64 i), (112, .bool ((ra_2 != (IntKind.wrap .i64 x_5)) || (((decide (i < (tailN : Int))) && (i == (IntKind.wrap .i64 ((tailN : Int) - 1)))) && (wv_2 != x_2))))] (by simp only [b34, b36, b38, Bool.true_or, Bool.false_or, Bool.or_true, Bool.or_false, Bool.true_and, Bool.false_and, Bool.and_true, Bool.and_false, Bool.not_true, Bool.not_false, cond_true, cond_false]) ?_
                      exact hk
                  · have b36 : (decide (i < (tailN : Int))) = false := decide_eq_false c35
                    refine N_env [(0, .slice oneB oneN oneC), (1, .slice otherB otherN otherC), (2, .slice tailB tailN tailC), (7, .pointer ra), (9, .int .u64 x_2), (10, .int .u64 x_3), (11, .int .u64 x_4), (12, .int .i64 nv), (14, .int .u64 wv_2), (15, .slice (some ap2A) ((0 + tailN) + lN) apC_2), (16, .int .i64 i), (95, .bool false), (100, .bool false)] (by simp only [b36, Bool.not_true, Bool.not_false]) ?_
                    refine N_run 12 [(0, .slice oneB oneN oneC), (1, .slice otherB otherN otherC), (2, .slice tailB tailN tailC), (7, .pointer ra), (9, .int .u64 x_2), (10, .int .u64 x_3), (11, .int .u64 x_4), (12, .int .i64 nv), (14, .int .u64 wv_2), (15, .slice (some ap2A) ((0 + tailN) + lN) apC_2), (16, .int .i64 i), (112, .bool false)] (fun w => by kernel_rfl) ?_
                    refine N_end (by kernel_rfl) ?_
                    refine S_env [(0, .slice oneB oneN oneC), (1, .slice otherB otherN otherC), (2, .slice tailB tailN tailC), (7, .pointer ra), (9, .int .u64 x_2), (10, .int .u64 x_3), (11, .int .u64 x_4), (12, .int .i64 nv), (14, .int .u64 wv_2), (15, .slice (some ap2A) ((0 + tailN) + lN) apC_2), (16, .int .i64 i), (112, .bool ((ra_2 != (IntKind.wrap .i64 x_5)) || (((decide (i < (tailN : Int))) && (i == (IntKind.wrap .i64 ((tailN : Int) - 1)))) && (wv_2 != x_2))))] (by simp only [b34, b36, Bool.true_or, Bool.false_or, Bool.or_true, Bool.or_false, Bool.true_and, Bool.false_and, Bool.and_true, Bool.and_false, Bool.not_true, Bool.not_false, cond_true, cond_false]) ?_
                    exact hk
                · have b34 : (ra_2 != (IntKind.wrap .i64 x_5)) = true := bne_iff_ne.mpr c33
                  refine N_env [(0, .slice oneB oneN oneC), (1, .slice otherB otherN otherC), (2, .slice tailB tailN tailC), (7, .pointer ra), (9, .int .u64 x_2), (10, .int .u64 x_3), (11, .int .u64 x_4), (12, .int .i64 nv), (14, .int .u64 wv_2), (15, .slice (some ap2A) ((0 + tailN) + lN) apC_2), (16, .int .i64 i), (95, .bool true)] (by simp only [b34, Bool.not_true, Bool.not_false]) ?_
                  refine N_run 17 [(0, .slice oneB oneN oneC), (1, .slice otherB otherN otherC), (2, .slice tailB tailN tailC), (7, .pointer ra), (9, .int .u64 x_2), (10, .int .u64 x_3), (11, .int .u64 x_4), (12, .int .i64 nv), (14, .int .u64 wv_2), (15, .slice (some ap2A) ((0 + tailN) + lN) apC_2), (16, .int .i64 i), (112, .bool true)] (fun w => by kernel_rfl) ?_
                  refine N_end (by kernel_rfl) ?_
                  refine S_env [(0, .slice oneB oneN oneC), (1, .slice otherB otherN otherC), (2, .slice tailB tailN tailC), (7, .pointer ra), (9, .int .u64 x_2), (10, .int .u64 x_3), (11, .int .u64 x_4), (12, .int .i64 nv), (14, .int .u64 wv_2), (15, .slice (some ap2A) ((0 + tailN) + lN) apC_2), (16, .int .i64 i), (112, .bool ((ra_2 != (IntKind.wrap .i64 x_5)) || (((decide (i < (tailN : Int))) && (i == (IntKind.wrap .i64 ((tailN : Int) - 1)))) && (wv_2 != x_2))))] (by simp only [b34, Bool.true_or, Bool.false_or, Bool.or_true, Bool.or_false, Bool.true_and, Bool.false_and, Bool.and_true, Bool.and_false, Bool.not_true, Bool.not_false, cond_true, cond_false]) ?_
                  exact hk
            · rw [if_neg c29] at h
              have b30 : (rb_2 != 0) = true := bne_iff_ne.mpr c29
              refine N_env [(0, .slice oneB oneN oneC), (1, .slice otherB otherN otherC), (2, .slice tailB tailN tailC), (7, .pointer ra), (9, .int .u64 x_2), (10, .int .u64 x_3), (11, .int .u64 x_4), (12, .int .i64 nv), (14, .int .u64 wv_2), (15, .slice ap_2 ((0 + tailN) + lN) apC_2), (16, .int .i64 i), (17, .int .i64 ra_2), (86, .bool true)] (by simp only [b30, Bool.not_true, Bool.not_false]) ?_
              clear b30
              refine N_run 26 [(0, .slice oneB oneN oneC), (1, .slice otherB otherN otherC), (2, .slice tailB tailN tailC), (7, .pointer ra), (9, .int .u64 x_2), (10, .int .u64 x_3), (11, .int .u64 x_4), (12, .int .i64 nv), (14, .int .u64 wv_2), (15, .slice ap_2 ((0 + tailN) + lN) apC_2), (16, .int .i64 i), (112, .bool true)] (fun w => by kernel_rfl) ?_
              refine N_end (by kernel_rfl) ?_
              refine S_then ?_
              refine S_condT (.tmp 112) morainelaw20_FrameShares.k63 morainelaw20_FrameShares.k64 (by kernel_rfl) (by kernel_rfl) ?_
              refine S_seq morainelaw20_FrameShares.k65 morainelaw20_FrameShares.k66 (by kernel_rfl) ?_
              refine S_region 18 (Code.ops morainelaw20_FrameShares.k65) (by kernel_rfl) ?_
              refine N_run 1 [(6, .bool false)] (fun w => by kernel_rfl) ?_
              refine N_end (by kernel_rfl) ?_
              refine S_then ?_
              refine S_ret (by kernel_rfl) ?_
              show At _ _ _ _ (Q .ret)
              exact S_done (fn := Try.f3) [.bool false] hQ (show ResOK _ _ _ [.tmp 6] _ from .tmp (by kernel_rfl) (.nil)) h
          · rw [if_neg c27] at h
            have b28 : (decide (i ≥ 0)) = false := decide_eq_false c27
            refine S_env [(0, .slice oneB oneN oneC), (1, .slice otherB otherN otherC), (2, .slice tailB tailN tailC), (7, .pointer ra), (9, .int .u64 x_2), (10, .int .u64 x_3), (11, .int .u64 x_4), (12, .int .i64 nv), (14, .int .u64 wv_2), (15, .slice ap_2 ((0 + tailN) + lN) apC_2), (16, .int .i64 i), (75, .bool false)] (by simp only [b28, Bool.not_true, Bool.not_false]) ?_
            clear b28
            refine S_condF (.tmp 75) morainelaw20_FrameShares.k52 morainelaw20_FrameShares.k53 (by kernel_rfl) (by kernel_rfl) ?_
            refine S_exit 2 (by kernel_rfl) ?_
            refine S_exitThen ?_
            refine S_exitThen ?_
            refine S_exitHere ?_
            refine S_then ?_
            refine S_seq morainelaw20_FrameShares.k75 morainelaw20_FrameShares.k76 (by kernel_rfl) ?_
            refine S_region 22 (Code.ops morainelaw20_FrameShares.k75) (by kernel_rfl) ?_
            refine N_run 2 [(0, .slice oneB oneN oneC), (1, .slice otherB otherN otherC), (2, .slice tailB tailN tailC), (7, .pointer ra), (9, .int .u64 x_2), (10, .int .u64 x_3), (11, .int .u64 x_4), (12, .int .i64 nv), (122, .bool (wv_2 != 20))] (fun w => by kernel_rfl) ?_
            refine N_end (by kernel_rfl) ?_
            refine S_then ?_
            by_cases c43 : wv_2 = 20
            · rw [if_pos c43] at h
              have b44 : (wv_2 != 20) = false := bne_eq_false_iff_eq.mpr c43
              refine S_env [(0, .slice oneB oneN oneC), (1, .slice otherB otherN otherC), (2, .slice tailB tailN tailC), (7, .pointer ra), (9, .int .u64 x_2), (10, .int .u64 x_3), (11, .int .u64 x_4), (12, .int .i64 nv), (122, .bool false)] (by simp only [b44, Bool.not_true, Bool.not_false]) ?_
              clear b44
              refine S_condF (.tmp 122) morainelaw20_FrameShares.k77 morainelaw20_FrameShares.k78 (by kernel_rfl) (by kernel_rfl) ?_
              refine S_skip (by kernel_rfl) ?_
              refine S_blockEnd ?_
              refine S_then ?_
              refine S_region 8 (Code.ops morainelaw20_FrameShares.k30) (by kernel_rfl) ?_
              refine N_run 3 [(0, .slice oneB oneN oneC), (1, .slice otherB otherN otherC), (2, .slice tailB tailN tailC), (7, .pointer ra), (9, .int .u64 x_2), (10, .int .u64 x_3), (11, .int .u64 x_4), (12, .int .i64 (IntKind.wrap .i64 (nv + 1)))] (fun w => by kernel_rfl) ?_
              refine N_end (by kernel_rfl) ?_
              refine S_then ?_
              exact S_round ((IntKind.wrap .i64 (nv + 1)) : Int) (sb (by kernel_rfl)) h
            · rw [if_neg c43] at h
              have b44 : (wv_2 != 20) = true := bne_iff_ne.mpr c43
              refine S_env [(0, .slice oneB oneN oneC), (1, .slice otherB otherN otherC), (2, .slice tailB tailN tailC), (7, .pointer ra), (9, .int .u64 x_2), (10, .int .u64 x_3), (11, .int .u64 x_4), (12, .int .i64 nv), (122, .bool true)] (by simp only [b44, Bool.not_true, Bool.not_false]) ?_
              clear b44
              refine S_condT (.tmp 122) morainelaw20_FrameShares.k77 morainelaw20_FrameShares.k78 (by kernel_rfl) (by kernel_rfl) ?_
              refine S_seq morainelaw20_FrameShares.k79 morainelaw20_FrameShares.k80 (by kernel_rfl) ?_
              refine S_region 23 (Code.ops morainelaw20_FrameShares.k79) (by kernel_rfl) ?_
              refine N_run 1 [(6, .bool false)] (fun w => by kernel_rfl) ?_
              refine N_end (by kernel_rfl) ?_
              refine S_then ?_
              refine S_ret (by kernel_rfl) ?_
              show At _ _ _ _ (Q .ret)
              exact S_done (fn := Try.f3) [.bool false] hQ (show ResOK _ _ _ [.tmp 6] _ from .tmp (by kernel_rfl) (.nil)) h
        · by_cases c45 : nv = 1
          · rw [if_pos c45] at h
            have b46 : (nv == 1) = true := beq_iff_eq.mpr c45
            refine S_env [(0, .slice oneB oneN oneC), (1, .slice otherB otherN otherC), (2, .slice tailB tailN tailC), (7, .pointer ra), (9, .int .u64 x_2), (10, .int .u64 x_3), (11, .int .u64 x_4), (12, .int .i64 nv), (13, .slice oneB oneN oneC), (14, .int .u64 x_3), (63, .bool true)] (by simp only [b46, Bool.not_true, Bool.not_false]) ?_
            clear b46
            refine S_condT (.tmp 63) morainelaw20_FrameShares.k38 morainelaw20_FrameShares.k39 (by kernel_rfl) (by kernel_rfl) ?_
            refine S_region 11 (Code.ops morainelaw20_FrameShares.k38) (by kernel_rfl) ?_
            refine N_run 4 [(0, .slice oneB oneN oneC), (1, .slice otherB otherN otherC), (2, .slice tailB tailN tailC), (7, .pointer ra), (9, .int .u64 x_2), (10, .int .u64 x_3), (11, .int .u64 x_4), (12, .int .i64 nv), (13, .slice otherB otherN otherC), (14, .int .u64 x_4)] (fun w => by kernel_rfl) ?_
            refine N_end (by kernel_rfl) ?_
            refine S_then ?_
            exact S_meet ((otherB, otherN, otherC, x_4) : (Option Addr) × Nat × Nat × Int) (sb (by kernel_rfl)) h
          · rw [if_neg c45] at h
            have b46 : (nv == 1) = false := beq_eq_false_iff_ne.mpr c45
            refine S_env [(0, .slice oneB oneN oneC), (1, .slice otherB otherN otherC), (2, .slice tailB tailN tailC), (7, .pointer ra), (9, .int .u64 x_2), (10, .int .u64 x_3), (11, .int .u64 x_4), (12, .int .i64 nv), (13, .slice oneB oneN oneC), (14, .int .u64 x_3), (63, .bool false)] (by simp only [b46, Bool.not_true, Bool.not_false]) ?_
            clear b46
            refine S_condF (.tmp 63) morainelaw20_FrameShares.k38 morainelaw20_FrameShares.k39 (by kernel_rfl) (by kernel_rfl) ?_
            refine S_skip (by kernel_rfl) ?_
            refine S_then ?_
            exact S_meet ((oneB, oneN, oneC, x_3) : (Option Addr) × Nat × Nat × Int) (sb (by kernel_rfl)) h
      · rw [if_neg c17] at h
        have b18 : (decide (nv < 2)) = false := decide_eq_false c17
        refine S_env [(0, .slice oneB oneN oneC), (1, .slice otherB otherN otherC), (2, .slice tailB tailN tailC), (7, .pointer ra), (9, .int .u64 x_2), (10, .int .u64 x_3), (11, .int .u64 x_4), (12, .int .i64 nv), (57, .bool false)] (by simp only [b18, Bool.not_true, Bool.not_false]) ?_
        clear b18
        refine S_condF (.tmp 57) morainelaw20_FrameShares.k27 morainelaw20_FrameShares.k28 (by kernel_rfl) (by kernel_rfl) ?_
        refine S_exit 0 (by kernel_rfl) ?_
        refine S_exitThen ?_
        refine S_exitThen ?_
        refine S_exitHere ?_
        refine S_then ?_
        refine S_seq morainelaw20_FrameShares.k81 morainelaw20_FrameShares.k82 (by kernel_rfl) ?_
        refine S_region 24 (Code.ops morainelaw20_FrameShares.k81) (by kernel_rfl) ?_
        refine N_sub [] (sb (by kernel_rfl)) ?_
        refine N_call (some 123) 12 #[] (fun w => by kernel_rfl) h ?_; clear h
        rintro v_8 H15 ⟨x_6, rfl, h⟩
        refine ⟨[(123, .bool x_6)], ps (by kernel_rfl), ?_⟩
        refine N_run 1 [(6, .bool x_6)] (fun w => by kernel_rfl) ?_
        refine N_end (by kernel_rfl) ?_
        refine S_then ?_
        refine S_ret (by kernel_rfl) ?_
        show At _ _ _ _ (Q .ret)
        exact S_done (fn := Try.f3) [.bool x_6] hQ (show ResOK _ _ _ [.tmp 6] _ from .tmp (by kernel_rfl) (.nil)) h
  · intro hk
    refine N_run 3 [(0, .slice oneB oneN oneC), (1, .slice otherB otherN otherC), (2, .slice tailB tailN tailC), (7, .pointer ra), (8, .int .i64 rb), (25, .bool (rb != 0))] (fun w => by kernel_rfl) ?_
    by_cases c1 : rb = 0
    · have b2 : (rb != 0) = false := bne_eq_false_iff_eq.mpr c1
      refine N_env [(0, .slice oneB oneN oneC), (1, .slice otherB otherN otherC), (2, .slice tailB tailN tailC), (7, .pointer ra), (8, .int .i64 rb), (25, .bool false)] (by simp only [b2, Bool.not_true, Bool.not_false]) ?_
      refine N_run 5 [(0, .slice oneB oneN oneC), (1, .slice otherB otherN otherC), (2, .slice tailB tailN tailC), (7, .pointer ra), (8, .int .i64 rb), (30, .bool (decide ((oneN : Int) > 60)))] (fun w => by kernel_rfl) ?_
      by_cases c3 : (oneN : Int) > 60
      · have b4 : (decide ((oneN : Int) > 60)) = true := decide_eq_true c3
        refine N_env [(0, .slice oneB oneN oneC), (1, .slice otherB otherN otherC), (2, .slice tailB tailN tailC), (7, .pointer ra), (8, .int .i64 rb), (30, .bool true)] (by simp only [b4, Bool.not_true, Bool.not_false]) ?_
        refine N_run 9 [(0, .slice oneB oneN oneC), (1, .slice otherB otherN otherC), (2, .slice tailB tailN tailC), (7, .pointer ra), (8, .int .i64 rb), (39, .bool true)] (fun w => by kernel_rfl) ?_
        refine N_end (by kernel_rfl) ?_
        refine S_env [(0, .slice oneB oneN oneC), (1, .slice otherB otherN otherC), (2, .slice tailB tailN tailC), (7, .pointer ra), (8, .int .i64 rb), (39, .bool ((((rb != 0) || (decide ((oneN : Int) > 60))) || (decide ((otherN : Int) > 60))) || (decide ((tailN : Int) > 60))))] (by simp only [b2, b4, Bool.true_or, Bool.false_or, Bool.or_true, Bool.or_false, Bool.true_and, Bool.false_and, Bool.and_true, Bool.and_false, Bool.not_true, Bool.not_false, cond_true, cond_false]) ?_
        exact hk
      · have b4 : (decide ((oneN : Int) > 60)) = false := decide_eq_false c3
        refine N_env [(0, .slice oneB oneN oneC), (1, .slice otherB otherN otherC), (2, .slice tailB tailN tailC), (7, .pointer ra), (8, .int .i64 rb), (30, .bool false)] (by simp only [b4, Bool.not_true, Bool.not_false]) ?_
        refine N_run 5 [(0, .slice oneB oneN oneC), (1, .slice otherB otherN otherC), (2, .slice tailB tailN tailC), (7, .pointer ra), (8, .int .i64 rb), (35, .bool (decide ((otherN : Int) > 60)))] (fun w => by kernel_rfl) ?_
        by_cases c5 : (otherN : Int) > 60
        · have b6 : (decide ((otherN : Int) > 60)) = true := decide_eq_true c5
          refine N_env [(0, .slice oneB oneN oneC), (1, .slice otherB otherN otherC), (2, .slice tailB tailN tailC), (7, .pointer ra), (8, .int .i64 rb), (35, .bool true)] (by simp only [b6, Bool.not_true, Bool.not_false]) ?_
          refine N_run 4 [(0, .slice oneB oneN oneC), (1, .slice otherB otherN otherC), (2, .slice tailB tailN tailC), (7, .pointer ra), (8, .int .i64 rb), (39, .bool true)] (fun w => by kernel_rfl) ?_
          refine N_end (by kernel_rfl) ?_
          refine S_env [(0, .slice oneB oneN oneC), (1, .slice otherB otherN otherC), (2, .slice tailB tailN tailC), (7, .pointer ra), (8, .int .i64 rb), (39, .bool ((((rb != 0) || (decide ((oneN : Int) > 60))) || (decide ((otherN : Int) > 60))) || (decide ((tailN : Int) > 60))))] (by simp only [b2, b4, b6, Bool.true_or, Bool.false_or, Bool.or_true, Bool.or_false, Bool.true_and, Bool.false_and, Bool.and_true, Bool.and_false, Bool.not_true, Bool.not_false, cond_true, cond_false]) ?_
          exact hk
        · have b6 : (decide ((otherN : Int) > 60)) = false := decide_eq_false c5
          refine N_env [(0, .slice oneB oneN oneC), (1, .slice otherB otherN otherC), (2, .slice tailB tailN tailC), (7, .pointer ra), (8, .int .i64 rb), (35, .bool false)] (by simp only [b6, Bool.not_true, Bool.not_false]) ?_
          refine N_run 4 [(0, .slice oneB oneN oneC), (1, .slice otherB otherN otherC), (2, .slice tailB tailN tailC), (7, .pointer ra), (8, .int .i64 rb), (39, .bool (decide ((tailN : Int) > 60)))] (fun w => by kernel_rfl) ?_
          refine N_end (by kernel_rfl) ?_
          refine S_env [(0, .slice oneB oneN oneC), (1, .slice otherB otherN otherC), (2, .slice tailB tailN tailC), (7, .pointer ra), (8, .int .i64 rb), (39, .bool ((((rb != 0) || (decide ((oneN : Int) > 60))) || (decide ((otherN : Int) > 60))) || (decide ((tailN : Int) > 60))))] (by simp only [b2, b4, b6, Bool.true_or, Bool.false_or, Bool.or_true, Bool.or_false, Bool.true_and, Bool.false_and, Bool.and_true, Bool.and_false, Bool.not_true, Bool.not_false, cond_true, cond_false]) ?_
          exact hk
    · have b2 : (rb != 0) = true := bne_iff_ne.mpr c1
      refine N_env [(0, .slice oneB oneN oneC), (1, .slice otherB otherN otherC), (2, .slice tailB tailN tailC), (7, .pointer ra), (8, .int .i64 rb), (25, .bool true)] (by simp only [b2, Bool.not_true, Bool.not_false]) ?_
      refine N_run 14 [(0, .slice oneB oneN oneC), (1, .slice otherB otherN otherC), (2, .slice tailB tailN tailC), (7, .pointer ra), (8, .int .i64 rb), (39, .bool true)] (fun w => by kernel_rfl) ?_
      refine N_end (by kernel_rfl) ?_
      refine S_env [(0, .slice oneB oneN oneC), (1, .slice otherB otherN otherC), (2, .slice tailB tailN tailC), (7, .pointer ra), (8, .int .i64 rb), (39, .bool ((((rb != 0) || (decide ((oneN : Int) > 60))) || (decide ((otherN : Int) > 60))) || (decide ((tailN : Int) > 60))))] (by simp only [b2, Bool.true_or, Bool.false_or, Bool.or_true, Bool.or_false, Bool.true_and, Bool.false_and, Bool.and_true, Bool.and_false, Bool.not_true, Bool.not_false, cond_true, cond_false]) ?_
      exact hk

end Go.Proofs.Ytfohlkiikppefaa
