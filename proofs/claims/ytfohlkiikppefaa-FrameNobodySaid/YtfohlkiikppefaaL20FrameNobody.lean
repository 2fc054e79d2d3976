/-
  Written by a program of mine (gen.py): for functions of this translation a predicate transformer over heaps (.pt), and the proof that it is sound for the call (.link).
-/
import Derived.Test.YtfohlkiikppefaaFnsC
set_option linter.unusedSimpArgs false
set_option linter.unusedVariables false
set_option maxHeartbeats 1000000
namespace Go.Proofs.Ytfohlkiikppefaa
open Go
/-! moraine/morainelaw20.FrameNobody -/
noncomputable def morainelaw20_FrameNobody.k0 : Code := Func.code Try.f6
noncomputable def morainelaw20_FrameNobody.k1 : Code := Code.fa morainelaw20_FrameNobody.k0
noncomputable def morainelaw20_FrameNobody.k2 : Code := Code.fb morainelaw20_FrameNobody.k0
noncomputable def morainelaw20_FrameNobody.k3 : Code := Code.fa morainelaw20_FrameNobody.k2
noncomputable def morainelaw20_FrameNobody.k4 : Code := Code.fb morainelaw20_FrameNobody.k2
noncomputable def morainelaw20_FrameNobody.k5 : Code := Code.fa morainelaw20_FrameNobody.k4
noncomputable def morainelaw20_FrameNobody.k6 : Code := Code.fb morainelaw20_FrameNobody.k4
noncomputable def morainelaw20_FrameNobody.k7 : Code := Code.fa morainelaw20_FrameNobody.k6
noncomputable def morainelaw20_FrameNobody.k8 : Code := Code.fb morainelaw20_FrameNobody.k6
noncomputable def morainelaw20_FrameNobody.k9 : Code := Code.fa morainelaw20_FrameNobody.k7
noncomputable def morainelaw20_FrameNobody.k10 : Code := Code.fb morainelaw20_FrameNobody.k7
noncomputable def morainelaw20_FrameNobody.k11 : Code := Code.fa morainelaw20_FrameNobody.k10
noncomputable def morainelaw20_FrameNobody.k12 : Code := Code.fa morainelaw20_FrameNobody.k11
noncomputable def morainelaw20_FrameNobody.k13 : Code := Code.fa morainelaw20_FrameNobody.k12
noncomputable def morainelaw20_FrameNobody.k14 : Code := Code.fb morainelaw20_FrameNobody.k12
noncomputable def morainelaw20_FrameNobody.k15 : Code := Code.fa morainelaw20_FrameNobody.k13
noncomputable def morainelaw20_FrameNobody.k16 : Code := Code.fb morainelaw20_FrameNobody.k13
noncomputable def morainelaw20_FrameNobody.k17 : Code := Code.fa morainelaw20_FrameNobody.k16
noncomputable def morainelaw20_FrameNobody.k18 : Code := Code.fb morainelaw20_FrameNobody.k16
noncomputable def morainelaw20_FrameNobody.k19 : Code := Code.fa morainelaw20_FrameNobody.k14
noncomputable def morainelaw20_FrameNobody.k20 : Code := Code.fb morainelaw20_FrameNobody.k14
noncomputable def morainelaw20_FrameNobody.k21 : Code := Code.fa morainelaw20_FrameNobody.k19
noncomputable def morainelaw20_FrameNobody.k22 : Code := Code.fa morainelaw20_FrameNobody.k21
noncomputable def morainelaw20_FrameNobody.k23 : Code := Code.fb morainelaw20_FrameNobody.k21
noncomputable def morainelaw20_FrameNobody.k24 : Code := Code.fa morainelaw20_FrameNobody.k23
noncomputable def morainelaw20_FrameNobody.k25 : Code := Code.fb morainelaw20_FrameNobody.k23
noncomputable def morainelaw20_FrameNobody.k26 : Code := Code.fa morainelaw20_FrameNobody.k25
noncomputable def morainelaw20_FrameNobody.k27 : Code := Code.fb morainelaw20_FrameNobody.k25
noncomputable def morainelaw20_FrameNobody.k28 : Code := Code.fa morainelaw20_FrameNobody.k27
noncomputable def morainelaw20_FrameNobody.k29 : Code := Code.fb morainelaw20_FrameNobody.k27
noncomputable def morainelaw20_FrameNobody.k30 : Code := Code.fa morainelaw20_FrameNobody.k29
noncomputable def morainelaw20_FrameNobody.k31 : Code := Code.fb morainelaw20_FrameNobody.k29
noncomputable def morainelaw20_FrameNobody.k32 : Code := Code.fa morainelaw20_FrameNobody.k31
noncomputable def morainelaw20_FrameNobody.k33 : Code := Code.fb morainelaw20_FrameNobody.k31
noncomputable def morainelaw20_FrameNobody.k34 : Code := Code.fa morainelaw20_FrameNobody.k33
noncomputable def morainelaw20_FrameNobody.k35 : Code := Code.fb morainelaw20_FrameNobody.k33
noncomputable def morainelaw20_FrameNobody.k36 : Code := Code.fa morainelaw20_FrameNobody.k35
noncomputable def morainelaw20_FrameNobody.k37 : Code := Code.fb morainelaw20_FrameNobody.k35
noncomputable def morainelaw20_FrameNobody.k38 : Code := Code.fa morainelaw20_FrameNobody.k37
noncomputable def morainelaw20_FrameNobody.k39 : Code := Code.fb morainelaw20_FrameNobody.k37
noncomputable def morainelaw20_FrameNobody.k40 : Code := Code.fa morainelaw20_FrameNobody.k39
noncomputable def morainelaw20_FrameNobody.k41 : Code := Code.fb morainelaw20_FrameNobody.k39
noncomputable def morainelaw20_FrameNobody.k42 : Code := Code.fa morainelaw20_FrameNobody.k40
noncomputable def morainelaw20_FrameNobody.k43 : Code := Code.fb morainelaw20_FrameNobody.k40
noncomputable def morainelaw20_FrameNobody.k44 : Code := Code.fa morainelaw20_FrameNobody.k8
noncomputable def morainelaw20_FrameNobody.k45 : Code := Code.fb morainelaw20_FrameNobody.k8
def morainelaw20_FrameNobody.pt (wv : Int) (upv : Int) (i : Int) (H : Array Obj) (R : Value → Array Obj → Prop) : Prop :=
 ∀ (b : Nat) (H1 : Array Obj), b = H.size → H1 = H.push (.cells #[.pointer none, .slice none 0 0, .slice none 0 0, .int .u64 0] 60) →
 ∀ (b_2 : Nat) (H2 : Array Obj), b_2 = H1.size → H2 = H1.push (.cells #[.pointer none, .pointer (some (Addr.mk b 0 none))] 23) →
 ∃ (I13 : Int → Array Obj → Prop) (m13 : Int → Array Obj → Nat), I13 0 H2 ∧ ∀ (k : Int) (H3 : Array Obj), I13 k H3 →
 if k < (2 : Int) then (
  ((0 : Int) ≤ k ∧ k < (2 : Int)) ∧
  ∃ x : Option Addr, hat H3 ((Addr.mk b_2 0 none).add (Int.toNat k * 1)) = some (.pointer x) ∧
  ∀ (b_3 : Nat) (H4 : Array Obj), b_3 = H3.size → H4 = H3.push (.cells #[.int .u64 wv] 29) →
  frame_Extend.C x 20 (some (Addr.mk b_3 0 none)) 1 1 H4 (fun v H5 => ∃ ra : Int, ∃ rb : Int, v = .tuple #[.int .u64 ra, .int .i64 rb] ∧ 
   ∀ (b_4 : Nat) (H6 : Array Obj), b_4 = H5.size → H6 = H5.push (.cells #[.int .u64 wv] 29) →
   frame_Push.C x 0 20 (some (Addr.mk b_4 0 none)) 1 1 H6 (fun v_2 H7 => ∃ ra_2 : Int, ∃ rb_2 : Int, v_2 = .tuple #[.int .u64 ra_2, .int .i64 rb_2] ∧ 
    frame_Get.C x wv 0 i H7 (fun v_3 H8 => ∃ ra_3 : Int, ∃ rb_3 : Int, v_3 = .tuple #[.int .u64 ra_3, .int .i64 rb_3] ∧ 
     frame_Kind.C x wv H8 (fun v_4 H9 => ∃ ra_4 : Int, ∃ rb_4 : Int, v_4 = .tuple #[.int .i64 ra_4, .int .i64 rb_4] ∧ 
      frame_Next.C x wv H9 (fun v_5 H10 => ∃ ra_5 : Int, ∃ rb_5 : Int, v_5 = .tuple #[.int .u64 ra_5, .int .i64 rb_5] ∧ 
       frame_Field.C x wv i H10 (fun v_6 H11 => ∃ ra_6 : Int, ∃ rb_6 : Int, v_6 = .tuple #[.int .u64 ra_6, .int .i64 rb_6] ∧ 
        frame_Get.C x wv upv i H11 (fun v_7 H12 => ∃ ra_7 : Int, ∃ rb_7 : Int, v_7 = .tuple #[.int .u64 ra_7, .int .i64 rb_7] ∧ 
         if rb = 2 then (
          if rb_2 = 2 then (
           if rb_3 = 3 then (
            if rb_4 = 3 then (
             if rb_5 = 3 then (
              if rb_6 = 3 then (
               if rb_7 = 3 then (
                frame_Put.C x wv 0 i wv H12 (fun v_8 H13 => ∃ x_2 : Int, v_8 = .int .i64 x_2 ∧ 
                 if x_2 = 3 then (
                  frame_Count.C x wv H13 (fun v_9 H14 => ∃ x_3 : Int, v_9 = .int .i64 x_3 ∧ 
                   if x_3 = 0 then (
                    frame_Fields.C x wv H14 (fun v_10 H15 => ∃ x_4 : Int, v_10 = .int .i64 x_4 ∧ 
                     if x_4 = 0 then (
                      (I13 (IntKind.wrap .i64 (k + 1)) H15 ∧ m13 (IntKind.wrap .i64 (k + 1)) H15 < m13 k H3))
                     else
                     R (.bool false) H15))
                   else
                   R (.bool false) H14))
                 else
                 R (.bool false) H13))
               else
               if rb_7 = 4 then (
                frame_Put.C x wv 0 i wv H12 (fun v_11 H16 => ∃ x_5 : Int, v_11 = .int .i64 x_5 ∧ 
                 if x_5 = 3 then (
                  frame_Count.C x wv H16 (fun v_12 H17 => ∃ x_6 : Int, v_12 = .int .i64 x_6 ∧ 
                   if x_6 = 0 then (
                    frame_Fields.C x wv H17 (fun v_13 H18 => ∃ x_7 : Int, v_13 = .int .i64 x_7 ∧ 
                     if x_7 = 0 then (
                      (I13 (IntKind.wrap .i64 (k + 1)) H18 ∧ m13 (IntKind.wrap .i64 (k + 1)) H18 < m13 k H3))
                     else
                     R (.bool false) H18))
                   else
                   R (.bool false) H17))
                 else
                 R (.bool false) H16))
               else
               R (.bool false) H12)
              else
              R (.bool false) H12)
             else
             R (.bool false) H12)
            else
            R (.bool false) H12)
           else
           R (.bool false) H12)
          else
          R (.bool false) H12)
         else
         R (.bool false) H12))))))))
 else
 morainelaw20_awake.C  H3 (fun v_14 H19 => ∃ x_8 : Bool, v_14 = .bool x_8 ∧ 
  R (.bool x_8) H19)
set_option maxRecDepth 100000 in
theorem morainelaw20_FrameNobody.link {wv : Int} {upv : Int} {i : Int} {H : Array Obj} {R : Value → Array Obj → Prop} (h : morainelaw20_FrameNobody.pt wv upv i H R) : morainelaw20_FrameNobody.C wv upv i H R := by
  refine S_enter (fn := Try.f6) (c := morainelaw20_FrameNobody.k0) 138 Try.func6 (by kernel_rfl) (by kernel_rfl) (Nat.le_of_ble_eq_true (by kernel_rfl)) ?_
  intro w0 Q hQ
  unfold morainelaw20_FrameNobody.pt at h
  refine S_sub [(0, .int .u64 wv), (1, .int .i64 upv), (2, .int .i64 i)] (sb (by kernel_rfl)) ?_
  refine S_seq morainelaw20_FrameNobody.k1 morainelaw20_FrameNobody.k2 (by kernel_rfl) ?_
  refine S_region 0 (Code.ops morainelaw20_FrameNobody.k1) (by kernel_rfl) ?_
  refine N_run 1 [(0, .int .u64 wv), (1, .int .i64 upv), (2, .int .i64 i)] (fun w => by kernel_rfl) ?_
  refine N_end (by kernel_rfl) ?_
  refine S_then ?_
  refine S_seq morainelaw20_FrameNobody.k3 morainelaw20_FrameNobody.k4 (by kernel_rfl) ?_
  refine S_region 1 (Code.ops morainelaw20_FrameNobody.k3) (by kernel_rfl) ?_
  refine N_run 1 [(0, .int .u64 wv), (1, .int .i64 upv), (2, .int .i64 i), (7, .pointer none)] (fun w => by kernel_rfl) ?_
  refine N_end (by kernel_rfl) ?_
  refine S_then ?_
  refine S_seq morainelaw20_FrameNobody.k5 morainelaw20_FrameNobody.k6 (by kernel_rfl) ?_
  refine S_region 2 (Code.ops morainelaw20_FrameNobody.k5) (by kernel_rfl) ?_
  refine N_run 2 [(0, .int .u64 wv), (1, .int .i64 upv), (2, .int .i64 i), (25, .pointer none), (26, .agg #[.pointer none, .slice none 0 0, .slice none 0 0, .int .u64 0])] (fun w => by kernel_rfl) ?_
  refine N_new (some 27) (fun b => .pointer (some (Addr.mk b 0 none))) (.cells #[.pointer none, .slice none 0 0, .slice none 0 0, .int .u64 0] 60) (fun w => by kernel_rfl) ?_
  intro b H1 e1 e2
  replace h := h b H1 e1 e2
  refine ⟨[(0, .int .u64 wv), (1, .int .i64 upv), (2, .int .i64 i), (25, .pointer none), (27, .pointer (some (Addr.mk b 0 none)))], ps (by kernel_rfl), ?_⟩
  refine N_new (some 28) (fun b => .slice (some (Addr.mk b 0 none)) 2 2) (.cells #[.pointer none, .pointer (some (Addr.mk b 0 none))] 23) (fun w => by kernel_rfl) ?_
  intro b_2 H2 e3 e4
  replace h := h b_2 H2 e3 e4
  refine ⟨[(0, .int .u64 wv), (1, .int .i64 upv), (2, .int .i64 i), (28, .slice (some (Addr.mk b_2 0 none)) 2 2)], ps (by kernel_rfl), ?_⟩
  refine N_run 1 [(0, .int .u64 wv), (1, .int .i64 upv), (2, .int .i64 i), (8, .slice (some (Addr.mk b_2 0 none)) 2 2)] (fun w => by kernel_rfl) ?_
  refine N_end (by kernel_rfl) ?_
  refine S_then ?_
  refine S_seq morainelaw20_FrameNobody.k7 morainelaw20_FrameNobody.k8 (by kernel_rfl) ?_
  refine S_seq morainelaw20_FrameNobody.k9 morainelaw20_FrameNobody.k10 (by kernel_rfl) ?_
  refine S_region 3 (Code.ops morainelaw20_FrameNobody.k9) (by kernel_rfl) ?_
  refine N_run 1 [(0, .int .u64 wv), (1, .int .i64 upv), (2, .int .i64 i), (8, .slice (some (Addr.mk b_2 0 none)) 2 2), (9, .int .i64 0)] (fun w => by kernel_rfl) ?_
  refine N_end (by kernel_rfl) ?_
  refine S_then ?_
  refine S_block 0 morainelaw20_FrameNobody.k11 (by kernel_rfl) ?_
  obtain ⟨I13, m13, i5, i6⟩ := h
  refine S_loop (x := morainelaw20_FrameNobody.k12) (σ := Int) (fun s_ => [(0, .int .u64 wv), (1, .int .i64 upv), (2, .int .i64 i), (8, .slice (some (Addr.mk b_2 0 none)) 2 2), (9, .int .i64 s_)]) (fun s_ H => I13 s_ H) (fun s_ H => m13 s_ H) (0 : Int) (by kernel_rfl) i5 (sb (by kernel_rfl)) ?_
  rintro k H3 i7
  have h := i6 k H3 i7
  refine S_sub [(0, .int .u64 wv), (1, .int .i64 upv), (2, .int .i64 i), (8, .slice (some (Addr.mk b_2 0 none)) 2 2), (9, .int .i64 k)] (sb (by kernel_rfl)) ?_
  refine S_seq morainelaw20_FrameNobody.k13 morainelaw20_FrameNobody.k14 (by kernel_rfl) ?_
  refine S_seq morainelaw20_FrameNobody.k15 morainelaw20_FrameNobody.k16 (by kernel_rfl) ?_
  refine S_region 4 (Code.ops morainelaw20_FrameNobody.k15) (by kernel_rfl) ?_
  refine N_run 4 [(0, .int .u64 wv), (1, .int .i64 upv), (2, .int .i64 i), (8, .slice (some (Addr.mk b_2 0 none)) 2 2), (9, .int .i64 k), (32, .bool (decide (k < (2 : Int))))] (fun w => by kernel_rfl) ?_
  refine N_end (by kernel_rfl) ?_
  refine S_then ?_
  by_cases c8 : k < (2 : Int)
  · rw [if_pos c8] at h
    have b9 : (decide (k < (2 : Int))) = true := decide_eq_true c8
    refine S_env [(0, .int .u64 wv), (1, .int .i64 upv), (2, .int .i64 i), (8, .slice (some (Addr.mk b_2 0 none)) 2 2), (9, .int .i64 k), (32, .bool true)] (by simp only [b9, Bool.not_true, Bool.not_false]) ?_
    clear b9
    refine S_condT (.tmp 32) morainelaw20_FrameNobody.k17 morainelaw20_FrameNobody.k18 (by kernel_rfl) (by kernel_rfl) ?_
    refine S_skip (by kernel_rfl) ?_
    refine S_then ?_
    refine S_seq morainelaw20_FrameNobody.k19 morainelaw20_FrameNobody.k20 (by kernel_rfl) ?_
    refine S_block 1 morainelaw20_FrameNobody.k21 (by kernel_rfl) ?_
    refine S_seq morainelaw20_FrameNobody.k22 morainelaw20_FrameNobody.k23 (by kernel_rfl) ?_
    refine S_region 6 (Code.ops morainelaw20_FrameNobody.k22) (by kernel_rfl) ?_
    refine N_run 2 [(0, .int .u64 wv), (1, .int .i64 upv), (2, .int .i64 i), (8, .slice (some (Addr.mk b_2 0 none)) 2 2), (9, .int .i64 k), (35, .slice (some (Addr.mk b_2 0 none)) 2 2), (36, .int .i64 k)] (fun w => by kernel_rfl) ?_
    obtain ⟨q10, h⟩ := h
    refine N_val (some 37) (indexAtN 61 (.slice (some (Addr.mk b_2 0 none)) 2 2) (.int .i64 k)) (.pointer (some ((Addr.mk b_2 0 none).add (Int.toNat k * 1)))) (fun w => by kernel_rfl) (fun w _ => indexAt_run (P := Try.prog) (t := 61) (elem := 23) (sz := 1) (a := (Addr.mk b_2 0 none)) (len := 2) (cap := 2) (k := .i64) (i := k) Try.underlying61 (fun w => by kernel_rfl) q10.1 q10.2 w) [(0, .int .u64 wv), (1, .int .i64 upv), (2, .int .i64 i), (8, .slice (some (Addr.mk b_2 0 none)) 2 2), (9, .int .i64 k), (37, .pointer (some ((Addr.mk b_2 0 none).add (Int.toNat k * 1))))] (ps (by kernel_rfl)) ?_
    obtain ⟨x, q11, h⟩ := h
    refine N_val (some 38) (loadN 23 (.pointer (some ((Addr.mk b_2 0 none).add (Int.toNat k * 1))))) (.pointer x) (fun w => by kernel_rfl) (loadN_run (loadOK_one (fun w => by kernel_rfl) q11)) [(0, .int .u64 wv), (1, .int .i64 upv), (2, .int .i64 i), (8, .slice (some (Addr.mk b_2 0 none)) 2 2), (9, .int .i64 k), (38, .pointer x)] (ps (by kernel_rfl)) ?_
    refine N_run 1 [(0, .int .u64 wv), (1, .int .i64 upv), (2, .int .i64 i), (8, .slice (some (Addr.mk b_2 0 none)) 2 2), (9, .int .i64 k), (10, .pointer x)] (fun w => by kernel_rfl) ?_
    refine N_end (by kernel_rfl) ?_
    refine S_then ?_
    refine S_seq morainelaw20_FrameNobody.k24 morainelaw20_FrameNobody.k25 (by kernel_rfl) ?_
    refine S_region 7 (Code.ops morainelaw20_FrameNobody.k24) (by kernel_rfl) ?_
    refine N_run 2 [(0, .int .u64 wv), (1, .int .i64 upv), (2, .int .i64 i), (8, .slice (some (Addr.mk b_2 0 none)) 2 2), (9, .int .i64 k), (10, .pointer x), (40, .pointer x), (41, .int .u64 wv)] (fun w => by kernel_rfl) ?_
    refine N_new (some 42) (fun b => .slice (some (Addr.mk b 0 none)) 1 1) (.cells #[.int .u64 wv] 29) (fun w => by kernel_rfl) ?_
    intro b_3 H4 e12 e13
    replace h := h b_3 H4 e12 e13
    refine ⟨[(0, .int .u64 wv), (1, .int .i64 upv), (2, .int .i64 i), (8, .slice (some (Addr.mk b_2 0 none)) 2 2), (9, .int .i64 k), (10, .pointer x), (40, .pointer x), (42, .slice (some (Addr.mk b_3 0 none)) 1 1)], ps (by kernel_rfl), ?_⟩
    refine N_call (some 43) 20 #[.pointer x, .int .u64 20, .slice (some (Addr.mk b_3 0 none)) 1 1] (fun w => by kernel_rfl) h ?_; clear h
    rintro v H5 ⟨ra, rb, rfl, h⟩
    refine ⟨[(0, .int .u64 wv), (1, .int .i64 upv), (2, .int .i64 i), (8, .slice (some (Addr.mk b_2 0 none)) 2 2), (9, .int .i64 k), (10, .pointer x), (43, .tuple #[.int .u64 ra, .int .i64 rb])], ps (by kernel_rfl), ?_⟩
    refine N_run 5 [(0, .int .u64 wv), (1, .int .i64 upv), (2, .int .i64 i), (8, .slice (some (Addr.mk b_2 0 none)) 2 2), (9, .int .i64 k), (10, .pointer x), (12, .int .i64 rb)] (fun w => by kernel_rfl) ?_
    refine N_end (by kernel_rfl) ?_
    refine S_then ?_
    refine S_seq morainelaw20_FrameNobody.k26 morainelaw20_FrameNobody.k27 (by kernel_rfl) ?_
    refine S_region 8 (Code.ops morainelaw20_FrameNobody.k26) (by kernel_rfl) ?_
    refine N_run 2 [(0, .int .u64 wv), (1, .int .i64 upv), (2, .int .i64 i), (8, .slice (some (Addr.mk b_2 0 none)) 2 2), (9, .int .i64 k), (10, .pointer x), (12, .int .i64 rb), (47, .pointer x), (48, .int .u64 wv)] (fun w => by kernel_rfl) ?_
    refine N_new (some 49) (fun b => .slice (some (Addr.mk b 0 none)) 1 1) (.cells #[.int .u64 wv] 29) (fun w => by kernel_rfl) ?_
    intro b_4 H6 e14 e15
    replace h := h b_4 H6 e14 e15
    refine ⟨[(0, .int .u64 wv), (1, .int .i64 upv), (2, .int .i64 i), (8, .slice (some (Addr.mk b_2 0 none)) 2 2), (9, .int .i64 k), (10, .pointer x), (12, .int .i64 rb), (47, .pointer x), (49, .slice (some (Addr.mk b_4 0 none)) 1 1)], ps (by kernel_rfl), ?_⟩
    refine N_call (some 50) 16 #[.pointer x, .int .i64 0, .int .u64 20, .slice (some (Addr.mk b_4 0 none)) 1 1] (fun w => by kernel_rfl) h ?_; clear h
    rintro v_2 H7 ⟨ra_2, rb_2, rfl, h⟩
    refine ⟨[(0, .int .u64 wv), (1, .int .i64 upv), (2, .int .i64 i), (8, .slice (some (Addr.mk b_2 0 none)) 2 2), (9, .int .i64 k), (10, .pointer x), (12, .int .i64 rb), (50, .tuple #[.int .u64 ra_2, .int .i64 rb_2])], ps (by kernel_rfl), ?_⟩
    refine N_run 5 [(0, .int .u64 wv), (1, .int .i64 upv), (2, .int .i64 i), (8, .slice (some (Addr.mk b_2 0 none)) 2 2), (9, .int .i64 k), (10, .pointer x), (12, .int .i64 rb), (14, .int .i64 rb_2)] (fun w => by kernel_rfl) ?_
    refine N_end (by kernel_rfl) ?_
    refine S_then ?_
    refine S_seq morainelaw20_FrameNobody.k28 morainelaw20_FrameNobody.k29 (by kernel_rfl) ?_
    refine S_region 9 (Code.ops morainelaw20_FrameNobody.k28) (by kernel_rfl) ?_
    refine N_run 3 [(0, .int .u64 wv), (1, .int .i64 upv), (2, .int .i64 i), (8, .slice (some (Addr.mk b_2 0 none)) 2 2), (9, .int .i64 k), (10, .pointer x), (12, .int .i64 rb), (14, .int .i64 rb_2), (54, .pointer x), (55, .int .u64 wv), (56, .int .i64 i)] (fun w => by kernel_rfl) ?_
    refine N_call (some 57) 21 #[.pointer x, .int .u64 wv, .int .i64 0, .int .i64 i] (fun w => by kernel_rfl) h ?_; clear h
    rintro v_3 H8 ⟨ra_3, rb_3, rfl, h⟩
    refine ⟨[(0, .int .u64 wv), (1, .int .i64 upv), (2, .int .i64 i), (8, .slice (some (Addr.mk b_2 0 none)) 2 2), (9, .int .i64 k), (10, .pointer x), (12, .int .i64 rb), (14, .int .i64 rb_2), (57, .tuple #[.int .u64 ra_3, .int .i64 rb_3])], ps (by kernel_rfl), ?_⟩
    refine N_run 5 [(0, .int .u64 wv), (1, .int .i64 upv), (2, .int .i64 i), (8, .slice (some (Addr.mk b_2 0 none)) 2 2), (9, .int .i64 k), (10, .pointer x), (12, .int .i64 rb), (14, .int .i64 rb_2), (16, .int .i64 rb_3)] (fun w => by kernel_rfl) ?_
    refine N_end (by kernel_rfl) ?_
    refine S_then ?_
    refine S_seq morainelaw20_FrameNobody.k30 morainelaw20_FrameNobody.k31 (by kernel_rfl) ?_
    refine S_region 10 (Code.ops morainelaw20_FrameNobody.k30) (by kernel_rfl) ?_
    refine N_run 2 [(0, .int .u64 wv), (1, .int .i64 upv), (2, .int .i64 i), (8, .slice (some (Addr.mk b_2 0 none)) 2 2), (9, .int .i64 k), (10, .pointer x), (12, .int .i64 rb), (14, .int .i64 rb_2), (16, .int .i64 rb_3), (61, .pointer x), (62, .int .u64 wv)] (fun w => by kernel_rfl) ?_
    refine N_call (some 63) 14 #[.pointer x, .int .u64 wv] (fun w => by kernel_rfl) h ?_; clear h
    rintro v_4 H9 ⟨ra_4, rb_4, rfl, h⟩
    refine ⟨[(0, .int .u64 wv), (1, .int .i64 upv), (2, .int .i64 i), (8, .slice (some (Addr.mk b_2 0 none)) 2 2), (9, .int .i64 k), (10, .pointer x), (12, .int .i64 rb), (14, .int .i64 rb_2), (16, .int .i64 rb_3), (63, .tuple #[.int .i64 ra_4, .int .i64 rb_4])], ps (by kernel_rfl), ?_⟩
    refine N_run 5 [(0, .int .u64 wv), (1, .int .i64 upv), (2, .int .i64 i), (8, .slice (some (Addr.mk b_2 0 none)) 2 2), (9, .int .i64 k), (10, .pointer x), (12, .int .i64 rb), (14, .int .i64 rb_2), (16, .int .i64 rb_3), (18, .int .i64 rb_4)] (fun w => by kernel_rfl) ?_
    refine N_end (by kernel_rfl) ?_
    refine S_then ?_
    refine S_seq morainelaw20_FrameNobody.k32 morainelaw20_FrameNobody.k33 (by kernel_rfl) ?_
    refine S_region 11 (Code.ops morainelaw20_FrameNobody.k32) (by kernel_rfl) ?_
    refine N_run 2 [(0, .int .u64 wv), (1, .int .i64 upv), (2, .int .i64 i), (8, .slice (some (Addr.mk b_2 0 none)) 2 2), (9, .int .i64 k), (10, .pointer x), (12, .int .i64 rb), (14, .int .i64 rb_2), (16, .int .i64 rb_3), (18, .int .i64 rb_4), (67, .pointer x), (68, .int .u64 wv)] (fun w => by kernel_rfl) ?_
    refine N_call (some 69) 15 #[.pointer x, .int .u64 wv] (fun w => by kernel_rfl) h ?_; clear h
    rintro v_5 H10 ⟨ra_5, rb_5, rfl, h⟩
    refine ⟨[(0, .int .u64 wv), (1, .int .i64 upv), (2, .int .i64 i), (8, .slice (some (Addr.mk b_2 0 none)) 2 2), (9, .int .i64 k), (10, .pointer x), (12, .int .i64 rb), (14, .int .i64 rb_2), (16, .int .i64 rb_3), (18, .int .i64 rb_4), (69, .tuple #[.int .u64 ra_5, .int .i64 rb_5])], ps (by kernel_rfl), ?_⟩
    refine N_run 5 [(0, .int .u64 wv), (1, .int .i64 upv), (2, .int .i64 i), (8, .slice (some (Addr.mk b_2 0 none)) 2 2), (9, .int .i64 k), (10, .pointer x), (12, .int .i64 rb), (14, .int .i64 rb_2), (16, .int .i64 rb_3), (18, .int .i64 rb_4), (20, .int .i64 rb_5)] (fun w => by kernel_rfl) ?_
    refine N_end (by kernel_rfl) ?_
    refine S_then ?_
    refine S_seq morainelaw20_FrameNobody.k34 morainelaw20_FrameNobody.k35 (by kernel_rfl) ?_
    refine S_region 12 (Code.ops morainelaw20_FrameNobody.k34) (by kernel_rfl) ?_
    refine N_run 3 [(0, .int .u64 wv), (1, .int .i64 upv), (2, .int .i64 i), (8, .slice (some (Addr.mk b_2 0 none)) 2 2), (9, .int .i64 k), (10, .pointer x), (12, .int .i64 rb), (14, .int .i64 rb_2), (16, .int .i64 rb_3), (18, .int .i64 rb_4), (20, .int .i64 rb_5), (73, .pointer x), (74, .int .u64 wv), (75, .int .i64 i)] (fun w => by kernel_rfl) ?_
    refine N_call (some 76) 18 #[.pointer x, .int .u64 wv, .int .i64 i] (fun w => by kernel_rfl) h ?_; clear h
    rintro v_6 H11 ⟨ra_6, rb_6, rfl, h⟩
    refine ⟨[(0, .int .u64 wv), (1, .int .i64 upv), (2, .int .i64 i), (8, .slice (some (Addr.mk b_2 0 none)) 2 2), (9, .int .i64 k), (10, .pointer x), (12, .int .i64 rb), (14, .int .i64 rb_2), (16, .int .i64 rb_3), (18, .int .i64 rb_4), (20, .int .i64 rb_5), (76, .tuple #[.int .u64 ra_6, .int .i64 rb_6])], ps (by kernel_rfl), ?_⟩
    refine N_run 5 [(0, .int .u64 wv), (1, .int .i64 upv), (2, .int .i64 i), (8, .slice (some (Addr.mk b_2 0 none)) 2 2), (9, .int .i64 k), (10, .pointer x), (12, .int .i64 rb), (14, .int .i64 rb_2), (16, .int .i64 rb_3), (18, .int .i64 rb_4), (20, .int .i64 rb_5), (22, .int .i64 rb_6)] (fun w => by kernel_rfl) ?_
    refine N_end (by kernel_rfl) ?_
    refine S_then ?_
    refine S_seq morainelaw20_FrameNobody.k36 morainelaw20_FrameNobody.k37 (by kernel_rfl) ?_
    refine S_region 13 (Code.ops morainelaw20_FrameNobody.k36) (by kernel_rfl) ?_
    refine N_run 4 [(0, .int .u64 wv), (1, .int .i64 upv), (2, .int .i64 i), (8, .slice (some (Addr.mk b_2 0 none)) 2 2), (9, .int .i64 k), (10, .pointer x), (12, .int .i64 rb), (14, .int .i64 rb_2), (16, .int .i64 rb_3), (18, .int .i64 rb_4), (20, .int .i64 rb_5), (22, .int .i64 rb_6), (80, .pointer x), (81, .int .u64 wv), (82, .int .i64 upv), (83, .int .i64 i)] (fun w => by kernel_rfl) ?_
    refine N_call (some 84) 21 #[.pointer x, .int .u64 wv, .int .i64 upv, .int .i64 i] (fun w => by kernel_rfl) h ?_; clear h
    rintro v_7 H12 ⟨ra_7, rb_7, rfl, h⟩
    refine ⟨[(0, .int .u64 wv), (1, .int .i64 upv), (2, .int .i64 i), (8, .slice (some (Addr.mk b_2 0 none)) 2 2), (9, .int .i64 k), (10, .pointer x), (12, .int .i64 rb), (14, .int .i64 rb_2), (16, .int .i64 rb_3), (18, .int .i64 rb_4), (20, .int .i64 rb_5), (22, .int .i64 rb_6), (84, .tuple #[.int .u64 ra_7, .int .i64 rb_7])], ps (by kernel_rfl), ?_⟩
    refine N_run 5 [(0, .int .u64 wv), (1, .int .i64 upv), (2, .int .i64 i), (8, .slice (some (Addr.mk b_2 0 none)) 2 2), (9, .int .i64 k), (10, .pointer x), (12, .int .i64 rb), (14, .int .i64 rb_2), (16, .int .i64 rb_3), (18, .int .i64 rb_4), (20, .int .i64 rb_5), (22, .int .i64 rb_6), (24, .int .i64 rb_7)] (fun w => by kernel_rfl) ?_
    refine N_end (by kernel_rfl) ?_
    refine S_then ?_
    refine S_seq morainelaw20_FrameNobody.k38 morainelaw20_FrameNobody.k39 (by kernel_rfl) ?_
    refine S_region 14 (Code.ops morainelaw20_FrameNobody.k38) (by kernel_rfl) ?_
    refine N_run 3 [(0, .int .u64 wv), (1, .int .i64 upv), (2, .int .i64 i), (8, .slice (some (Addr.mk b_2 0 none)) 2 2), (9, .int .i64 k), (10, .pointer x), (14, .int .i64 rb_2), (16, .int .i64 rb_3), (18, .int .i64 rb_4), (20, .int .i64 rb_5), (22, .int .i64 rb_6), (24, .int .i64 rb_7), (89, .bool (rb != 2))] (fun w => by kernel_rfl) ?_
    by_cases c16 : rb = 2
    · rw [if_pos c16] at h
      have b17 : (rb != 2) = false := bne_eq_false_iff_eq.mpr c16
      refine N_env [(0, .int .u64 wv), (1, .int .i64 upv), (2, .int .i64 i), (8, .slice (some (Addr.mk b_2 0 none)) 2 2), (9, .int .i64 k), (10, .pointer x), (14, .int .i64 rb_2), (16, .int .i64 rb_3), (18, .int .i64 rb_4), (20, .int .i64 rb_5), (22, .int .i64 rb_6), (24, .int .i64 rb_7), (89, .bool false)] (by simp only [b17, Bool.not_true, Bool.not_false]) ?_
      clear b17
      refine N_run 4 [(0, .int .u64 wv), (1, .int .i64 upv), (2, .int .i64 i), (8, .slice (some (Addr.mk b_2 0 none)) 2 2), (9, .int .i64 k), (10, .pointer x), (16, .int .i64 rb_3), (18, .int .i64 rb_4), (20, .int .i64 rb_5), (22, .int .i64 rb_6), (24, .int .i64 rb_7), (93, .bool (rb_2 != 2))] (fun w => by kernel_rfl) ?_
      by_cases c18 : rb_2 = 2
      · rw [if_pos c18] at h
        have b19 : (rb_2 != 2) = false := bne_eq_false_iff_eq.mpr c18
        refine N_env [(0, .int .u64 wv), (1, .int .i64 upv), (2, .int .i64 i), (8, .slice (some (Addr.mk b_2 0 none)) 2 2), (9, .int .i64 k), (10, .pointer x), (16, .int .i64 rb_3), (18, .int .i64 rb_4), (20, .int .i64 rb_5), (22, .int .i64 rb_6), (24, .int .i64 rb_7), (93, .bool false)] (by simp only [b19, Bool.not_true, Bool.not_false]) ?_
        clear b19
        refine N_run 4 [(0, .int .u64 wv), (1, .int .i64 upv), (2, .int .i64 i), (8, .slice (some (Addr.mk b_2 0 none)) 2 2), (9, .int .i64 k), (10, .pointer x), (18, .int .i64 rb_4), (20, .int .i64 rb_5), (22, .int .i64 rb_6), (24, .int .i64 rb_7), (97, .bool (rb_3 != 3))] (fun w => by kernel_rfl) ?_
        by_cases c20 : rb_3 = 3
        · rw [if_pos c20] at h
          have b21 : (rb_3 != 3) = false := bne_eq_false_iff_eq.mpr c20
          refine N_env [(0, .int .u64 wv), (1, .int .i64 upv), (2, .int .i64 i), (8, .slice (some (Addr.mk b_2 0 none)) 2 2), (9, .int .i64 k), (10, .pointer x), (18, .int .i64 rb_4), (20, .int .i64 rb_5), (22, .int .i64 rb_6), (24, .int .i64 rb_7), (97, .bool false)] (by simp only [b21, Bool.not_true, Bool.not_false]) ?_
          clear b21
          refine N_run 4 [(0, .int .u64 wv), (1, .int .i64 upv), (2, .int .i64 i), (8, .slice (some (Addr.mk b_2 0 none)) 2 2), (9, .int .i64 k), (10, .pointer x), (20, .int .i64 rb_5), (22, .int .i64 rb_6), (24, .int .i64 rb_7), (101, .bool (rb_4 != 3))] (fun w => by kernel_rfl) ?_
          by_cases c22 : rb_4 = 3
          · rw [if_pos c22] at h
            have b23 : (rb_4 != 3) = false := bne_eq_false_iff_eq.mpr c22
            refine N_env [(0, .int .u64 wv), (1, .int .i64 upv), (2, .int .i64 i), (8, .slice (some (Addr.mk b_2 0 none)) 2 2), (9, .int .i64 k), (10, .pointer x), (20, .int .i64 rb_5), (22, .int .i64 rb_6), (24, .int .i64 rb_7), (101, .bool false)] (by simp only [b23, Bool.not_true, Bool.not_false]) ?_
            clear b23
            refine N_run 4 [(0, .int .u64 wv), (1, .int .i64 upv), (2, .int .i64 i), (8, .slice (some (Addr.mk b_2 0 none)) 2 2), (9, .int .i64 k), (10, .pointer x), (22, .int .i64 rb_6), (24, .int .i64 rb_7), (105, .bool (rb_5 != 3))] (fun w => by kernel_rfl) ?_
            by_cases c24 : rb_5 = 3
            · rw [if_pos c24] at h
              have b25 : (rb_5 != 3) = false := bne_eq_false_iff_eq.mpr c24
              refine N_env [(0, .int .u64 wv), (1, .int .i64 upv), (2, .int .i64 i), (8, .slice (some (Addr.mk b_2 0 none)) 2 2), (9, .int .i64 k), (10, .pointer x), (22, .int .i64 rb_6), (24, .int .i64 rb_7), (105, .bool false)] (by simp only [b25, Bool.not_true, Bool.not_false]) ?_
              clear b25
              refine N_run 4 [(0, .int .u64 wv), (1, .int .i64 upv), (2, .int .i64 i), (8, .slice (some (Addr.mk b_2 0 none)) 2 2), (9, .int .i64 k), (10, .pointer x), (24, .int .i64 rb_7), (109, .bool (rb_6 != 3))] (fun w => by kernel_rfl) ?_
              by_cases c26 : rb_6 = 3
              · rw [if_pos c26] at h
                have b27 : (rb_6 != 3) = false := bne_eq_false_iff_eq.mpr c26
                refine N_env [(0, .int .u64 wv), (1, .int .i64 upv), (2, .int .i64 i), (8, .slice (some (Addr.mk b_2 0 none)) 2 2), (9, .int .i64 k), (10, .pointer x), (24, .int .i64 rb_7), (109, .bool false)] (by simp only [b27, Bool.not_true, Bool.not_false]) ?_
                clear b27
                refine N_run 3 [(0, .int .u64 wv), (1, .int .i64 upv), (2, .int .i64 i), (8, .slice (some (Addr.mk b_2 0 none)) 2 2), (9, .int .i64 k), (10, .pointer x), (24, .int .i64 rb_7), (109, .bool false), (112, .bool (rb_7 != 3))] (fun w => by kernel_rfl) ?_
                by_cases c28 : rb_7 = 3
                · rw [if_pos c28] at h
                  have b29 : (rb_7 != 3) = false := bne_eq_false_iff_eq.mpr c28
                  refine N_env [(0, .int .u64 wv), (1, .int .i64 upv), (2, .int .i64 i), (8, .slice (some (Addr.mk b_2 0 none)) 2 2), (9, .int .i64 k), (10, .pointer x), (24, .int .i64 rb_7), (109, .bool false), (112, .bool false)] (by simp only [b29, Bool.not_true, Bool.not_false]) ?_
                  clear b29
                  refine N_run 9 [(0, .int .u64 wv), (1, .int .i64 upv), (2, .int .i64 i), (8, .slice (some (Addr.mk b_2 0 none)) 2 2), (9, .int .i64 k), (10, .pointer x), (117, .bool false), (118, .pointer x), (119, .int .u64 wv), (120, .int .i64 i), (121, .int .u64 wv)] (fun w => by kernel_rfl) ?_
                  refine N_call (some 122) 19 #[.pointer x, .int .u64 wv, .int .i64 0, .int .i64 i, .int .u64 wv] (fun w => by kernel_rfl) h ?_; clear h
                  rintro v_8 H13 ⟨x_2, rfl, h⟩
                  refine ⟨[(0, .int .u64 wv), (1, .int .i64 upv), (2, .int .i64 i), (8, .slice (some (Addr.mk b_2 0 none)) 2 2), (9, .int .i64 k), (10, .pointer x), (117, .bool false), (122, .int .i64 x_2)], ps (by kernel_rfl), ?_⟩
                  refine N_run 3 [(0, .int .u64 wv), (1, .int .i64 upv), (2, .int .i64 i), (8, .slice (some (Addr.mk b_2 0 none)) 2 2), (9, .int .i64 k), (10, .pointer x), (125, .bool (x_2 != 3))] (fun w => by kernel_rfl) ?_
                  by_cases c30 : x_2 = 3
                  · rw [if_pos c30] at h
                    have b31 : (x_2 != 3) = false := bne_eq_false_iff_eq.mpr c30
                    refine N_env [(0, .int .u64 wv), (1, .int .i64 upv), (2, .int .i64 i), (8, .slice (some (Addr.mk b_2 0 none)) 2 2), (9, .int .i64 k), (10, .pointer x), (125, .bool false)] (by simp only [b31, Bool.not_true, Bool.not_false]) ?_
                    clear b31
                    refine N_run 2 [(0, .int .u64 wv), (1, .int .i64 upv), (2, .int .i64 i), (8, .slice (some (Addr.mk b_2 0 none)) 2 2), (9, .int .i64 k), (10, .pointer x), (125, .bool false), (126, .pointer x), (127, .int .u64 wv)] (fun w => by kernel_rfl) ?_
                    refine N_call (some 128) 22 #[.pointer x, .int .u64 wv] (fun w => by kernel_rfl) h ?_; clear h
                    rintro v_9 H14 ⟨x_3, rfl, h⟩
                    refine ⟨[(0, .int .u64 wv), (1, .int .i64 upv), (2, .int .i64 i), (8, .slice (some (Addr.mk b_2 0 none)) 2 2), (9, .int .i64 k), (10, .pointer x), (125, .bool false), (128, .int .i64 x_3)], ps (by kernel_rfl), ?_⟩
                    refine N_run 3 [(0, .int .u64 wv), (1, .int .i64 upv), (2, .int .i64 i), (8, .slice (some (Addr.mk b_2 0 none)) 2 2), (9, .int .i64 k), (10, .pointer x), (131, .bool (x_3 != 0))] (fun w => by kernel_rfl) ?_
                    by_cases c32 : x_3 = 0
                    · rw [if_pos c32] at h
                      have b33 : (x_3 != 0) = false := bne_eq_false_iff_eq.mpr c32
                      refine N_env [(0, .int .u64 wv), (1, .int .i64 upv), (2, .int .i64 i), (8, .slice (some (Addr.mk b_2 0 none)) 2 2), (9, .int .i64 k), (10, .pointer x), (131, .bool false)] (by simp only [b33, Bool.not_true, Bool.not_false]) ?_
                      clear b33
                      refine N_run 2 [(0, .int .u64 wv), (1, .int .i64 upv), (2, .int .i64 i), (8, .slice (some (Addr.mk b_2 0 none)) 2 2), (9, .int .i64 k), (131, .bool false), (132, .pointer x), (133, .int .u64 wv)] (fun w => by kernel_rfl) ?_
                      refine N_call (some 134) 17 #[.pointer x, .int .u64 wv] (fun w => by kernel_rfl) h ?_; clear h
                      rintro v_10 H15 ⟨x_4, rfl, h⟩
                      refine ⟨[(0, .int .u64 wv), (1, .int .i64 upv), (2, .int .i64 i), (8, .slice (some (Addr.mk b_2 0 none)) 2 2), (9, .int .i64 k), (131, .bool false), (134, .int .i64 x_4)], ps (by kernel_rfl), ?_⟩
                      refine N_run 2 [(0, .int .u64 wv), (1, .int .i64 upv), (2, .int .i64 i), (8, .slice (some (Addr.mk b_2 0 none)) 2 2), (9, .int .i64 k), (136, .bool (x_4 != 0))] (fun w => by kernel_rfl) ?_
                      refine N_end (by kernel_rfl) ?_
                      refine S_then ?_
                      by_cases c34 : x_4 = 0
                      · rw [if_pos c34] at h
                        have b35 : (x_4 != 0) = false := bne_eq_false_iff_eq.mpr c34
                        refine S_env [(0, .int .u64 wv), (1, .int .i64 upv), (2, .int .i64 i), (8, .slice (some (Addr.mk b_2 0 none)) 2 2), (9, .int .i64 k), (136, .bool false)] (by simp only [b35, Bool.not_true, Bool.not_false]) ?_
                        clear b35
                        refine S_condF (.tmp 136) morainelaw20_FrameNobody.k40 morainelaw20_FrameNobody.k41 (by kernel_rfl) (by kernel_rfl) ?_
                        refine S_skip (by kernel_rfl) ?_
                        refine S_blockEnd ?_
                        refine S_then ?_
                        refine S_region 5 (Code.ops morainelaw20_FrameNobody.k20) (by kernel_rfl) ?_
                        refine N_run 3 [(0, .int .u64 wv), (1, .int .i64 upv), (2, .int .i64 i), (8, .slice (some (Addr.mk b_2 0 none)) 2 2), (9, .int .i64 (IntKind.wrap .i64 (k + 1)))] (fun w => by kernel_rfl) ?_
                        refine N_end (by kernel_rfl) ?_
                        refine S_then ?_
                        exact S_round ((IntKind.wrap .i64 (k + 1)) : Int) (sb (by kernel_rfl)) h
                      · rw [if_neg c34] at h
                        have b35 : (x_4 != 0) = true := bne_iff_ne.mpr c34
                        refine S_env [(0, .int .u64 wv), (1, .int .i64 upv), (2, .int .i64 i), (8, .slice (some (Addr.mk b_2 0 none)) 2 2), (9, .int .i64 k), (136, .bool true)] (by simp only [b35, Bool.not_true, Bool.not_false]) ?_
                        clear b35
                        refine S_condT (.tmp 136) morainelaw20_FrameNobody.k40 morainelaw20_FrameNobody.k41 (by kernel_rfl) (by kernel_rfl) ?_
                        refine S_seq morainelaw20_FrameNobody.k42 morainelaw20_FrameNobody.k43 (by kernel_rfl) ?_
                        refine S_region 15 (Code.ops morainelaw20_FrameNobody.k42) (by kernel_rfl) ?_
                        refine N_run 1 [(6, .bool false)] (fun w => by kernel_rfl) ?_
                        refine N_end (by kernel_rfl) ?_
                        refine S_then ?_
                        refine S_ret (by kernel_rfl) ?_
                        show At _ _ _ _ (Q .ret)
                        exact S_done (fn := Try.f6) [.bool false] hQ (show ResOK _ _ _ [.tmp 6] _ from .tmp (by kernel_rfl) (.nil)) h
                    · rw [if_neg c32] at h
                      have b33 : (x_3 != 0) = true := bne_iff_ne.mpr c32
                      refine N_env [(0, .int .u64 wv), (1, .int .i64 upv), (2, .int .i64 i), (8, .slice (some (Addr.mk b_2 0 none)) 2 2), (9, .int .i64 k), (10, .pointer x), (131, .bool true)] (by simp only [b33, Bool.not_true, Bool.not_false]) ?_
                      clear b33
                      refine N_run 5 [(0, .int .u64 wv), (1, .int .i64 upv), (2, .int .i64 i), (8, .slice (some (Addr.mk b_2 0 none)) 2 2), (9, .int .i64 k), (136, .bool true)] (fun w => by kernel_rfl) ?_
                      refine N_end (by kernel_rfl) ?_
                      refine S_then ?_
                      refine S_condT (.tmp 136) morainelaw20_FrameNobody.k40 morainelaw20_FrameNobody.k41 (by kernel_rfl) (by kernel_rfl) ?_
                      refine S_seq morainelaw20_FrameNobody.k42 morainelaw20_FrameNobody.k43 (by kernel_rfl) ?_
                      refine S_region 15 (Code.ops morainelaw20_FrameNobody.k42) (by kernel_rfl) ?_
                      refine N_run 1 [(6, .bool false)] (fun w => by kernel_rfl) ?_
                      refine N_end (by kernel_rfl) ?_
                      refine S_then ?_
                      refine S_ret (by kernel_rfl) ?_
                      show At _ _ _ _ (Q .ret)
                      exact S_done (fn := Try.f6) [.bool false] hQ (show ResOK _ _ _ [.tmp 6] _ from .tmp (by kernel_rfl) (.nil)) h
                  · rw [if_neg c30] at h
                    have b31 : (x_2 != 3) = true := bne_iff_ne.mpr c30
                    refine N_env [(0, .int .u64 wv), (1, .int .i64 upv), (2, .int .i64 i), (8, .slice (some (Addr.mk b_2 0 none)) 2 2), (9, .int .i64 k), (10, .pointer x), (125, .bool true)] (by simp only [b31, Bool.not_true, Bool.not_false]) ?_
                    clear b31
                    refine N_run 11 [(0, .int .u64 wv), (1, .int .i64 upv), (2, .int .i64 i), (8, .slice (some (Addr.mk b_2 0 none)) 2 2), (9, .int .i64 k), (136, .bool true)] (fun w => by kernel_rfl) ?_
                    refine N_end (by kernel_rfl) ?_
                    refine S_then ?_
                    refine S_condT (.tmp 136) morainelaw20_FrameNobody.k40 morainelaw20_FrameNobody.k41 (by kernel_rfl) (by kernel_rfl) ?_
                    refine S_seq morainelaw20_FrameNobody.k42 morainelaw20_FrameNobody.k43 (by kernel_rfl) ?_
                    refine S_region 15 (Code.ops morainelaw20_FrameNobody.k42) (by kernel_rfl) ?_
                    refine N_run 1 [(6, .bool false)] (fun w => by kernel_rfl) ?_
                    refine N_end (by kernel_rfl) ?_
                    refine S_then ?_
                    refine S_ret (by kernel_rfl) ?_
                    show At _ _ _ _ (Q .ret)
                    exact S_done (fn := Try.f6) [.bool false] hQ (show ResOK _ _ _ [.tmp 6] _ from .tmp (by kernel_rfl) (.nil)) h
                · rw [if_neg c28] at h
                  have b29 : (rb_7 != 3) = true := bne_iff_ne.mpr c28
                  refine N_env [(0, .int .u64 wv), (1, .int .i64 upv), (2, .int .i64 i), (8, .slice (some (Addr.mk b_2 0 none)) 2 2), (9, .int .i64 k), (10, .pointer x), (24, .int .i64 rb_7), (109, .bool false), (112, .bool true)] (by simp only [b29, Bool.not_true, Bool.not_false]) ?_
                  clear b29
                  refine N_run 5 [(0, .int .u64 wv), (1, .int .i64 upv), (2, .int .i64 i), (8, .slice (some (Addr.mk b_2 0 none)) 2 2), (9, .int .i64 k), (10, .pointer x), (117, .bool (rb_7 != 4))] (fun w => by kernel_rfl) ?_
                  by_cases c36 : rb_7 = 4
                  · rw [if_pos c36] at h
                    have b37 : (rb_7 != 4) = false := bne_eq_false_iff_eq.mpr c36
                    refine N_env [(0, .int .u64 wv), (1, .int .i64 upv), (2, .int .i64 i), (8, .slice (some (Addr.mk b_2 0 none)) 2 2), (9, .int .i64 k), (10, .pointer x), (117, .bool false)] (by simp only [b37, Bool.not_true, Bool.not_false]) ?_
                    clear b37
                    refine N_run 4 [(0, .int .u64 wv), (1, .int .i64 upv), (2, .int .i64 i), (8, .slice (some (Addr.mk b_2 0 none)) 2 2), (9, .int .i64 k), (10, .pointer x), (117, .bool false), (118, .pointer x), (119, .int .u64 wv), (120, .int .i64 i), (121, .int .u64 wv)] (fun w => by kernel_rfl) ?_
                    refine N_call (some 122) 19 #[.pointer x, .int .u64 wv, .int .i64 0, .int .i64 i, .int .u64 wv] (fun w => by kernel_rfl) h ?_; clear h
                    rintro v_11 H16 ⟨x_5, rfl, h⟩
                    refine ⟨[(0, .int .u64 wv), (1, .int .i64 upv), (2, .int .i64 i), (8, .slice (some (Addr.mk b_2 0 none)) 2 2), (9, .int .i64 k), (10, .pointer x), (117, .bool false), (122, .int .i64 x_5)], ps (by kernel_rfl), ?_⟩
                    refine N_run 3 [(0, .int .u64 wv), (1, .int .i64 upv), (2, .int .i64 i), (8, .slice (some (Addr.mk b_2 0 none)) 2 2), (9, .int .i64 k), (10, .pointer x), (125, .bool (x_5 != 3))] (fun w => by kernel_rfl) ?_
                    by_cases c38 : x_5 = 3
                    · rw [if_pos c38] at h
                      have b39 : (x_5 != 3) = false := bne_eq_false_iff_eq.mpr c38
                      refine N_env [(0, .int .u64 wv), (1, .int .i64 upv), (2, .int .i64 i), (8, .slice (some (Addr.mk b_2 0 none)) 2 2), (9, .int .i64 k), (10, .pointer x), (125, .bool false)] (by simp only [b39, Bool.not_true, Bool.not_false]) ?_
                      clear b39
                      refine N_run 2 [(0, .int .u64 wv), (1, .int .i64 upv), (2, .int .i64 i), (8, .slice (some (Addr.mk b_2 0 none)) 2 2), (9, .int .i64 k), (10, .pointer x), (125, .bool false), (126, .pointer x), (127, .int .u64 wv)] (fun w => by kernel_rfl) ?_
                      refine N_call (some 128) 22 #[.pointer x, .int .u64 wv] (fun w => by kernel_rfl) h ?_; clear h
                      rintro v_12 H17 ⟨x_6, rfl, h⟩
                      refine ⟨[(0, .int .u64 wv), (1, .int .i64 upv), (2, .int .i64 i), (8, .slice (some (Addr.mk b_2 0 none)) 2 2), (9, .int .i64 k), (10, .pointer x), (125, .bool false), (128, .int .i64 x_6)], ps (by kernel_rfl), ?_⟩
                      refine N_run 3 [(0, .int .u64 wv), (1, .int .i64 upv), (2, .int .i64 i), (8, .slice (some (Addr.mk b_2 0 none)) 2 2), (9, .int .i64 k), (10, .pointer x), (131, .bool (x_6 != 0))] (fun w => by kernel_rfl) ?_
                      by_cases c40 : x_6 = 0
                      · rw [if_pos c40] at h
                        have b41 : (x_6 != 0) = false := bne_eq_false_iff_eq.mpr c40
                        refine N_env [(0, .int .u64 wv), (1, .int .i64 upv), (2, .int .i64 i), (8, .slice (some (Addr.mk b_2 0 none)) 2 2), (9, .int .i64 k), (10, .pointer x), (131, .bool false)] (by simp only [b41, Bool.not_true, Bool.not_false]) ?_
                        clear b41
                        refine N_run 2 [(0, .int .u64 wv), (1, .int .i64 upv), (2, .int .i64 i), (8, .slice (some (Addr.mk b_2 0 none)) 2 2), (9, .int .i64 k), (131, .bool false), (132, .pointer x), (133, .int .u64 wv)] (fun w => by kernel_rfl) ?_
                        refine N_call (some 134) 17 #[.pointer x, .int .u64 wv] (fun w => by kernel_rfl) h ?_; clear h
                        rintro v_13 H18 ⟨x_7, rfl, h⟩
                        refine ⟨[(0, .int .u64 wv), (1, .int .i64 upv), (2, .int .i64 i), (8, .slice (some (Addr.mk b_2 0 none)) 2 2), (9, .int .i64 k), (131, .bool false), (134, .int .i64 x_7)], ps (by kernel_rfl), ?_⟩
                        refine N_run 2 [(0, .int .u64 wv), (1, .int .i64 upv), (2, .int .i64 i), (8, .slice (some (Addr.mk b_2 0 none)) 2 2), (9, .int .i64 k), (136, .bool (x_7 != 0))] (fun w => by kernel_rfl) ?_
                        refine N_end (by kernel_rfl) ?_
                        refine S_then ?_
                        by_cases c42 : x_7 = 0
                        · rw [if_pos c42] at h
                          have b43 : (x_7 != 0) = false := bne_eq_false_iff_eq.mpr c42
                          refine S_env [(0, .int .u64 wv), (1, .int .i64 upv), (2, .int .i64 i), (8, .slice (some (Addr.mk b_2 0 none)) 2 2), (9, .int .i64 k), (136, .bool false)] (by simp only [b43, Bool.not_true, Bool.not_false]) ?_
                          clear b43
                          refine S_condF (.tmp 136) morainelaw20_FrameNobody.k40 morainelaw20_FrameNobody.k41 (by kernel_rfl) (by kernel_rfl) ?_
                          refine S_skip (by kernel_rfl) ?_
                          refine S_blockEnd ?_
                          refine S_then ?_
                          refine S_region 5 (Code.ops morainelaw20_FrameNobody.k20) (by kernel_rfl) ?_
                          refine N_run 3 [(0, .int .u64 wv), (1, .int .i64 upv), (2, .int .i64 i), (8, .slice (some (Addr.mk b_2 0 none)) 2 2), (9, .int .i64 (IntKind.wrap .i64 (k + 1)))] (fun w => by kernel_rfl) ?_
                          refine N_end (by kernel_rfl) ?_
                          refine S_then ?_
                          exact S_round ((IntKind.wrap .i64 (k + 1)) : Int) (sb (by kernel_rfl)) h
                        · rw [if_neg c42] at h
                          have b43 : (x_7 != 0) = true := bne_iff_ne.mpr c42
                          refine S_env [(0, .int .u64 wv), (1, .int .i64 upv), (2, .int .i64 i), (8, .slice (some (Addr.mk b_2 0 none)) 2 2), (9, .int .i64 k), (136, .bool true)] (by simp only [b43, Bool.not_true, Bool.not_false]) ?_
                          clear b43
                          refine S_condT (.tmp 136) morainelaw20_FrameNobody.k40 morainelaw20_FrameNobody.k41 (by kernel_rfl) (by kernel_rfl) ?_
                          refine S_seq morainelaw20_FrameNobody.k42 morainelaw20_FrameNobody.k43 (by kernel_rfl) ?_
                          refine S_region 15 (Code.ops morainelaw20_FrameNobody.k42) (by kernel_rfl) ?_
                          refine N_run 1 [(6, .bool false)] (fun w => by kernel_rfl) ?_
                          refine N_end (by kernel_rfl) ?_
                          refine S_then ?_
                          refine S_ret (by kernel_rfl) ?_
                          show At _ _ _ _ (Q .ret)
                          exact S_done (fn := Try.f6) [.bool false] hQ (show ResOK _ _ _ [.tmp 6] _ from .tmp (by kernel_rfl) (.nil)) h
                      · rw [if_neg c40] at h
                        have b41 : (x_6 != 0) = true := bne_iff_ne.mpr c40
                        refine N_env [(0, .int .u64 wv), (1, .int .i64 upv), (2, .int .i64 i), (8, .slice (some (Addr.mk b_2 0 none)) 2 2), (9, .int .i64 k), (10, .pointer x), (131, .bool true)] (by simp only [b41, Bool.not_true, Bool.not_false]) ?_
                        clear b41
                        refine N_run 5 [(0, .int .u64 wv), (1, .int .i64 upv), (2, .int .i64 i), (8, .slice (some (Addr.mk b_2 0 none)) 2 2), (9, .int .i64 k), (136, .bool true)] (fun w => by kernel_rfl) ?_
                        refine N_end (by kernel_rfl) ?_
                        refine S_then ?_
                        refine S_condT (.tmp 136) morainelaw20_FrameNobody.k40 morainelaw20_FrameNobody.k41 (by kernel_rfl) (by kernel_rfl) ?_
                        refine S_seq morainelaw20_FrameNobody.k42 morainelaw20_FrameNobody.k43 (by kernel_rfl) ?_
                        refine S_region 15 (Code.ops morainelaw20_FrameNobody.k42) (by kernel_rfl) ?_
                        refine N_run 1 [(6, .bool false)] (fun w => by kernel_rfl) ?_
                        refine N_end (by kernel_rfl) ?_
                        refine S_then ?_
                        refine S_ret (by kernel_rfl) ?_
                        show At _ _ _ _ (Q .ret)
                        exact S_done (fn := Try.f6) [.bool false] hQ (show ResOK _ _ _ [.tmp 6] _ from .tmp (by kernel_rfl) (.nil)) h
                    · rw [if_neg c38] at h
                      have b39 : (x_5 != 3) = true := bne_iff_ne.mpr c38
                      refine N_env [(0, .int .u64 wv), (1, .int .i64 upv), (2, .int .i64 i), (8, .slice (some (Addr.mk b_2 0 none)) 2 2), (9, .int .i64 k), (10, .pointer x), (125, .bool true)] (by simp only [b39, Bool.not_true, Bool.not_false]) ?_
                      clear b39
                      refine N_run 11 [(0, .int .u64 wv), (1, .int .i64 upv), (2, .int .i64 i), (8, .slice (some (Addr.mk b_2 0 none)) 2 2), (9, .int .i64 k), (136, .bool true)] (fun w => by kernel_rfl) ?_
                      refine N_end (by kernel_rfl) ?_
                      refine S_then ?_
                      refine S_condT (.tmp 136) morainelaw20_FrameNobody.k40 morainelaw20_FrameNobody.k41 (by kernel_rfl) (by kernel_rfl) ?_
                      refine S_seq morainelaw20_FrameNobody.k42 morainelaw20_FrameNobody.k43 (by kernel_rfl) ?_
                      refine S_region 15 (Code.ops morainelaw20_FrameNobody.k42) (by kernel_rfl) ?_
                      refine N_run 1 [(6, .bool false)] (fun w => by kernel_rfl) ?_
                      refine N_end (by kernel_rfl) ?_
                      refine S_then ?_
                      refine S_ret (by kernel_rfl) ?_
                      show At _ _ _ _ (Q .ret)
                      exact S_done (fn := Try.f6) [.bool false] hQ (show ResOK _ _ _ [.tmp 6] _ from .tmp (by kernel_rfl) (.nil)) h
                  · rw [if_neg c36] at h
                    have b37 : (rb_7 != 4) = true := bne_iff_ne.mpr c36
                    refine N_env [(0, .int .u64 wv), (1, .int .i64 upv), (2, .int .i64 i), (8, .slice (some (Addr.mk b_2 0 none)) 2 2), (9, .int .i64 k), (10, .pointer x), (117, .bool true)] (by simp only [b37, Bool.not_true, Bool.not_false]) ?_
                    clear b37
                    refine N_run 19 [(0, .int .u64 wv), (1, .int .i64 upv), (2, .int .i64 i), (8, .slice (some (Addr.mk b_2 0 none)) 2 2), (9, .int .i64 k), (136, .bool true)] (fun w => by kernel_rfl) ?_
                    refine N_end (by kernel_rfl) ?_
                    refine S_then ?_
                    refine S_condT (.tmp 136) morainelaw20_FrameNobody.k40 morainelaw20_FrameNobody.k41 (by kernel_rfl) (by kernel_rfl) ?_
                    refine S_seq morainelaw20_FrameNobody.k42 morainelaw20_FrameNobody.k43 (by kernel_rfl) ?_
                    refine S_region 15 (Code.ops morainelaw20_FrameNobody.k42) (by kernel_rfl) ?_
                    refine N_run 1 [(6, .bool false)] (fun w => by kernel_rfl) ?_
                    refine N_end (by kernel_rfl) ?_
                    refine S_then ?_
                    refine S_ret (by kernel_rfl) ?_
                    show At _ _ _ _ (Q .ret)
                    exact S_done (fn := Try.f6) [.bool false] hQ (show ResOK _ _ _ [.tmp 6] _ from .tmp (by kernel_rfl) (.nil)) h
              · rw [if_neg c26] at h
                have b27 : (rb_6 != 3) = true := bne_iff_ne.mpr c26
                refine N_env [(0, .int .u64 wv), (1, .int .i64 upv), (2, .int .i64 i), (8, .slice (some (Addr.mk b_2 0 none)) 2 2), (9, .int .i64 k), (10, .pointer x), (24, .int .i64 rb_7), (109, .bool true)] (by simp only [b27, Bool.not_true, Bool.not_false]) ?_
                clear b27
                refine N_run 27 [(0, .int .u64 wv), (1, .int .i64 upv), (2, .int .i64 i), (8, .slice (some (Addr.mk b_2 0 none)) 2 2), (9, .int .i64 k), (136, .bool true)] (fun w => by kernel_rfl) ?_
                refine N_end (by kernel_rfl) ?_
                refine S_then ?_
                refine S_condT (.tmp 136) morainelaw20_FrameNobody.k40 morainelaw20_FrameNobody.k41 (by kernel_rfl) (by kernel_rfl) ?_
                refine S_seq morainelaw20_FrameNobody.k42 morainelaw20_FrameNobody.k43 (by kernel_rfl) ?_
                refine S_region 15 (Code.ops morainelaw20_FrameNobody.k42) (by kernel_rfl) ?_
                refine N_run 1 [(6, .bool false)] (fun w => by kernel_rfl) ?_
                refine N_end (by kernel_rfl) ?_
                refine S_then ?_
                refine S_ret (by kernel_rfl) ?_
                show At _ _ _ _ (Q .ret)
                exact S_done (fn := Try.f6) [.bool false] hQ (show ResOK _ _ _ [.tmp 6] _ from .tmp (by kernel_rfl) (.nil)) h
            · rw [if_neg c24] at h
              have b25 : (rb_5 != 3) = true := bne_iff_ne.mpr c24
              refine N_env [(0, .int .u64 wv), (1, .int .i64 upv), (2, .int .i64 i), (8, .slice (some (Addr.mk b_2 0 none)) 2 2), (9, .int .i64 k), (10, .pointer x), (22, .int .i64 rb_6), (24, .int .i64 rb_7), (105, .bool true)] (by simp only [b25, Bool.not_true, Bool.not_false]) ?_
              clear b25
              refine N_run 31 [(0, .int .u64 wv), (1, .int .i64 upv), (2, .int .i64 i), (8, .slice (some (Addr.mk b_2 0 none)) 2 2), (9, .int .i64 k), (136, .bool true)] (fun w => by kernel_rfl) ?_
              refine N_end (by kernel_rfl) ?_
              refine S_then ?_
              refine S_condT (.tmp 136) morainelaw20_FrameNobody.k40 morainelaw20_FrameNobody.k41 (by kernel_rfl) (by kernel_rfl) ?_
              refine S_seq morainelaw20_FrameNobody.k42 morainelaw20_FrameNobody.k43 (by kernel_rfl) ?_
              refine S_region 15 (Code.ops morainelaw20_FrameNobody.k42) (by kernel_rfl) ?_
              refine N_run 1 [(6, .bool false)] (fun w => by kernel_rfl) ?_
              refine N_end (by kernel_rfl) ?_
              refine S_then ?_
              refine S_ret (by kernel_rfl) ?_
              show At _ _ _ _ (Q .ret)
              exact S_done (fn := Try.f6) [.bool false] hQ (show ResOK _ _ _ [.tmp 6] _ from .tmp (by kernel_rfl) (.nil)) h
          · rw [if_neg c22] at h
            have b23 : (rb_4 != 3) = true := bne_iff_ne.mpr c22
            refine N_env [(0, .int .u64 wv), (1, .int .i64 upv), (2, .int .i64 i), (8, .slice (some (Addr.mk b_2 0 none)) 2 2), (9, .int .i64 k), (10, .pointer x), (20, .int .i64 rb_5), (22, .int .i64 rb_6), (24, .int .i64 rb_7), (101, .bool true)] (by simp only [b23, Bool.not_true, Bool.not_false]) ?_
            clear b23
            refine N_run 35 [(0, .int .u64 wv), (1, .int .i64 upv), (2, .int .i64 i), (8, .slice (some (Addr.mk b_2 0 none)) 2 2), (9, .int .i64 k), (136, .bool true)] (fun w => by kernel_rfl) ?_
            refine N_end (by kernel_rfl) ?_
            refine S_then ?_
            refine S_condT (.tmp 136) morainelaw20_FrameNobody.k40 morainelaw20_FrameNobody.k41 (by kernel_rfl) (by kernel_rfl) ?_
            refine S_seq morainelaw20_FrameNobody.k42 morainelaw20_FrameNobody.k43 (by kernel_rfl) ?_
            refine S_region 15 (Code.ops morainelaw20_FrameNobody.k42) (by kernel_rfl) ?_
            refine N_run 1 [(6, .bool false)] (fun w => by kernel_rfl) ?_
            refine N_end (by kernel_rfl) ?_
            refine S_then ?_
            refine S_ret (by kernel_rfl) ?_
            show At _ _ _ _ (Q .ret)
            exact S_done (fn := Try.f6) [.bool false] hQ (show ResOK _ _ _ [.tmp 6] _ from .tmp (by kernel_rfl) (.nil)) h
        · rw [if_neg c20] at h
          have b21 : (rb_3 != 3) = true := bne_iff_ne.mpr c20
          refine N_env [(0, .int .u64 wv), (1, .int .i64 upv), (2, .int .i64 i), (8, .slice (some (Addr.mk b_2 0 none)) 2 2), (9, .int .i64 k), (10, .pointer x), (18, .int .i64 rb_4), (20, .int .i64 rb_5), (22, .int .i64 rb_6), (24, .int .i64 rb_7), (97, .bool true)] (by simp only [b21, Bool.not_true, Bool.not_false]) ?_
          clear b21
          refine N_run 39 [(0, .int .u64 wv), (1, .int .i64 upv), (2, .int .i64 i), (8, .slice (some (Addr.mk b_2 0 none)) 2 2), (9, .int .i64 k), (136, .bool true)] (fun w => by kernel_rfl) ?_
          refine N_end (by kernel_rfl) ?_
          refine S_then ?_
          refine S_condT (.tmp 136) morainelaw20_FrameNobody.k40 morainelaw20_FrameNobody.k41 (by kernel_rfl) (by kernel_rfl) ?_
          refine S_seq morainelaw20_FrameNobody.k42 morainelaw20_FrameNobody.k43 (by kernel_rfl) ?_
          refine S_region 15 (Code.ops morainelaw20_FrameNobody.k42) (by kernel_rfl) ?_
          refine N_run 1 [(6, .bool false)] (fun w => by kernel_rfl) ?_
          refine N_end (by kernel_rfl) ?_
          refine S_then ?_
          refine S_ret (by kernel_rfl) ?_
          show At _ _ _ _ (Q .ret)
          exact S_done (fn := Try.f6) [.bool false] hQ (show ResOK _ _ _ [.tmp 6] _ from .tmp (by kernel_rfl) (.nil)) h
      · rw [if_neg c18] at h
        have b19 : (rb_2 != 2) = true := bne_iff_ne.mpr c18
        refine N_env [(0, .int .u64 wv), (1, .int .i64 upv), (2, .int .i64 i), (8, .slice (some (Addr.mk b_2 0 none)) 2 2), (9, .int .i64 k), (10, .pointer x), (16, .int .i64 rb_3), (18, .int .i64 rb_4), (20, .int .i64 rb_5), (22, .int .i64 rb_6), (24, .int .i64 rb_7), (93, .bool true)] (by simp only [b19, Bool.not_true, Bool.not_false]) ?_
        clear b19
        refine N_run 43 [(0, .int .u64 wv), (1, .int .i64 upv), (2, .int .i64 i), (8, .slice (some (Addr.mk b_2 0 none)) 2 2), (9, .int .i64 k), (136, .bool true)] (fun w => by kernel_rfl) ?_
        refine N_end (by kernel_rfl) ?_
        refine S_then ?_
        refine S_condT (.tmp 136) morainelaw20_FrameNobody.k40 morainelaw20_FrameNobody.k41 (by kernel_rfl) (by kernel_rfl) ?_
        refine S_seq morainelaw20_FrameNobody.k42 morainelaw20_FrameNobody.k43 (by kernel_rfl) ?_
        refine S_region 15 (Code.ops morainelaw20_FrameNobody.k42) (by kernel_rfl) ?_
        refine N_run 1 [(6, .bool false)] (fun w => by kernel_rfl) ?_
        refine N_end (by kernel_rfl) ?_
        refine S_then ?_
        refine S_ret (by kernel_rfl) ?_
        show At _ _ _ _ (Q .ret)
        exact S_done (fn := Try.f6) [.bool false] hQ (show ResOK _ _ _ [.tmp 6] _ from .tmp (by kernel_rfl) (.nil)) h
    · rw [if_neg c16] at h
      have b17 : (rb != 2) = true := bne_iff_ne.mpr c16
      refine N_env [(0, .int .u64 wv), (1, .int .i64 upv), (2, .int .i64 i), (8, .slice (some (Addr.mk b_2 0 none)) 2 2), (9, .int .i64 k), (10, .pointer x), (14, .int .i64 rb_2), (16, .int .i64 rb_3), (18, .int .i64 rb_4), (20, .int .i64 rb_5), (22, .int .i64 rb_6), (24, .int .i64 rb_7), (89, .bool true)] (by simp only [b17, Bool.not_true, Bool.not_false]) ?_
      clear b17
      refine N_run 47 [(0, .int .u64 wv), (1, .int .i64 upv), (2, .int .i64 i), (8, .slice (some (Addr.mk b_2 0 none)) 2 2), (9, .int .i64 k), (136, .bool true)] (fun w => by kernel_rfl) ?_
      refine N_end (by kernel_rfl) ?_
      refine S_then ?_
      refine S_condT (.tmp 136) morainelaw20_FrameNobody.k40 morainelaw20_FrameNobody.k41 (by kernel_rfl) (by kernel_rfl) ?_
      refine S_seq morainelaw20_FrameNobody.k42 morainelaw20_FrameNobody.k43 (by kernel_rfl) ?_
      refine S_region 15 (Code.ops morainelaw20_FrameNobody.k42) (by kernel_rfl) ?_
      refine N_run 1 [(6, .bool false)] (fun w => by kernel_rfl) ?_
      refine N_end (by kernel_rfl) ?_
      refine S_then ?_
      refine S_ret (by kernel_rfl) ?_
      show At _ _ _ _ (Q .ret)
      exact S_done (fn := Try.f6) [.bool false] hQ (show ResOK _ _ _ [.tmp 6] _ from .tmp (by kernel_rfl) (.nil)) h
  · rw [if_neg c8] at h
    have b9 : (decide (k < (2 : Int))) = false := decide_eq_false c8
    refine S_env [(0, .int .u64 wv), (1, .int .i64 upv), (2, .int .i64 i), (8, .slice (some (Addr.mk b_2 0 none)) 2 2), (9, .int .i64 k), (32, .bool false)] (by simp only [b9, Bool.not_true, Bool.not_false]) ?_
    clear b9
    refine S_condF (.tmp 32) morainelaw20_FrameNobody.k17 morainelaw20_FrameNobody.k18 (by kernel_rfl) (by kernel_rfl) ?_
    refine S_exit 0 (by kernel_rfl) ?_
    refine S_exitThen ?_
    refine S_exitThen ?_
    refine S_exitHere ?_
    refine S_then ?_
    refine S_seq morainelaw20_FrameNobody.k44 morainelaw20_FrameNobody.k45 (by kernel_rfl) ?_
    refine S_region 16 (Code.ops morainelaw20_FrameNobody.k44) (by kernel_rfl) ?_
    refine N_sub [] (sb (by kernel_rfl)) ?_
    refine N_call (some 137) 12 #[] (fun w => by kernel_rfl) h ?_; clear h
    rintro v_14 H19 ⟨x_8, rfl, h⟩
    refine ⟨[(137, .bool x_8)], ps (by kernel_rfl), ?_⟩
    refine N_run 1 [(6, .bool x_8)] (fun w => by kernel_rfl) ?_
    refine N_end (by kernel_rfl) ?_
    refine S_then ?_
    refine S_ret (by kernel_rfl) ?_
    show At _ _ _ _ (Q .ret)
    exact S_done (fn := Try.f6) [.bool x_8] hQ (show ResOK _ _ _ [.tmp 6] _ from .tmp (by kernel_rfl) (.nil)) h

end Go.Proofs.Ytfohlkiikppefaa
