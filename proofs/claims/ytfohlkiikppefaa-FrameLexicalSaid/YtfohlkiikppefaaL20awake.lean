/-
  Written by a program of mine (gen.py): for functions of this translation a predicate transformer over heaps (.pt), and the proof that it is sound for the call (.link).
-/
import Derived.Test.YtfohlkiikppefaaFnsC
set_option linter.unusedSimpArgs false
set_option linter.unusedVariables false
set_option maxHeartbeats 1000000
namespace Go.Proofs.Ytfohlkiikppefaa
open Go
/-! moraine/morainelaw20.awake -/
noncomputable def morainelaw20_awake.k0 : Code := Func.code Try.f12
noncomputable def morainelaw20_awake.k1 : Code := Code.fa morainelaw20_awake.k0
noncomputable def morainelaw20_awake.k2 : Code := Code.fb morainelaw20_awake.k0
noncomputable def morainelaw20_awake.k3 : Code := Code.fa morainelaw20_awake.k2
noncomputable def morainelaw20_awake.k4 : Code := Code.fb morainelaw20_awake.k2
noncomputable def morainelaw20_awake.k5 : Code := Code.fa morainelaw20_awake.k4
noncomputable def morainelaw20_awake.k6 : Code := Code.fb morainelaw20_awake.k4
noncomputable def morainelaw20_awake.k7 : Code := Code.fa morainelaw20_awake.k5
noncomputable def morainelaw20_awake.k8 : Code := Code.fb morainelaw20_awake.k5
noncomputable def morainelaw20_awake.k9 : Code := Code.fa morainelaw20_awake.k8
noncomputable def morainelaw20_awake.k10 : Code := Code.fb morainelaw20_awake.k8
noncomputable def morainelaw20_awake.k11 : Code := Code.fa morainelaw20_awake.k9
noncomputable def morainelaw20_awake.k12 : Code := Code.fb morainelaw20_awake.k9
noncomputable def morainelaw20_awake.k13 : Code := Code.fa morainelaw20_awake.k6
noncomputable def morainelaw20_awake.k14 : Code := Code.fb morainelaw20_awake.k6
noncomputable def morainelaw20_awake.k15 : Code := Code.fa morainelaw20_awake.k14
noncomputable def morainelaw20_awake.k16 : Code := Code.fb morainelaw20_awake.k14
noncomputable def morainelaw20_awake.k17 : Code := Code.fa morainelaw20_awake.k16
noncomputable def morainelaw20_awake.k18 : Code := Code.fb morainelaw20_awake.k16
noncomputable def morainelaw20_awake.k19 : Code := Code.fa morainelaw20_awake.k18
noncomputable def morainelaw20_awake.k20 : Code := Code.fb morainelaw20_awake.k18
noncomputable def morainelaw20_awake.k21 : Code := Code.fa morainelaw20_awake.k20
noncomputable def morainelaw20_awake.k22 : Code := Code.fb morainelaw20_awake.k20
noncomputable def morainelaw20_awake.k23 : Code := Code.fa morainelaw20_awake.k22
noncomputable def morainelaw20_awake.k24 : Code := Code.fb morainelaw20_awake.k22
noncomputable def morainelaw20_awake.k25 : Code := Code.fa morainelaw20_awake.k24
noncomputable def morainelaw20_awake.k26 : Code := Code.fb morainelaw20_awake.k24
noncomputable def morainelaw20_awake.k27 : Code := Code.fa morainelaw20_awake.k26
noncomputable def morainelaw20_awake.k28 : Code := Code.fb morainelaw20_awake.k26
noncomputable def morainelaw20_awake.k29 : Code := Code.fa morainelaw20_awake.k28
noncomputable def morainelaw20_awake.k30 : Code := Code.fb morainelaw20_awake.k28
noncomputable def morainelaw20_awake.k31 : Code := Code.fa morainelaw20_awake.k30
noncomputable def morainelaw20_awake.k32 : Code := Code.fb morainelaw20_awake.k30
def morainelaw20_awake.pt  (H : Array Obj) (R : Value → Array Obj → Prop) : Prop :=
 obj_New.C 8 H (fun v H1 => ∃ ra : Option Addr, ∃ rb : Int, v = .tuple #[.pointer ra, .int .i64 rb] ∧ 
  if rb = 0 then (
   onPtr ra (
    R (.bool false) H1) (fun raA =>
    ∀ (b : Nat) (H2 : Array Obj), b = H1.size → H2 = H1.push (.cells #[.int .u64 8, .int .u64 16] 29) →
    frame_Extend.C (some raA) 20 (some (Addr.mk b 0 none)) 2 2 H2 (fun v_2 H3 => ∃ ra_2 : Int, ∃ rb_2 : Int, v_2 = .tuple #[.int .u64 ra_2, .int .i64 rb_2] ∧ 
     ∀ (b_2 : Nat) (H4 : Array Obj), b_2 = H3.size → H4 = H3.push (.cells #[.int .u64 24] 29) →
     frame_Extend.C (some raA) ra_2 (some (Addr.mk b_2 0 none)) 1 1 H4 (fun v_3 H5 => ∃ ra_3 : Int, ∃ rb_3 : Int, v_3 = .tuple #[.int .u64 ra_3, .int .i64 rb_3] ∧ 
      frame_Get.C (some raA) ra_3 1 1 H5 (fun v_4 H6 => ∃ ra_4 : Int, ∃ rb_4 : Int, v_4 = .tuple #[.int .u64 ra_4, .int .i64 rb_4] ∧ 
       frame_Get.C (some raA) ra_3 2 0 H6 (fun v_5 H7 => ∃ ra_5 : Int, ∃ rb_5 : Int, v_5 = .tuple #[.int .u64 ra_5, .int .i64 rb_5] ∧ 
        ∀ (b_3 : Nat) (H8 : Array Obj), b_3 = H7.size → H8 = H7.push (.cells #[.int .u64 8] 29) →
        frame_Push.C (some raA) 3 20 (some (Addr.mk b_3 0 none)) 1 1 H8 (fun v_6 H9 => ∃ ra_6 : Int, ∃ rb_6 : Int, v_6 = .tuple #[.int .u64 ra_6, .int .i64 rb_6] ∧ 
         frame_Push.C (some raA) 4 ra_6 none 0 0 H9 (fun v_7 H10 => ∃ ra_7 : Int, ∃ rb_7 : Int, v_7 = .tuple #[.int .u64 ra_7, .int .i64 rb_7] ∧ 
          frame_Kind.C (some raA) ra_7 H10 (fun v_8 H11 => ∃ ra_8 : Int, ∃ rb_8 : Int, v_8 = .tuple #[.int .i64 ra_8, .int .i64 rb_8] ∧ 
           frame_Next.C (some raA) ra_7 H11 (fun v_9 H12 => ∃ ra_9 : Int, ∃ rb_9 : Int, v_9 = .tuple #[.int .u64 ra_9, .int .i64 rb_9] ∧ 
            frame_Push.C (some raA) 0 ra_2 none 0 0 H12 (fun v_10 H13 => ∃ ra_10 : Int, ∃ rb_10 : Int, v_10 = .tuple #[.int .u64 ra_10, .int .i64 rb_10] ∧ 
             if rb_3 = 0 then (
              if ra_4 = 16 then (
               if rb_4 = 0 then (
                if rb_5 = 3 then (
                 if rb_7 = 0 then (
                  if ra_8 = 4 then (
                   if rb_8 = 0 then (
                    if ra_9 = ra_6 then (
                     if rb_9 = 0 then (
                      if rb_10 = 3 then (
                       frame_Count.C (some raA) ra_2 H13 (fun v_11 H14 => ∃ x : Int, v_11 = .int .i64 x ∧ 
                        R (.bool (x == 2)) H14))
                      else
                      R (.bool false) H13)
                     else
                     R (.bool false) H13)
                    else
                    R (.bool false) H13)
                   else
                   R (.bool false) H13)
                  else
                  R (.bool false) H13)
                 else
                 R (.bool false) H13)
                else
                R (.bool false) H13)
               else
               R (.bool false) H13)
              else
              R (.bool false) H13)
             else
             R (.bool false) H13)))))))))))
  else
  R (.bool false) H1)
set_option maxRecDepth 100000 in
theorem morainelaw20_awake.link  {H : Array Obj} {R : Value → Array Obj → Prop} (h : morainelaw20_awake.pt  H R) : morainelaw20_awake.C  H R := by
  refine S_enter (fn := Try.f12) (c := morainelaw20_awake.k0) 131 Try.func12 (by kernel_rfl) (by kernel_rfl) (Nat.le_of_ble_eq_true (by kernel_rfl)) ?_
  intro w0 Q hQ
  unfold morainelaw20_awake.pt at h
  refine S_sub [] (sb (by kernel_rfl)) ?_
  refine S_seq morainelaw20_awake.k1 morainelaw20_awake.k2 (by kernel_rfl) ?_
  refine S_region 0 (Code.ops morainelaw20_awake.k1) (by kernel_rfl) ?_
  refine N_run 1 [] (fun w => by kernel_rfl) ?_
  refine N_end (by kernel_rfl) ?_
  refine S_then ?_
  refine S_seq morainelaw20_awake.k3 morainelaw20_awake.k4 (by kernel_rfl) ?_
  refine S_region 1 (Code.ops morainelaw20_awake.k3) (by kernel_rfl) ?_
  refine N_call (some 22) 11 #[.int .i64 8] (fun w => by kernel_rfl) h ?_; clear h
  rintro v H1 ⟨ra, rb, rfl, h⟩
  refine ⟨[(22, .tuple #[.pointer ra, .int .i64 rb])], ps (by kernel_rfl), ?_⟩
  refine N_run 5 [(1, .pointer ra), (2, .int .i64 rb)] (fun w => by kernel_rfl) ?_
  refine N_end (by kernel_rfl) ?_
  refine S_then ?_
  refine S_seq morainelaw20_awake.k5 morainelaw20_awake.k6 (by kernel_rfl) ?_
  refine S_seq morainelaw20_awake.k7 morainelaw20_awake.k8 (by kernel_rfl) ?_
  refine S_region 2 (Code.ops morainelaw20_awake.k7) (by kernel_rfl) ?_
  refine N_run 3 [(1, .pointer ra), (27, .bool (rb != 0))] (fun w => by kernel_rfl) ?_
  by_cases c1 : rb = 0
  · rw [if_pos c1] at h
    have b2 : (rb != 0) = false := bne_eq_false_iff_eq.mpr c1
    refine N_env [(1, .pointer ra), (27, .bool false)] (by simp only [b2, Bool.not_true, Bool.not_false]) ?_
    clear b2
    refine N_run 1 [(1, .pointer ra), (27, .bool false), (28, .pointer ra)] (fun w => by kernel_rfl) ?_
    rcases ra with _ | raA
    · rw [onPtr_none] at h
      refine N_run 2 [(1, .pointer none), (30, .bool true)] (fun w => by kernel_rfl) ?_
      refine N_end (by kernel_rfl) ?_
      refine S_then ?_
      refine S_condT (.tmp 30) morainelaw20_awake.k9 morainelaw20_awake.k10 (by kernel_rfl) (by kernel_rfl) ?_
      refine S_seq morainelaw20_awake.k11 morainelaw20_awake.k12 (by kernel_rfl) ?_
      refine S_region 3 (Code.ops morainelaw20_awake.k11) (by kernel_rfl) ?_
      refine N_run 1 [(0, .bool false)] (fun w => by kernel_rfl) ?_
      refine N_end (by kernel_rfl) ?_
      refine S_then ?_
      refine S_ret (by kernel_rfl) ?_
      show At _ _ _ _ (Q .ret)
      exact S_done (fn := Try.f12) [.bool false] hQ (show ResOK _ _ _ [.tmp 0] _ from .tmp (by kernel_rfl) (.nil)) h
    · rw [onPtr_some] at h
      refine N_run 2 [(1, .pointer (some raA)), (30, .bool false)] (fun w => by kernel_rfl) ?_
      refine N_end (by kernel_rfl) ?_
      refine S_then ?_
      refine S_condF (.tmp 30) morainelaw20_awake.k9 morainelaw20_awake.k10 (by kernel_rfl) (by kernel_rfl) ?_
      refine S_skip (by kernel_rfl) ?_
      refine S_then ?_
      refine S_seq morainelaw20_awake.k13 morainelaw20_awake.k14 (by kernel_rfl) ?_
      refine S_region 4 (Code.ops morainelaw20_awake.k13) (by kernel_rfl) ?_
      refine N_run 1 [(1, .pointer (some raA)), (32, .pointer (some raA))] (fun w => by kernel_rfl) ?_
      refine N_new (some 33) (fun b => .slice (some (Addr.mk b 0 none)) 2 2) (.cells #[.int .u64 8, .int .u64 16] 29) (fun w => by kernel_rfl) ?_
      intro b H2 e3 e4
      replace h := h b H2 e3 e4
      refine ⟨[(1, .pointer (some raA)), (32, .pointer (some raA)), (33, .slice (some (Addr.mk b 0 none)) 2 2)], ps (by kernel_rfl), ?_⟩
      refine N_call (some 34) 20 #[.pointer (some raA), .int .u64 20, .slice (some (Addr.mk b 0 none)) 2 2] (fun w => by kernel_rfl) h ?_; clear h
      rintro v_2 H3 ⟨ra_2, rb_2, rfl, h⟩
      refine ⟨[(1, .pointer (some raA)), (34, .tuple #[.int .u64 ra_2, .int .i64 rb_2])], ps (by kernel_rfl), ?_⟩
      refine N_run 5 [(1, .pointer (some raA)), (3, .int .u64 ra_2)] (fun w => by kernel_rfl) ?_
      refine N_end (by kernel_rfl) ?_
      refine S_then ?_
      refine S_seq morainelaw20_awake.k15 morainelaw20_awake.k16 (by kernel_rfl) ?_
      refine S_region 5 (Code.ops morainelaw20_awake.k15) (by kernel_rfl) ?_
      refine N_run 2 [(1, .pointer (some raA)), (3, .int .u64 ra_2), (38, .pointer (some raA)), (39, .int .u64 ra_2)] (fun w => by kernel_rfl) ?_
      refine N_new (some 40) (fun b => .slice (some (Addr.mk b 0 none)) 1 1) (.cells #[.int .u64 24] 29) (fun w => by kernel_rfl) ?_
      intro b_2 H4 e5 e6
      replace h := h b_2 H4 e5 e6
      refine ⟨[(1, .pointer (some raA)), (3, .int .u64 ra_2), (38, .pointer (some raA)), (39, .int .u64 ra_2), (40, .slice (some (Addr.mk b_2 0 none)) 1 1)], ps (by kernel_rfl), ?_⟩
      refine N_call (some 41) 20 #[.pointer (some raA), .int .u64 ra_2, .slice (some (Addr.mk b_2 0 none)) 1 1] (fun w => by kernel_rfl) h ?_; clear h
      rintro v_3 H5 ⟨ra_3, rb_3, rfl, h⟩
      refine ⟨[(1, .pointer (some raA)), (3, .int .u64 ra_2), (41, .tuple #[.int .u64 ra_3, .int .i64 rb_3])], ps (by kernel_rfl), ?_⟩
      refine N_run 5 [(1, .pointer (some raA)), (3, .int .u64 ra_2), (5, .int .u64 ra_3), (6, .int .i64 rb_3)] (fun w => by kernel_rfl) ?_
      refine N_end (by kernel_rfl) ?_
      refine S_then ?_
      refine S_seq morainelaw20_awake.k17 morainelaw20_awake.k18 (by kernel_rfl) ?_
      refine S_region 6 (Code.ops morainelaw20_awake.k17) (by kernel_rfl) ?_
      refine N_run 2 [(1, .pointer (some raA)), (3, .int .u64 ra_2), (5, .int .u64 ra_3), (6, .int .i64 rb_3), (45, .pointer (some raA)), (46, .int .u64 ra_3)] (fun w => by kernel_rfl) ?_
      refine N_call (some 47) 21 #[.pointer (some raA), .int .u64 ra_3, .int .i64 1, .int .i64 1] (fun w => by kernel_rfl) h ?_; clear h
      rintro v_4 H6 ⟨ra_4, rb_4, rfl, h⟩
      refine ⟨[(1, .pointer (some raA)), (3, .int .u64 ra_2), (5, .int .u64 ra_3), (6, .int .i64 rb_3), (47, .tuple #[.int .u64 ra_4, .int .i64 rb_4])], ps (by kernel_rfl), ?_⟩
      refine N_run 5 [(1, .pointer (some raA)), (3, .int .u64 ra_2), (5, .int .u64 ra_3), (6, .int .i64 rb_3), (7, .int .u64 ra_4), (8, .int .i64 rb_4)] (fun w => by kernel_rfl) ?_
      refine N_end (by kernel_rfl) ?_
      refine S_then ?_
      refine S_seq morainelaw20_awake.k19 morainelaw20_awake.k20 (by kernel_rfl) ?_
      refine S_region 7 (Code.ops morainelaw20_awake.k19) (by kernel_rfl) ?_
      refine N_run 2 [(1, .pointer (some raA)), (3, .int .u64 ra_2), (6, .int .i64 rb_3), (7, .int .u64 ra_4), (8, .int .i64 rb_4), (51, .pointer (some raA)), (52, .int .u64 ra_3)] (fun w => by kernel_rfl) ?_
      refine N_call (some 53) 21 #[.pointer (some raA), .int .u64 ra_3, .int .i64 2, .int .i64 0] (fun w => by kernel_rfl) h ?_; clear h
      rintro v_5 H7 ⟨ra_5, rb_5, rfl, h⟩
      refine ⟨[(1, .pointer (some raA)), (3, .int .u64 ra_2), (6, .int .i64 rb_3), (7, .int .u64 ra_4), (8, .int .i64 rb_4), (53, .tuple #[.int .u64 ra_5, .int .i64 rb_5])], ps (by kernel_rfl), ?_⟩
      refine N_run 5 [(1, .pointer (some raA)), (3, .int .u64 ra_2), (6, .int .i64 rb_3), (7, .int .u64 ra_4), (8, .int .i64 rb_4), (10, .int .i64 rb_5)] (fun w => by kernel_rfl) ?_
      refine N_end (by kernel_rfl) ?_
      refine S_then ?_
      refine S_seq morainelaw20_awake.k21 morainelaw20_awake.k22 (by kernel_rfl) ?_
      refine S_region 8 (Code.ops morainelaw20_awake.k21) (by kernel_rfl) ?_
      refine N_run 1 [(1, .pointer (some raA)), (3, .int .u64 ra_2), (6, .int .i64 rb_3), (7, .int .u64 ra_4), (8, .int .i64 rb_4), (10, .int .i64 rb_5), (57, .pointer (some raA))] (fun w => by kernel_rfl) ?_
      refine N_new (some 58) (fun b => .slice (some (Addr.mk b 0 none)) 1 1) (.cells #[.int .u64 8] 29) (fun w => by kernel_rfl) ?_
      intro b_3 H8 e7 e8
      replace h := h b_3 H8 e7 e8
      refine ⟨[(1, .pointer (some raA)), (3, .int .u64 ra_2), (6, .int .i64 rb_3), (7, .int .u64 ra_4), (8, .int .i64 rb_4), (10, .int .i64 rb_5), (57, .pointer (some raA)), (58, .slice (some (Addr.mk b_3 0 none)) 1 1)], ps (by kernel_rfl), ?_⟩
      refine N_call (some 59) 16 #[.pointer (some raA), .int .i64 3, .int .u64 20, .slice (some (Addr.mk b_3 0 none)) 1 1] (fun w => by kernel_rfl) h ?_; clear h
      rintro v_6 H9 ⟨ra_6, rb_6, rfl, h⟩
      refine ⟨[(1, .pointer (some raA)), (3, .int .u64 ra_2), (6, .int .i64 rb_3), (7, .int .u64 ra_4), (8, .int .i64 rb_4), (10, .int .i64 rb_5), (59, .tuple #[.int .u64 ra_6, .int .i64 rb_6])], ps (by kernel_rfl), ?_⟩
      refine N_run 5 [(1, .pointer (some raA)), (3, .int .u64 ra_2), (6, .int .i64 rb_3), (7, .int .u64 ra_4), (8, .int .i64 rb_4), (10, .int .i64 rb_5), (11, .int .u64 ra_6)] (fun w => by kernel_rfl) ?_
      refine N_end (by kernel_rfl) ?_
      refine S_then ?_
      refine S_seq morainelaw20_awake.k23 morainelaw20_awake.k24 (by kernel_rfl) ?_
      refine S_region 9 (Code.ops morainelaw20_awake.k23) (by kernel_rfl) ?_
      refine N_run 2 [(1, .pointer (some raA)), (3, .int .u64 ra_2), (6, .int .i64 rb_3), (7, .int .u64 ra_4), (8, .int .i64 rb_4), (10, .int .i64 rb_5), (11, .int .u64 ra_6), (63, .pointer (some raA)), (64, .int .u64 ra_6)] (fun w => by kernel_rfl) ?_
      refine N_call (some 65) 16 #[.pointer (some raA), .int .i64 4, .int .u64 ra_6, .slice none 0 0] (fun w => by kernel_rfl) h ?_; clear h
      rintro v_7 H10 ⟨ra_7, rb_7, rfl, h⟩
      refine ⟨[(1, .pointer (some raA)), (3, .int .u64 ra_2), (6, .int .i64 rb_3), (7, .int .u64 ra_4), (8, .int .i64 rb_4), (10, .int .i64 rb_5), (11, .int .u64 ra_6), (65, .tuple #[.int .u64 ra_7, .int .i64 rb_7])], ps (by kernel_rfl), ?_⟩
      refine N_run 5 [(1, .pointer (some raA)), (3, .int .u64 ra_2), (6, .int .i64 rb_3), (7, .int .u64 ra_4), (8, .int .i64 rb_4), (10, .int .i64 rb_5), (11, .int .u64 ra_6), (13, .int .u64 ra_7), (14, .int .i64 rb_7)] (fun w => by kernel_rfl) ?_
      refine N_end (by kernel_rfl) ?_
      refine S_then ?_
      refine S_seq morainelaw20_awake.k25 morainelaw20_awake.k26 (by kernel_rfl) ?_
      refine S_region 10 (Code.ops morainelaw20_awake.k25) (by kernel_rfl) ?_
      refine N_run 2 [(1, .pointer (some raA)), (3, .int .u64 ra_2), (6, .int .i64 rb_3), (7, .int .u64 ra_4), (8, .int .i64 rb_4), (10, .int .i64 rb_5), (11, .int .u64 ra_6), (13, .int .u64 ra_7), (14, .int .i64 rb_7), (69, .pointer (some raA)), (70, .int .u64 ra_7)] (fun w => by kernel_rfl) ?_
      refine N_call (some 71) 14 #[.pointer (some raA), .int .u64 ra_7] (fun w => by kernel_rfl) h ?_; clear h
      rintro v_8 H11 ⟨ra_8, rb_8, rfl, h⟩
      refine ⟨[(1, .pointer (some raA)), (3, .int .u64 ra_2), (6, .int .i64 rb_3), (7, .int .u64 ra_4), (8, .int .i64 rb_4), (10, .int .i64 rb_5), (11, .int .u64 ra_6), (13, .int .u64 ra_7), (14, .int .i64 rb_7), (71, .tuple #[.int .i64 ra_8, .int .i64 rb_8])], ps (by kernel_rfl), ?_⟩
      refine N_run 5 [(1, .pointer (some raA)), (3, .int .u64 ra_2), (6, .int .i64 rb_3), (7, .int .u64 ra_4), (8, .int .i64 rb_4), (10, .int .i64 rb_5), (11, .int .u64 ra_6), (13, .int .u64 ra_7), (14, .int .i64 rb_7), (15, .int .i64 ra_8), (16, .int .i64 rb_8)] (fun w => by kernel_rfl) ?_
      refine N_end (by kernel_rfl) ?_
      refine S_then ?_
      refine S_seq morainelaw20_awake.k27 morainelaw20_awake.k28 (by kernel_rfl) ?_
      refine S_region 11 (Code.ops morainelaw20_awake.k27) (by kernel_rfl) ?_
      refine N_run 2 [(1, .pointer (some raA)), (3, .int .u64 ra_2), (6, .int .i64 rb_3), (7, .int .u64 ra_4), (8, .int .i64 rb_4), (10, .int .i64 rb_5), (11, .int .u64 ra_6), (14, .int .i64 rb_7), (15, .int .i64 ra_8), (16, .int .i64 rb_8), (75, .pointer (some raA)), (76, .int .u64 ra_7)] (fun w => by kernel_rfl) ?_
      refine N_call (some 77) 15 #[.pointer (some raA), .int .u64 ra_7] (fun w => by kernel_rfl) h ?_; clear h
      rintro v_9 H12 ⟨ra_9, rb_9, rfl, h⟩
      refine ⟨[(1, .pointer (some raA)), (3, .int .u64 ra_2), (6, .int .i64 rb_3), (7, .int .u64 ra_4), (8, .int .i64 rb_4), (10, .int .i64 rb_5), (11, .int .u64 ra_6), (14, .int .i64 rb_7), (15, .int .i64 ra_8), (16, .int .i64 rb_8), (77, .tuple #[.int .u64 ra_9, .int .i64 rb_9])], ps (by kernel_rfl), ?_⟩
      refine N_run 5 [(1, .pointer (some raA)), (3, .int .u64 ra_2), (6, .int .i64 rb_3), (7, .int .u64 ra_4), (8, .int .i64 rb_4), (10, .int .i64 rb_5), (11, .int .u64 ra_6), (14, .int .i64 rb_7), (15, .int .i64 ra_8), (16, .int .i64 rb_8), (17, .int .u64 ra_9), (18, .int .i64 rb_9)] (fun w => by kernel_rfl) ?_
      refine N_end (by kernel_rfl) ?_
      refine S_then ?_
      refine S_seq morainelaw20_awake.k29 morainelaw20_awake.k30 (by kernel_rfl) ?_
      refine S_region 12 (Code.ops morainelaw20_awake.k29) (by kernel_rfl) ?_
      refine N_run 2 [(1, .pointer (some raA)), (3, .int .u64 ra_2), (6, .int .i64 rb_3), (7, .int .u64 ra_4), (8, .int .i64 rb_4), (10, .int .i64 rb_5), (11, .int .u64 ra_6), (14, .int .i64 rb_7), (15, .int .i64 ra_8), (16, .int .i64 rb_8), (17, .int .u64 ra_9), (18, .int .i64 rb_9), (81, .pointer (some raA)), (82, .int .u64 ra_2)] (fun w => by kernel_rfl) ?_
      refine N_call (some 83) 16 #[.pointer (some raA), .int .i64 0, .int .u64 ra_2, .slice none 0 0] (fun w => by kernel_rfl) h ?_; clear h
      rintro v_10 H13 ⟨ra_10, rb_10, rfl, h⟩
      refine ⟨[(1, .pointer (some raA)), (3, .int .u64 ra_2), (6, .int .i64 rb_3), (7, .int .u64 ra_4), (8, .int .i64 rb_4), (10, .int .i64 rb_5), (11, .int .u64 ra_6), (14, .int .i64 rb_7), (15, .int .i64 ra_8), (16, .int .i64 rb_8), (17, .int .u64 ra_9), (18, .int .i64 rb_9), (83, .tuple #[.int .u64 ra_10, .int .i64 rb_10])], ps (by kernel_rfl), ?_⟩
      refine N_run 5 [(1, .pointer (some raA)), (3, .int .u64 ra_2), (6, .int .i64 rb_3), (7, .int .u64 ra_4), (8, .int .i64 rb_4), (10, .int .i64 rb_5), (11, .int .u64 ra_6), (14, .int .i64 rb_7), (15, .int .i64 ra_8), (16, .int .i64 rb_8), (17, .int .u64 ra_9), (18, .int .i64 rb_9), (20, .int .i64 rb_10)] (fun w => by kernel_rfl) ?_
      refine N_end (by kernel_rfl) ?_
      refine S_then ?_
      refine S_seq morainelaw20_awake.k31 morainelaw20_awake.k32 (by kernel_rfl) ?_
      refine S_region 13 (Code.ops morainelaw20_awake.k31) (by kernel_rfl) ?_
      refine N_run 3 [(1, .pointer (some raA)), (3, .int .u64 ra_2), (7, .int .u64 ra_4), (8, .int .i64 rb_4), (10, .int .i64 rb_5), (11, .int .u64 ra_6), (14, .int .i64 rb_7), (15, .int .i64 ra_8), (16, .int .i64 rb_8), (17, .int .u64 ra_9), (18, .int .i64 rb_9), (20, .int .i64 rb_10), (88, .bool (rb_3 == 0))] (fun w => by kernel_rfl) ?_
      by_cases c9 : rb_3 = 0
      · rw [if_pos c9] at h
        have b10 : (rb_3 == 0) = true := beq_iff_eq.mpr c9
        refine N_env [(1, .pointer (some raA)), (3, .int .u64 ra_2), (7, .int .u64 ra_4), (8, .int .i64 rb_4), (10, .int .i64 rb_5), (11, .int .u64 ra_6), (14, .int .i64 rb_7), (15, .int .i64 ra_8), (16, .int .i64 rb_8), (17, .int .u64 ra_9), (18, .int .i64 rb_9), (20, .int .i64 rb_10), (88, .bool true)] (by simp only [b10, Bool.not_true, Bool.not_false]) ?_
        clear b10
        refine N_run 4 [(1, .pointer (some raA)), (3, .int .u64 ra_2), (8, .int .i64 rb_4), (10, .int .i64 rb_5), (11, .int .u64 ra_6), (14, .int .i64 rb_7), (15, .int .i64 ra_8), (16, .int .i64 rb_8), (17, .int .u64 ra_9), (18, .int .i64 rb_9), (20, .int .i64 rb_10), (92, .bool (ra_4 == 16))] (fun w => by kernel_rfl) ?_
        by_cases c11 : ra_4 = 16
        · rw [if_pos c11] at h
          have b12 : (ra_4 == 16) = true := beq_iff_eq.mpr c11
          refine N_env [(1, .pointer (some raA)), (3, .int .u64 ra_2), (8, .int .i64 rb_4), (10, .int .i64 rb_5), (11, .int .u64 ra_6), (14, .int .i64 rb_7), (15, .int .i64 ra_8), (16, .int .i64 rb_8), (17, .int .u64 ra_9), (18, .int .i64 rb_9), (20, .int .i64 rb_10), (92, .bool true)] (by simp only [b12, Bool.not_true, Bool.not_false]) ?_
          clear b12
          refine N_run 4 [(1, .pointer (some raA)), (3, .int .u64 ra_2), (10, .int .i64 rb_5), (11, .int .u64 ra_6), (14, .int .i64 rb_7), (15, .int .i64 ra_8), (16, .int .i64 rb_8), (17, .int .u64 ra_9), (18, .int .i64 rb_9), (20, .int .i64 rb_10), (96, .bool (rb_4 == 0))] (fun w => by kernel_rfl) ?_
          by_cases c13 : rb_4 = 0
          · rw [if_pos c13] at h
            have b14 : (rb_4 == 0) = true := beq_iff_eq.mpr c13
            refine N_env [(1, .pointer (some raA)), (3, .int .u64 ra_2), (10, .int .i64 rb_5), (11, .int .u64 ra_6), (14, .int .i64 rb_7), (15, .int .i64 ra_8), (16, .int .i64 rb_8), (17, .int .u64 ra_9), (18, .int .i64 rb_9), (20, .int .i64 rb_10), (96, .bool true)] (by simp only [b14, Bool.not_true, Bool.not_false]) ?_
            clear b14
            refine N_run 4 [(1, .pointer (some raA)), (3, .int .u64 ra_2), (11, .int .u64 ra_6), (14, .int .i64 rb_7), (15, .int .i64 ra_8), (16, .int .i64 rb_8), (17, .int .u64 ra_9), (18, .int .i64 rb_9), (20, .int .i64 rb_10), (100, .bool (rb_5 == 3))] (fun w => by kernel_rfl) ?_
            by_cases c15 : rb_5 = 3
            · rw [if_pos c15] at h
              have b16 : (rb_5 == 3) = true := beq_iff_eq.mpr c15
              refine N_env [(1, .pointer (some raA)), (3, .int .u64 ra_2), (11, .int .u64 ra_6), (14, .int .i64 rb_7), (15, .int .i64 ra_8), (16, .int .i64 rb_8), (17, .int .u64 ra_9), (18, .int .i64 rb_9), (20, .int .i64 rb_10), (100, .bool true)] (by simp only [b16, Bool.not_true, Bool.not_false]) ?_
              clear b16
              refine N_run 4 [(1, .pointer (some raA)), (3, .int .u64 ra_2), (11, .int .u64 ra_6), (15, .int .i64 ra_8), (16, .int .i64 rb_8), (17, .int .u64 ra_9), (18, .int .i64 rb_9), (20, .int .i64 rb_10), (104, .bool (rb_7 == 0))] (fun w => by kernel_rfl) ?_
              by_cases c17 : rb_7 = 0
              · rw [if_pos c17] at h
                have b18 : (rb_7 == 0) = true := beq_iff_eq.mpr c17
                refine N_env [(1, .pointer (some raA)), (3, .int .u64 ra_2), (11, .int .u64 ra_6), (15, .int .i64 ra_8), (16, .int .i64 rb_8), (17, .int .u64 ra_9), (18, .int .i64 rb_9), (20, .int .i64 rb_10), (104, .bool true)] (by simp only [b18, Bool.not_true, Bool.not_false]) ?_
                clear b18
                refine N_run 4 [(1, .pointer (some raA)), (3, .int .u64 ra_2), (11, .int .u64 ra_6), (16, .int .i64 rb_8), (17, .int .u64 ra_9), (18, .int .i64 rb_9), (20, .int .i64 rb_10), (108, .bool (ra_8 == 4))] (fun w => by kernel_rfl) ?_
                by_cases c19 : ra_8 = 4
                · rw [if_pos c19] at h
                  have b20 : (ra_8 == 4) = true := beq_iff_eq.mpr c19
                  refine N_env [(1, .pointer (some raA)), (3, .int .u64 ra_2), (11, .int .u64 ra_6), (16, .int .i64 rb_8), (17, .int .u64 ra_9), (18, .int .i64 rb_9), (20, .int .i64 rb_10), (108, .bool true)] (by simp only [b20, Bool.not_true, Bool.not_false]) ?_
                  clear b20
                  refine N_run 4 [(1, .pointer (some raA)), (3, .int .u64 ra_2), (11, .int .u64 ra_6), (17, .int .u64 ra_9), (18, .int .i64 rb_9), (20, .int .i64 rb_10), (112, .bool (rb_8 == 0))] (fun w => by kernel_rfl) ?_
                  by_cases c21 : rb_8 = 0
                  · rw [if_pos c21] at h
                    have b22 : (rb_8 == 0) = true := beq_iff_eq.mpr c21
                    refine N_env [(1, .pointer (some raA)), (3, .int .u64 ra_2), (11, .int .u64 ra_6), (17, .int .u64 ra_9), (18, .int .i64 rb_9), (20, .int .i64 rb_10), (112, .bool true)] (by simp only [b22, Bool.not_true, Bool.not_false]) ?_
                    clear b22
                    refine N_run 5 [(1, .pointer (some raA)), (3, .int .u64 ra_2), (18, .int .i64 rb_9), (20, .int .i64 rb_10), (117, .bool (ra_9 == ra_6))] (fun w => by kernel_rfl) ?_
                    by_cases c23 : ra_9 = ra_6
                    · rw [if_pos c23] at h
                      have b24 : (ra_9 == ra_6) = true := beq_iff_eq.mpr c23
                      refine N_env [(1, .pointer (some raA)), (3, .int .u64 ra_2), (18, .int .i64 rb_9), (20, .int .i64 rb_10), (117, .bool true)] (by simp only [b24, Bool.not_true, Bool.not_false]) ?_
                      clear b24
                      refine N_run 4 [(1, .pointer (some raA)), (3, .int .u64 ra_2), (20, .int .i64 rb_10), (121, .bool (rb_9 == 0))] (fun w => by kernel_rfl) ?_
                      by_cases c25 : rb_9 = 0
                      · rw [if_pos c25] at h
                        have b26 : (rb_9 == 0) = true := beq_iff_eq.mpr c25
                        refine N_env [(1, .pointer (some raA)), (3, .int .u64 ra_2), (20, .int .i64 rb_10), (121, .bool true)] (by simp only [b26, Bool.not_true, Bool.not_false]) ?_
                        clear b26
                        refine N_run 4 [(1, .pointer (some raA)), (3, .int .u64 ra_2), (125, .bool (rb_10 == 3))] (fun w => by kernel_rfl) ?_
                        by_cases c27 : rb_10 = 3
                        · rw [if_pos c27] at h
                          have b28 : (rb_10 == 3) = true := beq_iff_eq.mpr c27
                          refine N_env [(1, .pointer (some raA)), (3, .int .u64 ra_2), (125, .bool true)] (by simp only [b28, Bool.not_true, Bool.not_false]) ?_
                          clear b28
                          refine N_run 2 [(125, .bool true), (126, .pointer (some raA)), (127, .int .u64 ra_2)] (fun w => by kernel_rfl) ?_
                          refine N_call (some 128) 22 #[.pointer (some raA), .int .u64 ra_2] (fun w => by kernel_rfl) h ?_; clear h
                          rintro v_11 H14 ⟨x, rfl, h⟩
                          refine ⟨[(125, .bool true), (128, .int .i64 x)], ps (by kernel_rfl), ?_⟩
                          refine N_run 3 [(0, .bool (x == 2))] (fun w => by kernel_rfl) ?_
                          refine N_end (by kernel_rfl) ?_
                          refine S_then ?_
                          refine S_ret (by kernel_rfl) ?_
                          show At _ _ _ _ (Q .ret)
                          exact S_done (fn := Try.f12) [.bool (x == 2)] hQ (show ResOK _ _ _ [.tmp 0] _ from .tmp (by kernel_rfl) (.nil)) h
                        · rw [if_neg c27] at h
                          have b28 : (rb_10 == 3) = false := beq_eq_false_iff_ne.mpr c27
                          refine N_env [(1, .pointer (some raA)), (3, .int .u64 ra_2), (125, .bool false)] (by simp only [b28, Bool.not_true, Bool.not_false]) ?_
                          clear b28
                          refine N_run 6 [(0, .bool false)] (fun w => by kernel_rfl) ?_
                          refine N_end (by kernel_rfl) ?_
                          refine S_then ?_
                          refine S_ret (by kernel_rfl) ?_
                          show At _ _ _ _ (Q .ret)
                          exact S_done (fn := Try.f12) [.bool false] hQ (show ResOK _ _ _ [.tmp 0] _ from .tmp (by kernel_rfl) (.nil)) h
                      · rw [if_neg c25] at h
                        have b26 : (rb_9 == 0) = false := beq_eq_false_iff_ne.mpr c25
                        refine N_env [(1, .pointer (some raA)), (3, .int .u64 ra_2), (20, .int .i64 rb_10), (121, .bool false)] (by simp only [b26, Bool.not_true, Bool.not_false]) ?_
                        clear b26
                        refine N_run 10 [(0, .bool false)] (fun w => by kernel_rfl) ?_
                        refine N_end (by kernel_rfl) ?_
                        refine S_then ?_
                        refine S_ret (by kernel_rfl) ?_
                        show At _ _ _ _ (Q .ret)
                        exact S_done (fn := Try.f12) [.bool false] hQ (show ResOK _ _ _ [.tmp 0] _ from .tmp (by kernel_rfl) (.nil)) h
                    · rw [if_neg c23] at h
                      have b24 : (ra_9 == ra_6) = false := beq_eq_false_iff_ne.mpr c23
                      refine N_env [(1, .pointer (some raA)), (3, .int .u64 ra_2), (18, .int .i64 rb_9), (20, .int .i64 rb_10), (117, .bool false)] (by simp only [b24, Bool.not_true, Bool.not_false]) ?_
                      clear b24
                      refine N_run 14 [(0, .bool false)] (fun w => by kernel_rfl) ?_
                      refine N_end (by kernel_rfl) ?_
                      refine S_then ?_
                      refine S_ret (by kernel_rfl) ?_
                      show At _ _ _ _ (Q .ret)
                      exact S_done (fn := Try.f12) [.bool false] hQ (show ResOK _ _ _ [.tmp 0] _ from .tmp (by kernel_rfl) (.nil)) h
                  · rw [if_neg c21] at h
                    have b22 : (rb_8 == 0) = false := beq_eq_false_iff_ne.mpr c21
                    refine N_env [(1, .pointer (some raA)), (3, .int .u64 ra_2), (11, .int .u64 ra_6), (17, .int .u64 ra_9), (18, .int .i64 rb_9), (20, .int .i64 rb_10), (112, .bool false)] (by simp only [b22, Bool.not_true, Bool.not_false]) ?_
                    clear b22
                    refine N_run 19 [(0, .bool false)] (fun w => by kernel_rfl) ?_
                    refine N_end (by kernel_rfl) ?_
                    refine S_then ?_
                    refine S_ret (by kernel_rfl) ?_
                    show At _ _ _ _ (Q .ret)
                    exact S_done (fn := Try.f12) [.bool false] hQ (show ResOK _ _ _ [.tmp 0] _ from .tmp (by kernel_rfl) (.nil)) h
                · rw [if_neg c19] at h
                  have b20 : (ra_8 == 4) = false := beq_eq_false_iff_ne.mpr c19
                  refine N_env [(1, .pointer (some raA)), (3, .int .u64 ra_2), (11, .int .u64 ra_6), (16, .int .i64 rb_8), (17, .int .u64 ra_9), (18, .int .i64 rb_9), (20, .int .i64 rb_10), (108, .bool false)] (by simp only [b20, Bool.not_true, Bool.not_false]) ?_
                  clear b20
                  refine N_run 23 [(0, .bool false)] (fun w => by kernel_rfl) ?_
                  refine N_end (by kernel_rfl) ?_
                  refine S_then ?_
                  refine S_ret (by kernel_rfl) ?_
                  show At _ _ _ _ (Q .ret)
                  exact S_done (fn := Try.f12) [.bool false] hQ (show ResOK _ _ _ [.tmp 0] _ from .tmp (by kernel_rfl) (.nil)) h
              · rw [if_neg c17] at h
                have b18 : (rb_7 == 0) = false := beq_eq_false_iff_ne.mpr c17
                refine N_env [(1, .pointer (some raA)), (3, .int .u64 ra_2), (11, .int .u64 ra_6), (15, .int .i64 ra_8), (16, .int .i64 rb_8), (17, .int .u64 ra_9), (18, .int .i64 rb_9), (20, .int .i64 rb_10), (104, .bool false)] (by simp only [b18, Bool.not_true, Bool.not_false]) ?_
                clear b18
                refine N_run 27 [(0, .bool false)] (fun w => by kernel_rfl) ?_
                refine N_end (by kernel_rfl) ?_
                refine S_then ?_
                refine S_ret (by kernel_rfl) ?_
                show At _ _ _ _ (Q .ret)
                exact S_done (fn := Try.f12) [.bool false] hQ (show ResOK _ _ _ [.tmp 0] _ from .tmp (by kernel_rfl) (.nil)) h
            · rw [if_neg c15] at h
              have b16 : (rb_5 == 3) = false := beq_eq_false_iff_ne.mpr c15
              refine N_env [(1, .pointer (some raA)), (3, .int .u64 ra_2), (11, .int .u64 ra_6), (14, .int .i64 rb_7), (15, .int .i64 ra_8), (16, .int .i64 rb_8), (17, .int .u64 ra_9), (18, .int .i64 rb_9), (20, .int .i64 rb_10), (100, .bool false)] (by simp only [b16, Bool.not_true, Bool.not_false]) ?_
              clear b16
              refine N_run 31 [(0, .bool false)] (fun w => by kernel_rfl) ?_
              refine N_end (by kernel_rfl) ?_
              refine S_then ?_
              refine S_ret (by kernel_rfl) ?_
              show At _ _ _ _ (Q .ret)
              exact S_done (fn := Try.f12) [.bool false] hQ (show ResOK _ _ _ [.tmp 0] _ from .tmp (by kernel_rfl) (.nil)) h
          · rw [if_neg c13] at h
            have b14 : (rb_4 == 0) = false := beq_eq_false_iff_ne.mpr c13
            refine N_env [(1, .pointer (some raA)), (3, .int .u64 ra_2), (10, .int .i64 rb_5), (11, .int .u64 ra_6), (14, .int .i64 rb_7), (15, .int .i64 ra_8), (16, .int .i64 rb_8), (17, .int .u64 ra_9), (18, .int .i64 rb_9), (20, .int .i64 rb_10), (96, .bool false)] (by simp only [b14, Bool.not_true, Bool.not_false]) ?_
            clear b14
            refine N_run 35 [(0, .bool false)] (fun w => by kernel_rfl) ?_
            refine N_end (by kernel_rfl) ?_
            refine S_then ?_
            refine S_ret (by kernel_rfl) ?_
            show At _ _ _ _ (Q .ret)
            exact S_done (fn := Try.f12) [.bool false] hQ (show ResOK _ _ _ [.tmp 0] _ from .tmp (by kernel_rfl) (.nil)) h
        · rw [if_neg c11] at h
          have b12 : (ra_4 == 16) = false := beq_eq_false_iff_ne.mpr c11
          refine N_env [(1, .pointer (some raA)), (3, .int .u64 ra_2), (8, .int .i64 rb_4), (10, .int .i64 rb_5), (11, .int .u64 ra_6), (14, .int .i64 rb_7), (15, .int .i64 ra_8), (16, .int .i64 rb_8), (17, .int .u64 ra_9), (18, .int .i64 rb_9), (20, .int .i64 rb_10), (92, .bool false)] (by simp only [b12, Bool.not_true, Bool.not_false]) ?_
          clear b12
          refine N_run 39 [(0, .bool false)] (fun w => by kernel_rfl) ?_
          refine N_end (by kernel_rfl) ?_
          refine S_then ?_
          refine S_ret (by kernel_rfl) ?_
          show At _ _ _ _ (Q .ret)
          exact S_done (fn := Try.f12) [.bool false] hQ (show ResOK _ _ _ [.tmp 0] _ from .tmp (by kernel_rfl) (.nil)) h
      · rw [if_neg c9] at h
        have b10 : (rb_3 == 0) = false := beq_eq_false_iff_ne.mpr c9
        refine N_env [(1, .pointer (some raA)), (3, .int .u64 ra_2), (7, .int .u64 ra_4), (8, .int .i64 rb_4), (10, .int .i64 rb_5), (11, .int .u64 ra_6), (14, .int .i64 rb_7), (15, .int .i64 ra_8), (16, .int .i64 rb_8), (17, .int .u64 ra_9), (18, .int .i64 rb_9), (20, .int .i64 rb_10), (88, .bool false)] (by simp only [b10, Bool.not_true, Bool.not_false]) ?_
        clear b10
        refine N_run 43 [(0, .bool false)] (fun w => by kernel_rfl) ?_
        refine N_end (by kernel_rfl) ?_
        refine S_then ?_
        refine S_ret (by kernel_rfl) ?_
        show At _ _ _ _ (Q .ret)
        exact S_done (fn := Try.f12) [.bool false] hQ (show ResOK _ _ _ [.tmp 0] _ from .tmp (by kernel_rfl) (.nil)) h
  · rw [if_neg c1] at h
    have b2 : (rb != 0) = true := bne_iff_ne.mpr c1
    refine N_env [(1, .pointer ra), (27, .bool true)] (by simp only [b2, Bool.not_true, Bool.not_false]) ?_
    clear b2
    refine N_run 3 [(1, .pointer ra), (30, .bool true)] (fun w => by kernel_rfl) ?_
    refine N_end (by kernel_rfl) ?_
    refine S_then ?_
    refine S_condT (.tmp 30) morainelaw20_awake.k9 morainelaw20_awake.k10 (by kernel_rfl) (by kernel_rfl) ?_
    refine S_seq morainelaw20_awake.k11 morainelaw20_awake.k12 (by kernel_rfl) ?_
    refine S_region 3 (Code.ops morainelaw20_awake.k11) (by kernel_rfl) ?_
    refine N_run 1 [(0, .bool false)] (fun w => by kernel_rfl) ?_
    refine N_end (by kernel_rfl) ?_
    refine S_then ?_
    refine S_ret (by kernel_rfl) ?_
    show At _ _ _ _ (Q .ret)
    exact S_done (fn := Try.f12) [.bool false] hQ (show ResOK _ _ _ [.tmp 0] _ from .tmp (by kernel_rfl) (.nil)) h

end Go.Proofs.Ytfohlkiikppefaa
