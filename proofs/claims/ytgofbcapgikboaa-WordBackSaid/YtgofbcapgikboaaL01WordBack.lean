/-
  Written by a program of mine (gen.py): for functions of this translation a predicate transformer over heaps (.pt), and the proof that it is sound for the call (.link).
-/
import Derived.Test.YtgofbcapgikboaaFnsC
set_option linter.unusedSimpArgs false
set_option linter.unusedVariables false
namespace Go.Proofs.Ytgofbcapgikboaa
open Go
/-! moraine/morainelaw01.WordBack -/
noncomputable def morainelaw01_WordBack.k0 : Code := Func.code Try.f8
noncomputable def morainelaw01_WordBack.k1 : Code := Code.fa morainelaw01_WordBack.k0
noncomputable def morainelaw01_WordBack.k2 : Code := Code.fb morainelaw01_WordBack.k0
noncomputable def morainelaw01_WordBack.k3 : Code := Code.fa morainelaw01_WordBack.k2
noncomputable def morainelaw01_WordBack.k4 : Code := Code.fb morainelaw01_WordBack.k2
noncomputable def morainelaw01_WordBack.k5 : Code := Code.fa morainelaw01_WordBack.k4
noncomputable def morainelaw01_WordBack.k6 : Code := Code.fb morainelaw01_WordBack.k4
noncomputable def morainelaw01_WordBack.k7 : Code := Code.fa morainelaw01_WordBack.k6
noncomputable def morainelaw01_WordBack.k8 : Code := Code.fb morainelaw01_WordBack.k6
noncomputable def morainelaw01_WordBack.k9 : Code := Code.fa morainelaw01_WordBack.k8
noncomputable def morainelaw01_WordBack.k10 : Code := Code.fb morainelaw01_WordBack.k8
noncomputable def morainelaw01_WordBack.k11 : Code := Code.fa morainelaw01_WordBack.k10
noncomputable def morainelaw01_WordBack.k12 : Code := Code.fb morainelaw01_WordBack.k10
noncomputable def morainelaw01_WordBack.k13 : Code := Code.fa morainelaw01_WordBack.k12
noncomputable def morainelaw01_WordBack.k14 : Code := Code.fb morainelaw01_WordBack.k12
noncomputable def morainelaw01_WordBack.k15 : Code := Code.fa morainelaw01_WordBack.k14
noncomputable def morainelaw01_WordBack.k16 : Code := Code.fb morainelaw01_WordBack.k14
noncomputable def morainelaw01_WordBack.k17 : Code := Code.fa morainelaw01_WordBack.k16
noncomputable def morainelaw01_WordBack.k18 : Code := Code.fb morainelaw01_WordBack.k16
noncomputable def morainelaw01_WordBack.k19 : Code := Code.fa morainelaw01_WordBack.k17
noncomputable def morainelaw01_WordBack.k20 : Code := Code.fb morainelaw01_WordBack.k17
noncomputable def morainelaw01_WordBack.k21 : Code := Code.fa morainelaw01_WordBack.k20
noncomputable def morainelaw01_WordBack.k22 : Code := Code.fa morainelaw01_WordBack.k21
noncomputable def morainelaw01_WordBack.k23 : Code := Code.fa morainelaw01_WordBack.k22
noncomputable def morainelaw01_WordBack.k24 : Code := Code.fb morainelaw01_WordBack.k22
noncomputable def morainelaw01_WordBack.k25 : Code := Code.fa morainelaw01_WordBack.k23
noncomputable def morainelaw01_WordBack.k26 : Code := Code.fb morainelaw01_WordBack.k23
noncomputable def morainelaw01_WordBack.k27 : Code := Code.fa morainelaw01_WordBack.k26
noncomputable def morainelaw01_WordBack.k28 : Code := Code.fb morainelaw01_WordBack.k26
noncomputable def morainelaw01_WordBack.k29 : Code := Code.fa morainelaw01_WordBack.k24
noncomputable def morainelaw01_WordBack.k30 : Code := Code.fb morainelaw01_WordBack.k24
noncomputable def morainelaw01_WordBack.k31 : Code := Code.fa morainelaw01_WordBack.k29
noncomputable def morainelaw01_WordBack.k32 : Code := Code.fa morainelaw01_WordBack.k31
noncomputable def morainelaw01_WordBack.k33 : Code := Code.fb morainelaw01_WordBack.k31
noncomputable def morainelaw01_WordBack.k34 : Code := Code.fa morainelaw01_WordBack.k33
noncomputable def morainelaw01_WordBack.k35 : Code := Code.fb morainelaw01_WordBack.k33
noncomputable def morainelaw01_WordBack.k36 : Code := Code.fa morainelaw01_WordBack.k18
noncomputable def morainelaw01_WordBack.k37 : Code := Code.fb morainelaw01_WordBack.k18
noncomputable def morainelaw01_WordBack.k38 : Code := Code.fa morainelaw01_WordBack.k36
noncomputable def morainelaw01_WordBack.k39 : Code := Code.fb morainelaw01_WordBack.k36
noncomputable def morainelaw01_WordBack.k40 : Code := Code.fa morainelaw01_WordBack.k39
noncomputable def morainelaw01_WordBack.k41 : Code := Code.fb morainelaw01_WordBack.k39
noncomputable def morainelaw01_WordBack.k42 : Code := Code.fa morainelaw01_WordBack.k40
noncomputable def morainelaw01_WordBack.k43 : Code := Code.fb morainelaw01_WordBack.k40
noncomputable def morainelaw01_WordBack.k44 : Code := Code.fa morainelaw01_WordBack.k37
noncomputable def morainelaw01_WordBack.k45 : Code := Code.fb morainelaw01_WordBack.k37
noncomputable def morainelaw01_WordBack.k46 : Code := Code.fa morainelaw01_WordBack.k45
noncomputable def morainelaw01_WordBack.k47 : Code := Code.fb morainelaw01_WordBack.k45
noncomputable def morainelaw01_WordBack.k48 : Code := Code.fa morainelaw01_WordBack.k47
noncomputable def morainelaw01_WordBack.k49 : Code := Code.fb morainelaw01_WordBack.k47
noncomputable def morainelaw01_WordBack.k50 : Code := Code.fa morainelaw01_WordBack.k48
noncomputable def morainelaw01_WordBack.k51 : Code := Code.fa morainelaw01_WordBack.k50
noncomputable def morainelaw01_WordBack.k52 : Code := Code.fb morainelaw01_WordBack.k50
noncomputable def morainelaw01_WordBack.k53 : Code := Code.fa morainelaw01_WordBack.k52
noncomputable def morainelaw01_WordBack.k54 : Code := Code.fb morainelaw01_WordBack.k52
noncomputable def morainelaw01_WordBack.k55 : Code := Code.fa morainelaw01_WordBack.k49
noncomputable def morainelaw01_WordBack.k56 : Code := Code.fb morainelaw01_WordBack.k49
noncomputable def morainelaw01_WordBack.k57 : Code := Code.fa morainelaw01_WordBack.k54
noncomputable def morainelaw01_WordBack.k58 : Code := Code.fb morainelaw01_WordBack.k54
noncomputable def morainelaw01_WordBack.k59 : Code := Code.fa morainelaw01_WordBack.k58
noncomputable def morainelaw01_WordBack.k60 : Code := Code.fb morainelaw01_WordBack.k58
noncomputable def morainelaw01_WordBack.k61 : Code := Code.fa morainelaw01_WordBack.k60
noncomputable def morainelaw01_WordBack.k62 : Code := Code.fb morainelaw01_WordBack.k60
noncomputable def morainelaw01_WordBack.k63 : Code := Code.fa morainelaw01_WordBack.k62
noncomputable def morainelaw01_WordBack.k64 : Code := Code.fb morainelaw01_WordBack.k62
noncomputable def morainelaw01_WordBack.k65 : Code := Code.fa morainelaw01_WordBack.k64
noncomputable def morainelaw01_WordBack.k66 : Code := Code.fb morainelaw01_WordBack.k64
noncomputable def morainelaw01_WordBack.k67 : Code := Code.fa morainelaw01_WordBack.k66
noncomputable def morainelaw01_WordBack.k68 : Code := Code.fb morainelaw01_WordBack.k66
noncomputable def morainelaw01_WordBack.k69 : Code := Code.fa morainelaw01_WordBack.k68
noncomputable def morainelaw01_WordBack.k70 : Code := Code.fb morainelaw01_WordBack.k68
def morainelaw01_WordBack.pt (wv : Int) (H : Array Obj) (R : Value → Array Obj → Prop) : Prop :=
 word_Int.C wv H (fun v H1 => ∃ ra : Int, ∃ rb : Bool, v = .tuple #[.int .i64 ra, .bool rb] ∧ 
  word_Rune.C wv H1 (fun v_2 H2 => ∃ ra_2 : Int, ∃ rb_2 : Bool, v_2 = .tuple #[.int .i32 ra_2, .bool rb_2] ∧ 
   word_Addr.C wv H2 (fun v_3 H3 => ∃ ra_3 : Int, ∃ rb_3 : Bool, v_3 = .tuple #[.int .i64 ra_3, .bool rb_3] ∧ 
    word_Head.C wv H3 (fun v_4 H4 => ∃ ra_4 : Int, ∃ rb_4 : Int, ∃ rc : Int, ∃ rd : Bool, v_4 = .tuple #[.int .i64 ra_4, .int .i64 rb_4, .int .u64 rc, .bool rd] ∧ 
     ∀ (b : Nat) (H5 : Array Obj), b = H4.size → H5 = H4.push (.cells #[.bool rb, .bool rb_2, .bool rb_3, .bool rd, .bool (((((((wv == 4) || (wv == 12)) || (wv == 20)) || (wv == 28)) || (wv == 36)) || (wv == 44)) || (wv == 52))] 4) →
     ∃ (I23 : Int → Int → Array Obj → Prop) (m23 : Int → Int → Array Obj → Nat), I23 0 0 H5 ∧ ∀ (count : Int) (i : Int) (H6 : Array Obj), I23 count i H6 →
     if i < (5 : Int) then (
      (0 ≤ i ∧ i < (5 : Int)) ∧
      ∃ x : Bool, hat H6 ((Addr.mk b 0 none).add (Int.toNat i * 1)) = some (.bool x) ∧
      if x = true then (
       (I23 (IntKind.wrap .i64 (count + 1)) (IntKind.wrap .i64 (i + 1)) H6 ∧ m23 (IntKind.wrap .i64 (count + 1)) (IntKind.wrap .i64 (i + 1)) H6 < m23 count i H6))
      else
      (I23 count (IntKind.wrap .i64 (i + 1)) H6 ∧ m23 count (IntKind.wrap .i64 (i + 1)) H6 < m23 count i H6))
     else
     if count > 1 then (
      R (.bool false) H6)
     else
     word_May.C wv H6 (fun v_5 H7 => ∃ x_2 : Bool, v_5 = .bool x_2 ∧ 
      if x_2 = (count == 1) then (
       if rb = true then (
        word_Fix.C ra H7 (fun v_6 H8 => ∃ ra_5 : Int, ∃ rb_5 : Int, v_6 = .tuple #[.int .u64 ra_5, .int .i64 rb_5] ∧ 
         if rb_5 = 0 then (
          if ra_5 = wv then (
           morainelaw01_awake.C  H8 (fun v_7 H9 => ∃ x_3 : Bool, v_7 = .bool x_3 ∧ 
            R (.bool x_3) H9))
          else
          R (.bool false) H8)
         else
         R (.bool false) H8))
       else
       if rb_2 = true then (
        word_Char.C ra_2 H7 (fun v_8 H10 => ∃ ra_6 : Int, ∃ rb_6 : Int, v_8 = .tuple #[.int .u64 ra_6, .int .i64 rb_6] ∧ 
         if rb_6 = 0 then (
          if ra_6 = wv then (
           morainelaw01_awake.C  H10 (fun v_9 H11 => ∃ x_4 : Bool, v_9 = .bool x_4 ∧ 
            R (.bool x_4) H11))
          else
          R (.bool false) H10)
         else
         R (.bool false) H10))
       else
       if rb_3 = true then (
        word_Tag.C wv H7 (fun v_10 H12 => ∃ x_5 : Int, v_10 = .int .i64 x_5 ∧ 
         word_At.C x_5 ra_3 H12 (fun v_11 H13 => ∃ ra_7 : Int, ∃ rb_7 : Int, v_11 = .tuple #[.int .u64 ra_7, .int .i64 rb_7] ∧ 
          if rb_7 = 0 then (
           if ra_7 = wv then (
            morainelaw01_awake.C  H13 (fun v_12 H14 => ∃ x_6 : Bool, v_12 = .bool x_6 ∧ 
             R (.bool x_6) H14))
           else
           R (.bool false) H13)
          else
          R (.bool false) H13)))
       else
       if rd = true then (
        word_Header.C ra_4 rb_4 rc H7 (fun v_13 H15 => ∃ ra_8 : Int, ∃ rb_8 : Int, v_13 = .tuple #[.int .u64 ra_8, .int .i64 rb_8] ∧ 
         if rb_8 = 0 then (
          if ra_8 = wv then (
           morainelaw01_awake.C  H15 (fun v_14 H16 => ∃ x_7 : Bool, v_14 = .bool x_7 ∧ 
            R (.bool x_7) H16))
          else
          R (.bool false) H15)
         else
         R (.bool false) H15))
       else
       morainelaw01_awake.C  H7 (fun v_15 H17 => ∃ x_8 : Bool, v_15 = .bool x_8 ∧ 
        R (.bool x_8) H17))
      else
      R (.bool false) H7)))))
set_option maxRecDepth 100000 in
theorem morainelaw01_WordBack.link {wv : Int} {H : Array Obj} {R : Value → Array Obj → Prop} (h : morainelaw01_WordBack.pt wv H R) : morainelaw01_WordBack.C wv H R := by
  refine S_enter (fn := Try.f8) (c := morainelaw01_WordBack.k0) 137 Try.func8 (by kernel_rfl) (by kernel_rfl) (Nat.le_of_ble_eq_true (by kernel_rfl)) ?_
  intro w0 Q hQ
  unfold morainelaw01_WordBack.pt at h
  refine S_sub [(0, .int .u64 wv)] (sb (by kernel_rfl)) ?_
  refine S_seq morainelaw01_WordBack.k1 morainelaw01_WordBack.k2 (by kernel_rfl) ?_
  refine S_region 0 (Code.ops morainelaw01_WordBack.k1) (by kernel_rfl) ?_
  refine N_run 1 [(0, .int .u64 wv)] (fun w => by kernel_rfl) ?_
  refine N_end (by kernel_rfl) ?_
  refine S_then ?_
  refine S_seq morainelaw01_WordBack.k3 morainelaw01_WordBack.k4 (by kernel_rfl) ?_
  refine S_region 1 (Code.ops morainelaw01_WordBack.k3) (by kernel_rfl) ?_
  refine N_run 1 [(0, .int .u64 wv), (20, .int .u64 wv)] (fun w => by kernel_rfl) ?_
  refine N_call (some 21) 20 #[.int .u64 wv] (fun w => by kernel_rfl) h ?_
  rintro v H1 ⟨ra, rb, rfl, h⟩
  refine ⟨[(0, .int .u64 wv), (21, .tuple #[.int .i64 ra, .bool rb])], ps (by kernel_rfl), ?_⟩
  refine N_run 5 [(0, .int .u64 wv), (3, .int .i64 ra), (4, .bool rb)] (fun w => by kernel_rfl) ?_
  refine N_end (by kernel_rfl) ?_
  refine S_then ?_
  refine S_seq morainelaw01_WordBack.k5 morainelaw01_WordBack.k6 (by kernel_rfl) ?_
  refine S_region 2 (Code.ops morainelaw01_WordBack.k5) (by kernel_rfl) ?_
  refine N_run 1 [(0, .int .u64 wv), (3, .int .i64 ra), (4, .bool rb), (25, .int .u64 wv)] (fun w => by kernel_rfl) ?_
  refine N_call (some 26) 21 #[.int .u64 wv] (fun w => by kernel_rfl) h ?_
  rintro v_2 H2 ⟨ra_2, rb_2, rfl, h⟩
  refine ⟨[(0, .int .u64 wv), (3, .int .i64 ra), (4, .bool rb), (26, .tuple #[.int .i32 ra_2, .bool rb_2])], ps (by kernel_rfl), ?_⟩
  refine N_run 5 [(0, .int .u64 wv), (3, .int .i64 ra), (4, .bool rb), (5, .int .i32 ra_2), (6, .bool rb_2)] (fun w => by kernel_rfl) ?_
  refine N_end (by kernel_rfl) ?_
  refine S_then ?_
  refine S_seq morainelaw01_WordBack.k7 morainelaw01_WordBack.k8 (by kernel_rfl) ?_
  refine S_region 3 (Code.ops morainelaw01_WordBack.k7) (by kernel_rfl) ?_
  refine N_run 1 [(0, .int .u64 wv), (3, .int .i64 ra), (4, .bool rb), (5, .int .i32 ra_2), (6, .bool rb_2), (30, .int .u64 wv)] (fun w => by kernel_rfl) ?_
  refine N_call (some 31) 22 #[.int .u64 wv] (fun w => by kernel_rfl) h ?_
  rintro v_3 H3 ⟨ra_3, rb_3, rfl, h⟩
  refine ⟨[(0, .int .u64 wv), (3, .int .i64 ra), (4, .bool rb), (5, .int .i32 ra_2), (6, .bool rb_2), (31, .tuple #[.int .i64 ra_3, .bool rb_3])], ps (by kernel_rfl), ?_⟩
  refine N_run 5 [(0, .int .u64 wv), (3, .int .i64 ra), (4, .bool rb), (5, .int .i32 ra_2), (6, .bool rb_2), (7, .int .i64 ra_3), (8, .bool rb_3)] (fun w => by kernel_rfl) ?_
  refine N_end (by kernel_rfl) ?_
  refine S_then ?_
  refine S_seq morainelaw01_WordBack.k9 morainelaw01_WordBack.k10 (by kernel_rfl) ?_
  refine S_region 4 (Code.ops morainelaw01_WordBack.k9) (by kernel_rfl) ?_
  refine N_run 1 [(0, .int .u64 wv), (3, .int .i64 ra), (4, .bool rb), (5, .int .i32 ra_2), (6, .bool rb_2), (7, .int .i64 ra_3), (8, .bool rb_3), (35, .int .u64 wv)] (fun w => by kernel_rfl) ?_
  refine N_call (some 36) 23 #[.int .u64 wv] (fun w => by kernel_rfl) h ?_
  rintro v_4 H4 ⟨ra_4, rb_4, rc, rd, rfl, h⟩
  refine ⟨[(0, .int .u64 wv), (3, .int .i64 ra), (4, .bool rb), (5, .int .i32 ra_2), (6, .bool rb_2), (7, .int .i64 ra_3), (8, .bool rb_3), (36, .tuple #[.int .i64 ra_4, .int .i64 rb_4, .int .u64 rc, .bool rd])], ps (by kernel_rfl), ?_⟩
  refine N_run 9 [(0, .int .u64 wv), (3, .int .i64 ra), (4, .bool rb), (5, .int .i32 ra_2), (6, .bool rb_2), (7, .int .i64 ra_3), (8, .bool rb_3), (9, .int .i64 ra_4), (10, .int .i64 rb_4), (11, .int .u64 rc), (12, .bool rd)] (fun w => by kernel_rfl) ?_
  refine N_end (by kernel_rfl) ?_
  refine S_then ?_
  refine S_seq morainelaw01_WordBack.k11 morainelaw01_WordBack.k12 (by kernel_rfl) ?_
  refine S_region 5 (Code.ops morainelaw01_WordBack.k11) (by kernel_rfl) ?_
  refine N_cut [(0, .int .u64 wv), (3, .int .i64 ra), (4, .bool rb), (5, .int .i32 ra_2), (6, .bool rb_2), (7, .int .i64 ra_3), (8, .bool rb_3), (9, .int .i64 ra_4), (10, .int .i64 rb_4), (11, .int .u64 rc), (12, .bool rd), (13, .bool (((((((wv == 4) || (wv == 12)) || (wv == 20)) || (wv == 28)) || (wv == 36)) || (wv == 44)) || (wv == 52)))] ?_ ?_
  · refine S_then ?_
    refine S_seq morainelaw01_WordBack.k13 morainelaw01_WordBack.k14 (by kernel_rfl) ?_
    refine S_region 6 (Code.ops morainelaw01_WordBack.k13) (by kernel_rfl) ?_
    refine N_run 5 [(0, .int .u64 wv), (3, .int .i64 ra), (4, .bool rb), (5, .int .i32 ra_2), (6, .bool rb_2), (7, .int .i64 ra_3), (8, .bool rb_3), (9, .int .i64 ra_4), (10, .int .i64 rb_4), (11, .int .u64 rc), (12, .bool rd), (67, .bool rb), (68, .bool rb_2), (69, .bool rb_3), (70, .bool rd), (71, .bool (((((((wv == 4) || (wv == 12)) || (wv == 20)) || (wv == 28)) || (wv == 36)) || (wv == 44)) || (wv == 52)))] (fun w => by kernel_rfl) ?_
    refine N_new (some 72) (fun b => .slice (some (Addr.mk b 0 none)) 5 5) (.cells #[.bool rb, .bool rb_2, .bool rb_3, .bool rd, .bool (((((((wv == 4) || (wv == 12)) || (wv == 20)) || (wv == 28)) || (wv == 36)) || (wv == 44)) || (wv == 52))] 4) (fun w => by kernel_rfl) ?_
    intro b H5 e13 e14
    replace h := h b H5 e13 e14
    refine ⟨[(0, .int .u64 wv), (3, .int .i64 ra), (4, .bool rb), (5, .int .i32 ra_2), (6, .bool rb_2), (7, .int .i64 ra_3), (8, .bool rb_3), (9, .int .i64 ra_4), (10, .int .i64 rb_4), (11, .int .u64 rc), (12, .bool rd), (72, .slice (some (Addr.mk b 0 none)) 5 5)], ps (by kernel_rfl), ?_⟩
    refine N_run 1 [(0, .int .u64 wv), (3, .int .i64 ra), (4, .bool rb), (5, .int .i32 ra_2), (6, .bool rb_2), (7, .int .i64 ra_3), (8, .bool rb_3), (9, .int .i64 ra_4), (10, .int .i64 rb_4), (11, .int .u64 rc), (12, .bool rd), (14, .slice (some (Addr.mk b 0 none)) 5 5)] (fun w => by kernel_rfl) ?_
    refine N_end (by kernel_rfl) ?_
    refine S_then ?_
    refine S_seq morainelaw01_WordBack.k15 morainelaw01_WordBack.k16 (by kernel_rfl) ?_
    refine S_region 7 (Code.ops morainelaw01_WordBack.k15) (by kernel_rfl) ?_
    refine N_run 1 [(0, .int .u64 wv), (3, .int .i64 ra), (4, .bool rb), (5, .int .i32 ra_2), (6, .bool rb_2), (7, .int .i64 ra_3), (8, .bool rb_3), (9, .int .i64 ra_4), (10, .int .i64 rb_4), (11, .int .u64 rc), (12, .bool rd), (14, .slice (some (Addr.mk b 0 none)) 5 5), (15, .int .i64 0)] (fun w => by kernel_rfl) ?_
    refine N_end (by kernel_rfl) ?_
    refine S_then ?_
    refine S_seq morainelaw01_WordBack.k17 morainelaw01_WordBack.k18 (by kernel_rfl) ?_
    refine S_seq morainelaw01_WordBack.k19 morainelaw01_WordBack.k20 (by kernel_rfl) ?_
    refine S_region 8 (Code.ops morainelaw01_WordBack.k19) (by kernel_rfl) ?_
    refine N_run 1 [(0, .int .u64 wv), (3, .int .i64 ra), (4, .bool rb), (5, .int .i32 ra_2), (6, .bool rb_2), (7, .int .i64 ra_3), (8, .bool rb_3), (9, .int .i64 ra_4), (10, .int .i64 rb_4), (11, .int .u64 rc), (12, .bool rd), (14, .slice (some (Addr.mk b 0 none)) 5 5), (15, .int .i64 0), (16, .int .i64 0)] (fun w => by kernel_rfl) ?_
    refine N_end (by kernel_rfl) ?_
    refine S_then ?_
    refine S_block 0 morainelaw01_WordBack.k21 (by kernel_rfl) ?_
    obtain ⟨I23, m23, i15, i16⟩ := h
    refine S_loop (x := morainelaw01_WordBack.k22) (σ := Int × Int) (fun s => [(0, .int .u64 wv), (3, .int .i64 ra), (4, .bool rb), (5, .int .i32 ra_2), (6, .bool rb_2), (7, .int .i64 ra_3), (8, .bool rb_3), (9, .int .i64 ra_4), (10, .int .i64 rb_4), (11, .int .u64 rc), (12, .bool rd), (14, .slice (some (Addr.mk b 0 none)) 5 5), (15, .int .i64 s.1), (16, .int .i64 s.2)]) (fun s H => I23 s.1 s.2 H) (fun s H => m23 s.1 s.2 H) ((0, 0) : Int × Int) (by kernel_rfl) i15 (sb (by kernel_rfl)) ?_
    rintro ⟨count, i⟩ H6 i17
    have h := i16 count i H6 i17
    refine S_sub [(0, .int .u64 wv), (3, .int .i64 ra), (4, .bool rb), (5, .int .i32 ra_2), (6, .bool rb_2), (7, .int .i64 ra_3), (8, .bool rb_3), (9, .int .i64 ra_4), (10, .int .i64 rb_4), (11, .int .u64 rc), (12, .bool rd), (14, .slice (some (Addr.mk b 0 none)) 5 5), (15, .int .i64 count), (16, .int .i64 i)] (sb (by kernel_rfl)) ?_
    refine S_seq morainelaw01_WordBack.k23 morainelaw01_WordBack.k24 (by kernel_rfl) ?_
    refine S_seq morainelaw01_WordBack.k25 morainelaw01_WordBack.k26 (by kernel_rfl) ?_
    refine S_region 9 (Code.ops morainelaw01_WordBack.k25) (by kernel_rfl) ?_
    refine N_run 4 [(0, .int .u64 wv), (3, .int .i64 ra), (4, .bool rb), (5, .int .i32 ra_2), (6, .bool rb_2), (7, .int .i64 ra_3), (8, .bool rb_3), (9, .int .i64 ra_4), (10, .int .i64 rb_4), (11, .int .u64 rc), (12, .bool rd), (14, .slice (some (Addr.mk b 0 none)) 5 5), (15, .int .i64 count), (16, .int .i64 i), (76, .bool (decide (i < (5 : Int))))] (fun w => by kernel_rfl) ?_
    refine N_end (by kernel_rfl) ?_
    refine S_then ?_
    by_cases c18 : i < (5 : Int)
    · rw [if_pos c18] at h
      have b19 : (decide (i < (5 : Int))) = true := decide_eq_true c18
      refine S_env [(0, .int .u64 wv), (3, .int .i64 ra), (4, .bool rb), (5, .int .i32 ra_2), (6, .bool rb_2), (7, .int .i64 ra_3), (8, .bool rb_3), (9, .int .i64 ra_4), (10, .int .i64 rb_4), (11, .int .u64 rc), (12, .bool rd), (14, .slice (some (Addr.mk b 0 none)) 5 5), (15, .int .i64 count), (16, .int .i64 i), (76, .bool true)] (by simp only [b19, Bool.not_true, Bool.not_false]) ?_
      clear b19
      refine S_condT (.tmp 76) morainelaw01_WordBack.k27 morainelaw01_WordBack.k28 (by kernel_rfl) (by kernel_rfl) ?_
      refine S_skip (by kernel_rfl) ?_
      refine S_then ?_
      refine S_seq morainelaw01_WordBack.k29 morainelaw01_WordBack.k30 (by kernel_rfl) ?_
      refine S_block 1 morainelaw01_WordBack.k31 (by kernel_rfl) ?_
      refine S_seq morainelaw01_WordBack.k32 morainelaw01_WordBack.k33 (by kernel_rfl) ?_
      refine S_region 11 (Code.ops morainelaw01_WordBack.k32) (by kernel_rfl) ?_
      refine N_run 2 [(0, .int .u64 wv), (3, .int .i64 ra), (4, .bool rb), (5, .int .i32 ra_2), (6, .bool rb_2), (7, .int .i64 ra_3), (8, .bool rb_3), (9, .int .i64 ra_4), (10, .int .i64 rb_4), (11, .int .u64 rc), (12, .bool rd), (14, .slice (some (Addr.mk b 0 none)) 5 5), (15, .int .i64 count), (16, .int .i64 i), (79, .slice (some (Addr.mk b 0 none)) 5 5), (80, .int .i64 i)] (fun w => by kernel_rfl) ?_
      obtain ⟨q20, h⟩ := h
      refine N_val (some 81) (indexAtN 53 (.slice (some (Addr.mk b 0 none)) 5 5) (.int .i64 i)) (.pointer (some ((Addr.mk b 0 none).add (Int.toNat i * 1)))) (fun w => by kernel_rfl) (fun w _ => indexAt_run (P := Try.prog) (t := 53) (elem := 4) (sz := 1) (a := (Addr.mk b 0 none)) (len := 5) (cap := 5) (k := .i64) (i := i) Try.underlying53 (fun w => by kernel_rfl) q20.1 q20.2 w) [(0, .int .u64 wv), (3, .int .i64 ra), (4, .bool rb), (5, .int .i32 ra_2), (6, .bool rb_2), (7, .int .i64 ra_3), (8, .bool rb_3), (9, .int .i64 ra_4), (10, .int .i64 rb_4), (11, .int .u64 rc), (12, .bool rd), (14, .slice (some (Addr.mk b 0 none)) 5 5), (15, .int .i64 count), (16, .int .i64 i), (81, .pointer (some ((Addr.mk b 0 none).add (Int.toNat i * 1))))] (ps (by kernel_rfl)) ?_
      obtain ⟨x, q21, h⟩ := h
      refine N_val (some 82) (loadN 4 (.pointer (some ((Addr.mk b 0 none).add (Int.toNat i * 1))))) (.bool x) (fun w => by kernel_rfl) (loadN_run (loadOK_one (fun w => by kernel_rfl) q21)) [(0, .int .u64 wv), (3, .int .i64 ra), (4, .bool rb), (5, .int .i32 ra_2), (6, .bool rb_2), (7, .int .i64 ra_3), (8, .bool rb_3), (9, .int .i64 ra_4), (10, .int .i64 rb_4), (11, .int .u64 rc), (12, .bool rd), (14, .slice (some (Addr.mk b 0 none)) 5 5), (15, .int .i64 count), (16, .int .i64 i), (82, .bool x)] (ps (by kernel_rfl)) ?_
      refine N_end (by kernel_rfl) ?_
      refine S_then ?_
      by_cases c22 : x = true
      · rw [if_pos c22] at h
        have b23 : x = true := c22
        refine S_env [(0, .int .u64 wv), (3, .int .i64 ra), (4, .bool rb), (5, .int .i32 ra_2), (6, .bool rb_2), (7, .int .i64 ra_3), (8, .bool rb_3), (9, .int .i64 ra_4), (10, .int .i64 rb_4), (11, .int .u64 rc), (12, .bool rd), (14, .slice (some (Addr.mk b 0 none)) 5 5), (15, .int .i64 count), (16, .int .i64 i), (82, .bool true)] (by simp only [b23, Bool.not_true, Bool.not_false]) ?_
        clear b23
        refine S_condT (.tmp 82) morainelaw01_WordBack.k34 morainelaw01_WordBack.k35 (by kernel_rfl) (by kernel_rfl) ?_
        refine S_region 12 (Code.ops morainelaw01_WordBack.k34) (by kernel_rfl) ?_
        refine N_run 3 [(0, .int .u64 wv), (3, .int .i64 ra), (4, .bool rb), (5, .int .i32 ra_2), (6, .bool rb_2), (7, .int .i64 ra_3), (8, .bool rb_3), (9, .int .i64 ra_4), (10, .int .i64 rb_4), (11, .int .u64 rc), (12, .bool rd), (14, .slice (some (Addr.mk b 0 none)) 5 5), (15, .int .i64 (IntKind.wrap .i64 (count + 1))), (16, .int .i64 i)] (fun w => by kernel_rfl) ?_
        refine N_end (by kernel_rfl) ?_
        refine S_blockEnd ?_
        refine S_then ?_
        refine S_region 10 (Code.ops morainelaw01_WordBack.k30) (by kernel_rfl) ?_
        refine N_run 3 [(0, .int .u64 wv), (3, .int .i64 ra), (4, .bool rb), (5, .int .i32 ra_2), (6, .bool rb_2), (7, .int .i64 ra_3), (8, .bool rb_3), (9, .int .i64 ra_4), (10, .int .i64 rb_4), (11, .int .u64 rc), (12, .bool rd), (14, .slice (some (Addr.mk b 0 none)) 5 5), (15, .int .i64 (IntKind.wrap .i64 (count + 1))), (16, .int .i64 (IntKind.wrap .i64 (i + 1)))] (fun w => by kernel_rfl) ?_
        refine N_end (by kernel_rfl) ?_
        refine S_then ?_
        exact S_round (((IntKind.wrap .i64 (count + 1)), (IntKind.wrap .i64 (i + 1))) : Int × Int) (sb (by kernel_rfl)) h
      · rw [if_neg c22] at h
        have b23 : x = false := eq_false_of_ne_true c22
        refine S_env [(0, .int .u64 wv), (3, .int .i64 ra), (4, .bool rb), (5, .int .i32 ra_2), (6, .bool rb_2), (7, .int .i64 ra_3), (8, .bool rb_3), (9, .int .i64 ra_4), (10, .int .i64 rb_4), (11, .int .u64 rc), (12, .bool rd), (14, .slice (some (Addr.mk b 0 none)) 5 5), (15, .int .i64 count), (16, .int .i64 i), (82, .bool false)] (by simp only [b23, Bool.not_true, Bool.not_false]) ?_
        clear b23
        refine S_condF (.tmp 82) morainelaw01_WordBack.k34 morainelaw01_WordBack.k35 (by kernel_rfl) (by kernel_rfl) ?_
        refine S_skip (by kernel_rfl) ?_
        refine S_blockEnd ?_
        refine S_then ?_
        refine S_region 10 (Code.ops morainelaw01_WordBack.k30) (by kernel_rfl) ?_
        refine N_run 3 [(0, .int .u64 wv), (3, .int .i64 ra), (4, .bool rb), (5, .int .i32 ra_2), (6, .bool rb_2), (7, .int .i64 ra_3), (8, .bool rb_3), (9, .int .i64 ra_4), (10, .int .i64 rb_4), (11, .int .u64 rc), (12, .bool rd), (14, .slice (some (Addr.mk b 0 none)) 5 5), (15, .int .i64 count), (16, .int .i64 (IntKind.wrap .i64 (i + 1)))] (fun w => by kernel_rfl) ?_
        refine N_end (by kernel_rfl) ?_
        refine S_then ?_
        exact S_round ((count, (IntKind.wrap .i64 (i + 1))) : Int × Int) (sb (by kernel_rfl)) h
    · rw [if_neg c18] at h
      have b19 : (decide (i < (5 : Int))) = false := decide_eq_false c18
      refine S_env [(0, .int .u64 wv), (3, .int .i64 ra), (4, .bool rb), (5, .int .i32 ra_2), (6, .bool rb_2), (7, .int .i64 ra_3), (8, .bool rb_3), (9, .int .i64 ra_4), (10, .int .i64 rb_4), (11, .int .u64 rc), (12, .bool rd), (14, .slice (some (Addr.mk b 0 none)) 5 5), (15, .int .i64 count), (16, .int .i64 i), (76, .bool false)] (by simp only [b19, Bool.not_true, Bool.not_false]) ?_
      clear b19
      refine S_condF (.tmp 76) morainelaw01_WordBack.k27 morainelaw01_WordBack.k28 (by kernel_rfl) (by kernel_rfl) ?_
      refine S_exit 0 (by kernel_rfl) ?_
      refine S_exitThen ?_
      refine S_exitThen ?_
      refine S_exitHere ?_
      refine S_then ?_
      refine S_seq morainelaw01_WordBack.k36 morainelaw01_WordBack.k37 (by kernel_rfl) ?_
      refine S_seq morainelaw01_WordBack.k38 morainelaw01_WordBack.k39 (by kernel_rfl) ?_
      refine S_region 13 (Code.ops morainelaw01_WordBack.k38) (by kernel_rfl) ?_
      refine N_run 3 [(0, .int .u64 wv), (3, .int .i64 ra), (4, .bool rb), (5, .int .i32 ra_2), (6, .bool rb_2), (7, .int .i64 ra_3), (8, .bool rb_3), (9, .int .i64 ra_4), (10, .int .i64 rb_4), (11, .int .u64 rc), (12, .bool rd), (15, .int .i64 count), (87, .bool (decide (count > 1)))] (fun w => by kernel_rfl) ?_
      by_cases c24 : count > 1
      · rw [if_pos c24] at h
        have b25 : (decide (count > 1)) = true := decide_eq_true c24
        refine N_env [(0, .int .u64 wv), (3, .int .i64 ra), (4, .bool rb), (5, .int .i32 ra_2), (6, .bool rb_2), (7, .int .i64 ra_3), (8, .bool rb_3), (9, .int .i64 ra_4), (10, .int .i64 rb_4), (11, .int .u64 rc), (12, .bool rd), (15, .int .i64 count), (87, .bool true)] (by simp only [b25, Bool.not_true, Bool.not_false]) ?_
        clear b25
        refine N_run 6 [(0, .int .u64 wv), (3, .int .i64 ra), (4, .bool rb), (5, .int .i32 ra_2), (6, .bool rb_2), (7, .int .i64 ra_3), (8, .bool rb_3), (9, .int .i64 ra_4), (10, .int .i64 rb_4), (11, .int .u64 rc), (12, .bool rd), (93, .bool true)] (fun w => by kernel_rfl) ?_
        refine N_end (by kernel_rfl) ?_
        refine S_then ?_
        refine S_condT (.tmp 93) morainelaw01_WordBack.k40 morainelaw01_WordBack.k41 (by kernel_rfl) (by kernel_rfl) ?_
        refine S_seq morainelaw01_WordBack.k42 morainelaw01_WordBack.k43 (by kernel_rfl) ?_
        refine S_region 14 (Code.ops morainelaw01_WordBack.k42) (by kernel_rfl) ?_
        refine N_run 1 [(2, .bool false)] (fun w => by kernel_rfl) ?_
        refine N_end (by kernel_rfl) ?_
        refine S_then ?_
        refine S_ret (by kernel_rfl) ?_
        show At _ _ _ _ (Q .ret)
        exact S_done (fn := Try.f8) [.bool false] hQ (show ResOK _ _ _ [.tmp 2] _ from .tmp (by kernel_rfl) (.nil)) h
      · rw [if_neg c24] at h
        have b25 : (decide (count > 1)) = false := decide_eq_false c24
        refine N_env [(0, .int .u64 wv), (3, .int .i64 ra), (4, .bool rb), (5, .int .i32 ra_2), (6, .bool rb_2), (7, .int .i64 ra_3), (8, .bool rb_3), (9, .int .i64 ra_4), (10, .int .i64 rb_4), (11, .int .u64 rc), (12, .bool rd), (15, .int .i64 count), (87, .bool false)] (by simp only [b25, Bool.not_true, Bool.not_false]) ?_
        clear b25
        refine N_run 1 [(0, .int .u64 wv), (3, .int .i64 ra), (4, .bool rb), (5, .int .i32 ra_2), (6, .bool rb_2), (7, .int .i64 ra_3), (8, .bool rb_3), (9, .int .i64 ra_4), (10, .int .i64 rb_4), (11, .int .u64 rc), (12, .bool rd), (15, .int .i64 count), (87, .bool false), (88, .int .u64 wv)] (fun w => by kernel_rfl) ?_
        refine N_call (some 89) 18 #[.int .u64 wv] (fun w => by kernel_rfl) h ?_
        rintro v_5 H7 ⟨x_2, rfl, h⟩
        refine ⟨[(0, .int .u64 wv), (3, .int .i64 ra), (4, .bool rb), (5, .int .i32 ra_2), (6, .bool rb_2), (7, .int .i64 ra_3), (8, .bool rb_3), (9, .int .i64 ra_4), (10, .int .i64 rb_4), (11, .int .u64 rc), (12, .bool rd), (15, .int .i64 count), (87, .bool false), (89, .bool x_2)], ps (by kernel_rfl), ?_⟩
        refine N_run 4 [(0, .int .u64 wv), (3, .int .i64 ra), (4, .bool rb), (5, .int .i32 ra_2), (6, .bool rb_2), (7, .int .i64 ra_3), (8, .bool rb_3), (9, .int .i64 ra_4), (10, .int .i64 rb_4), (11, .int .u64 rc), (12, .bool rd), (93, .bool (!(x_2 == (count == 1))))] (fun w => by kernel_rfl) ?_
        refine N_end (by kernel_rfl) ?_
        refine S_then ?_
        by_cases c26 : x_2 = (count == 1)
        · rw [if_pos c26] at h
          have b27 : (!(x_2 == (count == 1))) = false := congrArg Bool.not (beq_iff_eq.mpr c26)
          refine S_env [(0, .int .u64 wv), (3, .int .i64 ra), (4, .bool rb), (5, .int .i32 ra_2), (6, .bool rb_2), (7, .int .i64 ra_3), (8, .bool rb_3), (9, .int .i64 ra_4), (10, .int .i64 rb_4), (11, .int .u64 rc), (12, .bool rd), (93, .bool false)] (by simp only [b27, Bool.not_true, Bool.not_false]) ?_
          clear b27
          refine S_condF (.tmp 93) morainelaw01_WordBack.k40 morainelaw01_WordBack.k41 (by kernel_rfl) (by kernel_rfl) ?_
          refine S_skip (by kernel_rfl) ?_
          refine S_then ?_
          refine S_seq morainelaw01_WordBack.k44 morainelaw01_WordBack.k45 (by kernel_rfl) ?_
          refine S_region 15 (Code.ops morainelaw01_WordBack.k44) (by kernel_rfl) ?_
          refine N_run 1 [(0, .int .u64 wv), (3, .int .i64 ra), (4, .bool rb), (5, .int .i32 ra_2), (6, .bool rb_2), (7, .int .i64 ra_3), (8, .bool rb_3), (9, .int .i64 ra_4), (10, .int .i64 rb_4), (11, .int .u64 rc), (12, .bool rd)] (fun w => by kernel_rfl) ?_
          refine N_end (by kernel_rfl) ?_
          refine S_then ?_
          refine S_seq morainelaw01_WordBack.k46 morainelaw01_WordBack.k47 (by kernel_rfl) ?_
          refine S_region 16 (Code.ops morainelaw01_WordBack.k46) (by kernel_rfl) ?_
          refine N_run 1 [(0, .int .u64 wv), (3, .int .i64 ra), (4, .bool rb), (5, .int .i32 ra_2), (6, .bool rb_2), (7, .int .i64 ra_3), (8, .bool rb_3), (9, .int .i64 ra_4), (10, .int .i64 rb_4), (11, .int .u64 rc), (12, .bool rd)] (fun w => by kernel_rfl) ?_
          refine N_end (by kernel_rfl) ?_
          refine S_then ?_
          refine S_seq morainelaw01_WordBack.k48 morainelaw01_WordBack.k49 (by kernel_rfl) ?_
          refine S_block 2 morainelaw01_WordBack.k50 (by kernel_rfl) ?_
          refine S_seq morainelaw01_WordBack.k51 morainelaw01_WordBack.k52 (by kernel_rfl) ?_
          refine S_region 18 (Code.ops morainelaw01_WordBack.k51) (by kernel_rfl) ?_
          refine N_run 2 [(0, .int .u64 wv), (3, .int .i64 ra), (5, .int .i32 ra_2), (6, .bool rb_2), (7, .int .i64 ra_3), (8, .bool rb_3), (9, .int .i64 ra_4), (10, .int .i64 rb_4), (11, .int .u64 rc), (12, .bool rd), (95, .bool rb)] (fun w => by kernel_rfl) ?_
          refine N_end (by kernel_rfl) ?_
          refine S_then ?_
          by_cases c28 : rb = true
          · rw [if_pos c28] at h
            have b29 : rb = true := c28
            refine S_env [(0, .int .u64 wv), (3, .int .i64 ra), (5, .int .i32 ra_2), (6, .bool rb_2), (7, .int .i64 ra_3), (8, .bool rb_3), (9, .int .i64 ra_4), (10, .int .i64 rb_4), (11, .int .u64 rc), (12, .bool rd), (95, .bool true)] (by simp only [b29, Bool.not_true, Bool.not_false]) ?_
            clear b29
            refine S_condT (.tmp 95) morainelaw01_WordBack.k53 morainelaw01_WordBack.k54 (by kernel_rfl) (by kernel_rfl) ?_
            refine S_region 19 (Code.ops morainelaw01_WordBack.k53) (by kernel_rfl) ?_
            refine N_run 1 [(0, .int .u64 wv), (98, .int .i64 ra)] (fun w => by kernel_rfl) ?_
            refine N_call (some 99) 9 #[.int .i64 ra] (fun w => by kernel_rfl) h ?_
            rintro v_6 H8 ⟨ra_5, rb_5, rfl, h⟩
            refine ⟨[(0, .int .u64 wv), (99, .tuple #[.int .u64 ra_5, .int .i64 rb_5])], ps (by kernel_rfl), ?_⟩
            refine N_run 5 [(0, .int .u64 wv), (17, .int .u64 ra_5), (18, .int .i64 rb_5)] (fun w => by kernel_rfl) ?_
            refine N_end (by kernel_rfl) ?_
            refine S_blockEnd ?_
            refine S_then ?_
            refine S_seq morainelaw01_WordBack.k55 morainelaw01_WordBack.k56 (by kernel_rfl) ?_
            refine S_region 26 (Code.ops morainelaw01_WordBack.k55) (by kernel_rfl) ?_
            refine N_run 3 [(0, .int .u64 wv), (17, .int .u64 ra_5), (129, .bool (rb_5 == 0))] (fun w => by kernel_rfl) ?_
            by_cases c30 : rb_5 = 0
            · rw [if_pos c30] at h
              have b31 : (rb_5 == 0) = true := beq_iff_eq.mpr c30
              refine N_env [(0, .int .u64 wv), (17, .int .u64 ra_5), (129, .bool true)] (by simp only [b31, Bool.not_true, Bool.not_false]) ?_
              clear b31
              refine N_run 5 [(134, .bool (ra_5 == wv))] (fun w => by kernel_rfl) ?_
              by_cases c32 : ra_5 = wv
              · rw [if_pos c32] at h
                have b33 : (ra_5 == wv) = true := beq_iff_eq.mpr c32
                refine N_env [(134, .bool true)] (by simp only [b33, Bool.not_true, Bool.not_false]) ?_
                clear b33
                refine N_call (some 135) 14 #[] (fun w => by kernel_rfl) h ?_
                rintro v_7 H9 ⟨x_3, rfl, h⟩
                refine ⟨[(134, .bool true), (135, .bool x_3)], ps (by kernel_rfl), ?_⟩
                refine N_run 2 [(2, .bool x_3)] (fun w => by kernel_rfl) ?_
                refine N_end (by kernel_rfl) ?_
                refine S_then ?_
                refine S_ret (by kernel_rfl) ?_
                show At _ _ _ _ (Q .ret)
                exact S_done (fn := Try.f8) [.bool x_3] hQ (show ResOK _ _ _ [.tmp 2] _ from .tmp (by kernel_rfl) (.nil)) h
              · rw [if_neg c32] at h
                have b33 : (ra_5 == wv) = false := beq_eq_false_iff_ne.mpr c32
                refine N_env [(134, .bool false)] (by simp only [b33, Bool.not_true, Bool.not_false]) ?_
                clear b33
                refine N_run 3 [(2, .bool false)] (fun w => by kernel_rfl) ?_
                refine N_end (by kernel_rfl) ?_
                refine S_then ?_
                refine S_ret (by kernel_rfl) ?_
                show At _ _ _ _ (Q .ret)
                exact S_done (fn := Try.f8) [.bool false] hQ (show ResOK _ _ _ [.tmp 2] _ from .tmp (by kernel_rfl) (.nil)) h
            · rw [if_neg c30] at h
              have b31 : (rb_5 == 0) = false := beq_eq_false_iff_ne.mpr c30
              refine N_env [(0, .int .u64 wv), (17, .int .u64 ra_5), (129, .bool false)] (by simp only [b31, Bool.not_true, Bool.not_false]) ?_
              clear b31
              refine N_run 8 [(2, .bool false)] (fun w => by kernel_rfl) ?_
              refine N_end (by kernel_rfl) ?_
              refine S_then ?_
              refine S_ret (by kernel_rfl) ?_
              show At _ _ _ _ (Q .ret)
              exact S_done (fn := Try.f8) [.bool false] hQ (show ResOK _ _ _ [.tmp 2] _ from .tmp (by kernel_rfl) (.nil)) h
          · rw [if_neg c28] at h
            have b29 : rb = false := eq_false_of_ne_true c28
            refine S_env [(0, .int .u64 wv), (3, .int .i64 ra), (5, .int .i32 ra_2), (6, .bool rb_2), (7, .int .i64 ra_3), (8, .bool rb_3), (9, .int .i64 ra_4), (10, .int .i64 rb_4), (11, .int .u64 rc), (12, .bool rd), (95, .bool false)] (by simp only [b29, Bool.not_true, Bool.not_false]) ?_
            clear b29
            refine S_condF (.tmp 95) morainelaw01_WordBack.k53 morainelaw01_WordBack.k54 (by kernel_rfl) (by kernel_rfl) ?_
            refine S_seq morainelaw01_WordBack.k57 morainelaw01_WordBack.k58 (by kernel_rfl) ?_
            refine S_region 20 (Code.ops morainelaw01_WordBack.k57) (by kernel_rfl) ?_
            refine N_run 2 [(0, .int .u64 wv), (5, .int .i32 ra_2), (7, .int .i64 ra_3), (8, .bool rb_3), (9, .int .i64 ra_4), (10, .int .i64 rb_4), (11, .int .u64 rc), (12, .bool rd), (102, .bool rb_2)] (fun w => by kernel_rfl) ?_
            refine N_end (by kernel_rfl) ?_
            refine S_then ?_
            by_cases c34 : rb_2 = true
            · rw [if_pos c34] at h
              have b35 : rb_2 = true := c34
              refine S_env [(0, .int .u64 wv), (5, .int .i32 ra_2), (7, .int .i64 ra_3), (8, .bool rb_3), (9, .int .i64 ra_4), (10, .int .i64 rb_4), (11, .int .u64 rc), (12, .bool rd), (102, .bool true)] (by simp only [b35, Bool.not_true, Bool.not_false]) ?_
              clear b35
              refine S_condT (.tmp 102) morainelaw01_WordBack.k59 morainelaw01_WordBack.k60 (by kernel_rfl) (by kernel_rfl) ?_
              refine S_region 21 (Code.ops morainelaw01_WordBack.k59) (by kernel_rfl) ?_
              refine N_run 1 [(0, .int .u64 wv), (105, .int .i32 ra_2)] (fun w => by kernel_rfl) ?_
              refine N_call (some 106) 12 #[.int .i32 ra_2] (fun w => by kernel_rfl) h ?_
              rintro v_8 H10 ⟨ra_6, rb_6, rfl, h⟩
              refine ⟨[(0, .int .u64 wv), (106, .tuple #[.int .u64 ra_6, .int .i64 rb_6])], ps (by kernel_rfl), ?_⟩
              refine N_run 5 [(0, .int .u64 wv), (17, .int .u64 ra_6), (18, .int .i64 rb_6)] (fun w => by kernel_rfl) ?_
              refine N_end (by kernel_rfl) ?_
              refine S_blockEnd ?_
              refine S_then ?_
              refine S_seq morainelaw01_WordBack.k55 morainelaw01_WordBack.k56 (by kernel_rfl) ?_
              refine S_region 26 (Code.ops morainelaw01_WordBack.k55) (by kernel_rfl) ?_
              refine N_run 3 [(0, .int .u64 wv), (17, .int .u64 ra_6), (129, .bool (rb_6 == 0))] (fun w => by kernel_rfl) ?_
              by_cases c36 : rb_6 = 0
              · rw [if_pos c36] at h
                have b37 : (rb_6 == 0) = true := beq_iff_eq.mpr c36
                refine N_env [(0, .int .u64 wv), (17, .int .u64 ra_6), (129, .bool true)] (by simp only [b37, Bool.not_true, Bool.not_false]) ?_
                clear b37
                refine N_run 5 [(134, .bool (ra_6 == wv))] (fun w => by kernel_rfl) ?_
                by_cases c38 : ra_6 = wv
                · rw [if_pos c38] at h
                  have b39 : (ra_6 == wv) = true := beq_iff_eq.mpr c38
                  refine N_env [(134, .bool true)] (by simp only [b39, Bool.not_true, Bool.not_false]) ?_
                  clear b39
                  refine N_call (some 135) 14 #[] (fun w => by kernel_rfl) h ?_
                  rintro v_9 H11 ⟨x_4, rfl, h⟩
                  refine ⟨[(134, .bool true), (135, .bool x_4)], ps (by kernel_rfl), ?_⟩
                  refine N_run 2 [(2, .bool x_4)] (fun w => by kernel_rfl) ?_
                  refine N_end (by kernel_rfl) ?_
                  refine S_then ?_
                  refine S_ret (by kernel_rfl) ?_
                  show At _ _ _ _ (Q .ret)
                  exact S_done (fn := Try.f8) [.bool x_4] hQ (show ResOK _ _ _ [.tmp 2] _ from .tmp (by kernel_rfl) (.nil)) h
                · rw [if_neg c38] at h
                  have b39 : (ra_6 == wv) = false := beq_eq_false_iff_ne.mpr c38
                  refine N_env [(134, .bool false)] (by simp only [b39, Bool.not_true, Bool.not_false]) ?_
                  clear b39
                  refine N_run 3 [(2, .bool false)] (fun w => by kernel_rfl) ?_
                  refine N_end (by kernel_rfl) ?_
                  refine S_then ?_
                  refine S_ret (by kernel_rfl) ?_
                  show At _ _ _ _ (Q .ret)
                  exact S_done (fn := Try.f8) [.bool false] hQ (show ResOK _ _ _ [.tmp 2] _ from .tmp (by kernel_rfl) (.nil)) h
              · rw [if_neg c36] at h
                have b37 : (rb_6 == 0) = false := beq_eq_false_iff_ne.mpr c36
                refine N_env [(0, .int .u64 wv), (17, .int .u64 ra_6), (129, .bool false)] (by simp only [b37, Bool.not_true, Bool.not_false]) ?_
                clear b37
                refine N_run 8 [(2, .bool false)] (fun w => by kernel_rfl) ?_
                refine N_end (by kernel_rfl) ?_
                refine S_then ?_
                refine S_ret (by kernel_rfl) ?_
                show At _ _ _ _ (Q .ret)
                exact S_done (fn := Try.f8) [.bool false] hQ (show ResOK _ _ _ [.tmp 2] _ from .tmp (by kernel_rfl) (.nil)) h
            · rw [if_neg c34] at h
              have b35 : rb_2 = false := eq_false_of_ne_true c34
              refine S_env [(0, .int .u64 wv), (5, .int .i32 ra_2), (7, .int .i64 ra_3), (8, .bool rb_3), (9, .int .i64 ra_4), (10, .int .i64 rb_4), (11, .int .u64 rc), (12, .bool rd), (102, .bool false)] (by simp only [b35, Bool.not_true, Bool.not_false]) ?_
              clear b35
              refine S_condF (.tmp 102) morainelaw01_WordBack.k59 morainelaw01_WordBack.k60 (by kernel_rfl) (by kernel_rfl) ?_
              refine S_seq morainelaw01_WordBack.k61 morainelaw01_WordBack.k62 (by kernel_rfl) ?_
              refine S_region 22 (Code.ops morainelaw01_WordBack.k61) (by kernel_rfl) ?_
              refine N_run 2 [(0, .int .u64 wv), (7, .int .i64 ra_3), (9, .int .i64 ra_4), (10, .int .i64 rb_4), (11, .int .u64 rc), (12, .bool rd), (109, .bool rb_3)] (fun w => by kernel_rfl) ?_
              refine N_end (by kernel_rfl) ?_
              refine S_then ?_
              by_cases c40 : rb_3 = true
              · rw [if_pos c40] at h
                have b41 : rb_3 = true := c40
                refine S_env [(0, .int .u64 wv), (7, .int .i64 ra_3), (9, .int .i64 ra_4), (10, .int .i64 rb_4), (11, .int .u64 rc), (12, .bool rd), (109, .bool true)] (by simp only [b41, Bool.not_true, Bool.not_false]) ?_
                clear b41
                refine S_condT (.tmp 109) morainelaw01_WordBack.k63 morainelaw01_WordBack.k64 (by kernel_rfl) (by kernel_rfl) ?_
                refine S_region 23 (Code.ops morainelaw01_WordBack.k63) (by kernel_rfl) ?_
                refine N_run 1 [(0, .int .u64 wv), (7, .int .i64 ra_3), (112, .int .u64 wv)] (fun w => by kernel_rfl) ?_
                refine N_call (some 113) 24 #[.int .u64 wv] (fun w => by kernel_rfl) h ?_
                rintro v_10 H12 ⟨x_5, rfl, h⟩
                refine ⟨[(0, .int .u64 wv), (7, .int .i64 ra_3), (113, .int .i64 x_5)], ps (by kernel_rfl), ?_⟩
                refine N_run 1 [(0, .int .u64 wv), (113, .int .i64 x_5), (114, .int .i64 ra_3)] (fun w => by kernel_rfl) ?_
                refine N_call (some 115) 15 #[.int .i64 x_5, .int .i64 ra_3] (fun w => by kernel_rfl) h ?_
                rintro v_11 H13 ⟨ra_7, rb_7, rfl, h⟩
                refine ⟨[(0, .int .u64 wv), (115, .tuple #[.int .u64 ra_7, .int .i64 rb_7])], ps (by kernel_rfl), ?_⟩
                refine N_run 5 [(0, .int .u64 wv), (17, .int .u64 ra_7), (18, .int .i64 rb_7)] (fun w => by kernel_rfl) ?_
                refine N_end (by kernel_rfl) ?_
                refine S_blockEnd ?_
                refine S_then ?_
                refine S_seq morainelaw01_WordBack.k55 morainelaw01_WordBack.k56 (by kernel_rfl) ?_
                refine S_region 26 (Code.ops morainelaw01_WordBack.k55) (by kernel_rfl) ?_
                refine N_run 3 [(0, .int .u64 wv), (17, .int .u64 ra_7), (129, .bool (rb_7 == 0))] (fun w => by kernel_rfl) ?_
                by_cases c42 : rb_7 = 0
                · rw [if_pos c42] at h
                  have b43 : (rb_7 == 0) = true := beq_iff_eq.mpr c42
                  refine N_env [(0, .int .u64 wv), (17, .int .u64 ra_7), (129, .bool true)] (by simp only [b43, Bool.not_true, Bool.not_false]) ?_
                  clear b43
                  refine N_run 5 [(134, .bool (ra_7 == wv))] (fun w => by kernel_rfl) ?_
                  by_cases c44 : ra_7 = wv
                  · rw [if_pos c44] at h
                    have b45 : (ra_7 == wv) = true := beq_iff_eq.mpr c44
                    refine N_env [(134, .bool true)] (by simp only [b45, Bool.not_true, Bool.not_false]) ?_
                    clear b45
                    refine N_call (some 135) 14 #[] (fun w => by kernel_rfl) h ?_
                    rintro v_12 H14 ⟨x_6, rfl, h⟩
                    refine ⟨[(134, .bool true), (135, .bool x_6)], ps (by kernel_rfl), ?_⟩
                    refine N_run 2 [(2, .bool x_6)] (fun w => by kernel_rfl) ?_
                    refine N_end (by kernel_rfl) ?_
                    refine S_then ?_
                    refine S_ret (by kernel_rfl) ?_
                    show At _ _ _ _ (Q .ret)
                    exact S_done (fn := Try.f8) [.bool x_6] hQ (show ResOK _ _ _ [.tmp 2] _ from .tmp (by kernel_rfl) (.nil)) h
                  · rw [if_neg c44] at h
                    have b45 : (ra_7 == wv) = false := beq_eq_false_iff_ne.mpr c44
                    refine N_env [(134, .bool false)] (by simp only [b45, Bool.not_true, Bool.not_false]) ?_
                    clear b45
                    refine N_run 3 [(2, .bool false)] (fun w => by kernel_rfl) ?_
                    refine N_end (by kernel_rfl) ?_
                    refine S_then ?_
                    refine S_ret (by kernel_rfl) ?_
                    show At _ _ _ _ (Q .ret)
                    exact S_done (fn := Try.f8) [.bool false] hQ (show ResOK _ _ _ [.tmp 2] _ from .tmp (by kernel_rfl) (.nil)) h
                · rw [if_neg c42] at h
                  have b43 : (rb_7 == 0) = false := beq_eq_false_iff_ne.mpr c42
                  refine N_env [(0, .int .u64 wv), (17, .int .u64 ra_7), (129, .bool false)] (by simp only [b43, Bool.not_true, Bool.not_false]) ?_
                  clear b43
                  refine N_run 8 [(2, .bool false)] (fun w => by kernel_rfl) ?_
                  refine N_end (by kernel_rfl) ?_
                  refine S_then ?_
                  refine S_ret (by kernel_rfl) ?_
                  show At _ _ _ _ (Q .ret)
                  exact S_done (fn := Try.f8) [.bool false] hQ (show ResOK _ _ _ [.tmp 2] _ from .tmp (by kernel_rfl) (.nil)) h
              · rw [if_neg c40] at h
                have b41 : rb_3 = false := eq_false_of_ne_true c40
                refine S_env [(0, .int .u64 wv), (7, .int .i64 ra_3), (9, .int .i64 ra_4), (10, .int .i64 rb_4), (11, .int .u64 rc), (12, .bool rd), (109, .bool false)] (by simp only [b41, Bool.not_true, Bool.not_false]) ?_
                clear b41
                refine S_condF (.tmp 109) morainelaw01_WordBack.k63 morainelaw01_WordBack.k64 (by kernel_rfl) (by kernel_rfl) ?_
                refine S_seq morainelaw01_WordBack.k65 morainelaw01_WordBack.k66 (by kernel_rfl) ?_
                refine S_region 24 (Code.ops morainelaw01_WordBack.k65) (by kernel_rfl) ?_
                refine N_run 2 [(0, .int .u64 wv), (9, .int .i64 ra_4), (10, .int .i64 rb_4), (11, .int .u64 rc), (118, .bool rd)] (fun w => by kernel_rfl) ?_
                refine N_end (by kernel_rfl) ?_
                refine S_then ?_
                by_cases c46 : rd = true
                · rw [if_pos c46] at h
                  have b47 : rd = true := c46
                  refine S_env [(0, .int .u64 wv), (9, .int .i64 ra_4), (10, .int .i64 rb_4), (11, .int .u64 rc), (118, .bool true)] (by simp only [b47, Bool.not_true, Bool.not_false]) ?_
                  clear b47
                  refine S_condT (.tmp 118) morainelaw01_WordBack.k67 morainelaw01_WordBack.k68 (by kernel_rfl) (by kernel_rfl) ?_
                  refine S_region 25 (Code.ops morainelaw01_WordBack.k67) (by kernel_rfl) ?_
                  refine N_run 3 [(0, .int .u64 wv), (121, .int .i64 ra_4), (122, .int .i64 rb_4), (123, .int .u64 rc)] (fun w => by kernel_rfl) ?_
                  refine N_call (some 124) 16 #[.int .i64 ra_4, .int .i64 rb_4, .int .u64 rc] (fun w => by kernel_rfl) h ?_
                  rintro v_13 H15 ⟨ra_8, rb_8, rfl, h⟩
                  refine ⟨[(0, .int .u64 wv), (124, .tuple #[.int .u64 ra_8, .int .i64 rb_8])], ps (by kernel_rfl), ?_⟩
                  refine N_run 5 [(0, .int .u64 wv), (17, .int .u64 ra_8), (18, .int .i64 rb_8)] (fun w => by kernel_rfl) ?_
                  refine N_end (by kernel_rfl) ?_
                  refine S_blockEnd ?_
                  refine S_then ?_
                  refine S_seq morainelaw01_WordBack.k55 morainelaw01_WordBack.k56 (by kernel_rfl) ?_
                  refine S_region 26 (Code.ops morainelaw01_WordBack.k55) (by kernel_rfl) ?_
                  refine N_run 3 [(0, .int .u64 wv), (17, .int .u64 ra_8), (129, .bool (rb_8 == 0))] (fun w => by kernel_rfl) ?_
                  by_cases c48 : rb_8 = 0
                  · rw [if_pos c48] at h
                    have b49 : (rb_8 == 0) = true := beq_iff_eq.mpr c48
                    refine N_env [(0, .int .u64 wv), (17, .int .u64 ra_8), (129, .bool true)] (by simp only [b49, Bool.not_true, Bool.not_false]) ?_
                    clear b49
                    refine N_run 5 [(134, .bool (ra_8 == wv))] (fun w => by kernel_rfl) ?_
                    by_cases c50 : ra_8 = wv
                    · rw [if_pos c50] at h
                      have b51 : (ra_8 == wv) = true := beq_iff_eq.mpr c50
                      refine N_env [(134, .bool true)] (by simp only [b51, Bool.not_true, Bool.not_false]) ?_
                      clear b51
                      refine N_call (some 135) 14 #[] (fun w => by kernel_rfl) h ?_
                      rintro v_14 H16 ⟨x_7, rfl, h⟩
                      refine ⟨[(134, .bool true), (135, .bool x_7)], ps (by kernel_rfl), ?_⟩
                      refine N_run 2 [(2, .bool x_7)] (fun w => by kernel_rfl) ?_
                      refine N_end (by kernel_rfl) ?_
                      refine S_then ?_
                      refine S_ret (by kernel_rfl) ?_
                      show At _ _ _ _ (Q .ret)
                      exact S_done (fn := Try.f8) [.bool x_7] hQ (show ResOK _ _ _ [.tmp 2] _ from .tmp (by kernel_rfl) (.nil)) h
                    · rw [if_neg c50] at h
                      have b51 : (ra_8 == wv) = false := beq_eq_false_iff_ne.mpr c50
                      refine N_env [(134, .bool false)] (by simp only [b51, Bool.not_true, Bool.not_false]) ?_
                      clear b51
                      refine N_run 3 [(2, .bool false)] (fun w => by kernel_rfl) ?_
                      refine N_end (by kernel_rfl) ?_
                      refine S_then ?_
                      refine S_ret (by kernel_rfl) ?_
                      show At _ _ _ _ (Q .ret)
                      exact S_done (fn := Try.f8) [.bool false] hQ (show ResOK _ _ _ [.tmp 2] _ from .tmp (by kernel_rfl) (.nil)) h
                  · rw [if_neg c48] at h
                    have b49 : (rb_8 == 0) = false := beq_eq_false_iff_ne.mpr c48
                    refine N_env [(0, .int .u64 wv), (17, .int .u64 ra_8), (129, .bool false)] (by simp only [b49, Bool.not_true, Bool.not_false]) ?_
                    clear b49
                    refine N_run 8 [(2, .bool false)] (fun w => by kernel_rfl) ?_
                    refine N_end (by kernel_rfl) ?_
                    refine S_then ?_
                    refine S_ret (by kernel_rfl) ?_
                    show At _ _ _ _ (Q .ret)
                    exact S_done (fn := Try.f8) [.bool false] hQ (show ResOK _ _ _ [.tmp 2] _ from .tmp (by kernel_rfl) (.nil)) h
                · rw [if_neg c46] at h
                  have b47 : rd = false := eq_false_of_ne_true c46
                  refine S_env [(0, .int .u64 wv), (9, .int .i64 ra_4), (10, .int .i64 rb_4), (11, .int .u64 rc), (118, .bool false)] (by simp only [b47, Bool.not_true, Bool.not_false]) ?_
                  clear b47
                  refine S_condF (.tmp 118) morainelaw01_WordBack.k67 morainelaw01_WordBack.k68 (by kernel_rfl) (by kernel_rfl) ?_
                  refine S_seq morainelaw01_WordBack.k69 morainelaw01_WordBack.k70 (by kernel_rfl) ?_
                  refine S_region 17 (Code.ops morainelaw01_WordBack.k69) (by kernel_rfl) ?_
                  refine N_sub [] (sb (by kernel_rfl)) ?_
                  refine N_call (some 94) 14 #[] (fun w => by kernel_rfl) h ?_
                  rintro v_15 H17 ⟨x_8, rfl, h⟩
                  refine ⟨[(94, .bool x_8)], ps (by kernel_rfl), ?_⟩
                  refine N_run 1 [(2, .bool x_8)] (fun w => by kernel_rfl) ?_
                  refine N_end (by kernel_rfl) ?_
                  refine S_then ?_
                  refine S_ret (by kernel_rfl) ?_
                  show At _ _ _ _ (Q .ret)
                  exact S_done (fn := Try.f8) [.bool x_8] hQ (show ResOK _ _ _ [.tmp 2] _ from .tmp (by kernel_rfl) (.nil)) h
        · rw [if_neg c26] at h
          have b27 : (!(x_2 == (count == 1))) = true := congrArg Bool.not (beq_eq_false_iff_ne.mpr c26)
          refine S_env [(0, .int .u64 wv), (3, .int .i64 ra), (4, .bool rb), (5, .int .i32 ra_2), (6, .bool rb_2), (7, .int .i64 ra_3), (8, .bool rb_3), (9, .int .i64 ra_4), (10, .int .i64 rb_4), (11, .int .u64 rc), (12, .bool rd), (93, .bool true)] (by simp only [b27, Bool.not_true, Bool.not_false]) ?_
          clear b27
          refine S_condT (.tmp 93) morainelaw01_WordBack.k40 morainelaw01_WordBack.k41 (by kernel_rfl) (by kernel_rfl) ?_
          refine S_seq morainelaw01_WordBack.k42 morainelaw01_WordBack.k43 (by kernel_rfl) ?_
          refine S_region 14 (Code.ops morainelaw01_WordBack.k42) (by kernel_rfl) ?_
          refine N_run 1 [(2, .bool false)] (fun w => by kernel_rfl) ?_
          refine N_end (by kernel_rfl) ?_
          refine S_then ?_
          refine S_ret (by kernel_rfl) ?_
          show At _ _ _ _ (Q .ret)
          exact S_done (fn := Try.f8) [.bool false] hQ (show ResOK _ _ _ [.tmp 2] _ from .tmp (by kernel_rfl) (.nil)) h
  · intro hk
    refine N_run 3 [(0, .int .u64 wv), (3, .int .i64 ra), (4, .bool rb), (5, .int .i32 ra_2), (6, .bool rb_2), (7, .int .i64 ra_3), (8, .bool rb_3), (9, .int .i64 ra_4), (10, .int .i64 rb_4), (11, .int .u64 rc), (12, .bool rd), (43, .bool (wv == 4))] (fun w => by kernel_rfl) ?_
    by_cases c1 : wv = 4
    · have b2 : (wv == 4) = true := beq_iff_eq.mpr c1
      refine N_env [(0, .int .u64 wv), (3, .int .i64 ra), (4, .bool rb), (5, .int .i32 ra_2), (6, .bool rb_2), (7, .int .i64 ra_3), (8, .bool rb_3), (9, .int .i64 ra_4), (10, .int .i64 rb_4), (11, .int .u64 rc), (12, .bool rd), (43, .bool true)] (by simp only [b2, Bool.not_true, Bool.not_false]) ?_
      refine N_run 24 [(0, .int .u64 wv), (3, .int .i64 ra), (4, .bool rb), (5, .int .i32 ra_2), (6, .bool rb_2), (7, .int .i64 ra_3), (8, .bool rb_3), (9, .int .i64 ra_4), (10, .int .i64 rb_4), (11, .int .u64 rc), (12, .bool rd), (13, .bool true)] (fun w => by kernel_rfl) ?_
      refine N_end (by kernel_rfl) ?_
      refine S_env [(0, .int .u64 wv), (3, .int .i64 ra), (4, .bool rb), (5, .int .i32 ra_2), (6, .bool rb_2), (7, .int .i64 ra_3), (8, .bool rb_3), (9, .int .i64 ra_4), (10, .int .i64 rb_4), (11, .int .u64 rc), (12, .bool rd), (13, .bool (((((((wv == 4) || (wv == 12)) || (wv == 20)) || (wv == 28)) || (wv == 36)) || (wv == 44)) || (wv == 52)))] (by simp only [b2, Bool.true_or, Bool.false_or, Bool.or_true, Bool.or_false, Bool.true_and, Bool.false_and, Bool.and_true, Bool.and_false, Bool.not_true, Bool.not_false, cond_true, cond_false]) ?_
      exact hk
    · have b2 : (wv == 4) = false := beq_eq_false_iff_ne.mpr c1
      refine N_env [(0, .int .u64 wv), (3, .int .i64 ra), (4, .bool rb), (5, .int .i32 ra_2), (6, .bool rb_2), (7, .int .i64 ra_3), (8, .bool rb_3), (9, .int .i64 ra_4), (10, .int .i64 rb_4), (11, .int .u64 rc), (12, .bool rd), (43, .bool false)] (by simp only [b2, Bool.not_true, Bool.not_false]) ?_
      refine N_run 4 [(0, .int .u64 wv), (3, .int .i64 ra), (4, .bool rb), (5, .int .i32 ra_2), (6, .bool rb_2), (7, .int .i64 ra_3), (8, .bool rb_3), (9, .int .i64 ra_4), (10, .int .i64 rb_4), (11, .int .u64 rc), (12, .bool rd), (47, .bool (wv == 12))] (fun w => by kernel_rfl) ?_
      by_cases c3 : wv = 12
      · have b4 : (wv == 12) = true := beq_iff_eq.mpr c3
        refine N_env [(0, .int .u64 wv), (3, .int .i64 ra), (4, .bool rb), (5, .int .i32 ra_2), (6, .bool rb_2), (7, .int .i64 ra_3), (8, .bool rb_3), (9, .int .i64 ra_4), (10, .int .i64 rb_4), (11, .int .u64 rc), (12, .bool rd), (47, .bool true)] (by simp only [b4, Bool.not_true, Bool.not_false]) ?_
        refine N_run 20 [(0, .int .u64 wv), (3, .int .i64 ra), (4, .bool rb), (5, .int .i32 ra_2), (6, .bool rb_2), (7, .int .i64 ra_3), (8, .bool rb_3), (9, .int .i64 ra_4), (10, .int .i64 rb_4), (11, .int .u64 rc), (12, .bool rd), (13, .bool true)] (fun w => by kernel_rfl) ?_
        refine N_end (by kernel_rfl) ?_
        refine S_env [(0, .int .u64 wv), (3, .int .i64 ra), (4, .bool rb), (5, .int .i32 ra_2), (6, .bool rb_2), (7, .int .i64 ra_3), (8, .bool rb_3), (9, .int .i64 ra_4), (10, .int .i64 rb_4), (11, .int .u64 rc), (12, .bool rd), (13, .bool (((((((wv == 4) || (wv == 12)) || (wv == 20)) || (wv == 28)) || (wv == 36)) || (wv == 44)) || (wv == 52)))] (by simp only [b2, b4, Bool.true_or, Bool.false_or, Bool.or_true, Bool.or_false, Bool.true_and, Bool.false_and, Bool.and_true, Bool.and_false, Bool.not_true, Bool.not_false, cond_true, cond_false]) ?_
        exact hk
      · have b4 : (wv == 12) = false := beq_eq_false_iff_ne.mpr c3
        refine N_env [(0, .int .u64 wv), (3, .int .i64 ra), (4, .bool rb), (5, .int .i32 ra_2), (6, .bool rb_2), (7, .int .i64 ra_3), (8, .bool rb_3), (9, .int .i64 ra_4), (10, .int .i64 rb_4), (11, .int .u64 rc), (12, .bool rd), (47, .bool false)] (by simp only [b4, Bool.not_true, Bool.not_false]) ?_
        refine N_run 4 [(0, .int .u64 wv), (3, .int .i64 ra), (4, .bool rb), (5, .int .i32 ra_2), (6, .bool rb_2), (7, .int .i64 ra_3), (8, .bool rb_3), (9, .int .i64 ra_4), (10, .int .i64 rb_4), (11, .int .u64 rc), (12, .bool rd), (51, .bool (wv == 20))] (fun w => by kernel_rfl) ?_
        by_cases c5 : wv = 20
        · have b6 : (wv == 20) = true := beq_iff_eq.mpr c5
          refine N_env [(0, .int .u64 wv), (3, .int .i64 ra), (4, .bool rb), (5, .int .i32 ra_2), (6, .bool rb_2), (7, .int .i64 ra_3), (8, .bool rb_3), (9, .int .i64 ra_4), (10, .int .i64 rb_4), (11, .int .u64 rc), (12, .bool rd), (51, .bool true)] (by simp only [b6, Bool.not_true, Bool.not_false]) ?_
          refine N_run 16 [(0, .int .u64 wv), (3, .int .i64 ra), (4, .bool rb), (5, .int .i32 ra_2), (6, .bool rb_2), (7, .int .i64 ra_3), (8, .bool rb_3), (9, .int .i64 ra_4), (10, .int .i64 rb_4), (11, .int .u64 rc), (12, .bool rd), (13, .bool true)] (fun w => by kernel_rfl) ?_
          refine N_end (by kernel_rfl) ?_
          refine S_env [(0, .int .u64 wv), (3, .int .i64 ra), (4, .bool rb), (5, .int .i32 ra_2), (6, .bool rb_2), (7, .int .i64 ra_3), (8, .bool rb_3), (9, .int .i64 ra_4), (10, .int .i64 rb_4), (11, .int .u64 rc), (12, .bool rd), (13, .bool (((((((wv == 4) || (wv == 12)) || (wv == 20)) || (wv == 28)) || (wv == 36)) || (wv == 44)) || (wv == 52)))] (by simp only [b2, b4, b6, Bool.true_or, Bool.false_or, Bool.or_true, Bool.or_false, Bool.true_and, Bool.false_and, Bool.and_true, Bool.and_false, Bool.not_true, Bool.not_false, cond_true, cond_false]) ?_
          exact hk
        · have b6 : (wv == 20) = false := beq_eq_false_iff_ne.mpr c5
          refine N_env [(0, .int .u64 wv), (3, .int .i64 ra), (4, .bool rb), (5, .int .i32 ra_2), (6, .bool rb_2), (7, .int .i64 ra_3), (8, .bool rb_3), (9, .int .i64 ra_4), (10, .int .i64 rb_4), (11, .int .u64 rc), (12, .bool rd), (51, .bool false)] (by simp only [b6, Bool.not_true, Bool.not_false]) ?_
          refine N_run 4 [(0, .int .u64 wv), (3, .int .i64 ra), (4, .bool rb), (5, .int .i32 ra_2), (6, .bool rb_2), (7, .int .i64 ra_3), (8, .bool rb_3), (9, .int .i64 ra_4), (10, .int .i64 rb_4), (11, .int .u64 rc), (12, .bool rd), (55, .bool (wv == 28))] (fun w => by kernel_rfl) ?_
          by_cases c7 : wv = 28
          · have b8 : (wv == 28) = true := beq_iff_eq.mpr c7
            refine N_env [(0, .int .u64 wv), (3, .int .i64 ra), (4, .bool rb), (5, .int .i32 ra_2), (6, .bool rb_2), (7, .int .i64 ra_3), (8, .bool rb_3), (9, .int .i64 ra_4), (10, .int .i64 rb_4), (11, .int .u64 rc), (12, .bool rd), (55, .bool true)] (by simp only [b8, Bool.not_true, Bool.not_false]) ?_
            refine N_run 12 [(0, .int .u64 wv), (3, .int .i64 ra), (4, .bool rb), (5, .int .i32 ra_2), (6, .bool rb_2), (7, .int .i64 ra_3), (8, .bool rb_3), (9, .int .i64 ra_4), (10, .int .i64 rb_4), (11, .int .u64 rc), (12, .bool rd), (13, .bool true)] (fun w => by kernel_rfl) ?_
            refine N_end (by kernel_rfl) ?_
            refine S_env [(0, .int .u64 wv), (3, .int .i64 ra), (4, .bool rb), (5, .int .i32 ra_2), (6, .bool rb_2), (7, .int .i64 ra_3), (8, .bool rb_3), (9, .int .i64 ra_4), (10, .int .i64 rb_4), (11, .int .u64 rc), (12, .bool rd), (13, .bool (((((((wv == 4) || (wv == 12)) || (wv == 20)) || (wv == 28)) || (wv == 36)) || (wv == 44)) || (wv == 52)))] (by simp only [b2, b4, b6, b8, Bool.true_or, Bool.false_or, Bool.or_true, Bool.or_false, Bool.true_and, Bool.false_and, Bool.and_true, Bool.and_false, Bool.not_true, Bool.not_false, cond_true, cond_false]) ?_
            exact hk
          · have b8 : (wv == 28) = false := beq_eq_false_iff_ne.mpr c7
            refine N_env [(0, .int .u64 wv), (3, .int .i64 ra), (4, .bool rb), (5, .int .i32 ra_2), (6, .bool rb_2), (7, .int .i64 ra_3), (8, .bool rb_3), (9, .int .i64 ra_4), (10, .int .i64 rb_4), (11, .int .u64 rc), (12, .bool rd), (55, .bool false)] (by simp only [b8, Bool.not_true, Bool.not_false]) ?_
            refine N_run 4 [(0, .int .u64 wv), (3, .int .i64 ra), (4, .bool rb), (5, .int .i32 ra_2), (6, .bool rb_2), (7, .int .i64 ra_3), (8, .bool rb_3), (9, .int .i64 ra_4), (10, .int .i64 rb_4), (11, .int .u64 rc), (12, .bool rd), (59, .bool (wv == 36))] (fun w => by kernel_rfl) ?_
            by_cases c9 : wv = 36
            · have b10 : (wv == 36) = true := beq_iff_eq.mpr c9
              refine N_env [(0, .int .u64 wv), (3, .int .i64 ra), (4, .bool rb), (5, .int .i32 ra_2), (6, .bool rb_2), (7, .int .i64 ra_3), (8, .bool rb_3), (9, .int .i64 ra_4), (10, .int .i64 rb_4), (11, .int .u64 rc), (12, .bool rd), (59, .bool true)] (by simp only [b10, Bool.not_true, Bool.not_false]) ?_
              refine N_run 8 [(0, .int .u64 wv), (3, .int .i64 ra), (4, .bool rb), (5, .int .i32 ra_2), (6, .bool rb_2), (7, .int .i64 ra_3), (8, .bool rb_3), (9, .int .i64 ra_4), (10, .int .i64 rb_4), (11, .int .u64 rc), (12, .bool rd), (13, .bool true)] (fun w => by kernel_rfl) ?_
              refine N_end (by kernel_rfl) ?_
              refine S_env [(0, .int .u64 wv), (3, .int .i64 ra), (4, .bool rb), (5, .int .i32 ra_2), (6, .bool rb_2), (7, .int .i64 ra_3), (8, .bool rb_3), (9, .int .i64 ra_4), (10, .int .i64 rb_4), (11, .int .u64 rc), (12, .bool rd), (13, .bool (((((((wv == 4) || (wv == 12)) || (wv == 20)) || (wv == 28)) || (wv == 36)) || (wv == 44)) || (wv == 52)))] (by simp only [b2, b4, b6, b8, b10, Bool.true_or, Bool.false_or, Bool.or_true, Bool.or_false, Bool.true_and, Bool.false_and, Bool.and_true, Bool.and_false, Bool.not_true, Bool.not_false, cond_true, cond_false]) ?_
              exact hk
            · have b10 : (wv == 36) = false := beq_eq_false_iff_ne.mpr c9
              refine N_env [(0, .int .u64 wv), (3, .int .i64 ra), (4, .bool rb), (5, .int .i32 ra_2), (6, .bool rb_2), (7, .int .i64 ra_3), (8, .bool rb_3), (9, .int .i64 ra_4), (10, .int .i64 rb_4), (11, .int .u64 rc), (12, .bool rd), (59, .bool false)] (by simp only [b10, Bool.not_true, Bool.not_false]) ?_
              refine N_run 4 [(0, .int .u64 wv), (3, .int .i64 ra), (4, .bool rb), (5, .int .i32 ra_2), (6, .bool rb_2), (7, .int .i64 ra_3), (8, .bool rb_3), (9, .int .i64 ra_4), (10, .int .i64 rb_4), (11, .int .u64 rc), (12, .bool rd), (63, .bool (wv == 44))] (fun w => by kernel_rfl) ?_
              by_cases c11 : wv = 44
              · have b12 : (wv == 44) = true := beq_iff_eq.mpr c11
                refine N_env [(0, .int .u64 wv), (3, .int .i64 ra), (4, .bool rb), (5, .int .i32 ra_2), (6, .bool rb_2), (7, .int .i64 ra_3), (8, .bool rb_3), (9, .int .i64 ra_4), (10, .int .i64 rb_4), (11, .int .u64 rc), (12, .bool rd), (63, .bool true)] (by simp only [b12, Bool.not_true, Bool.not_false]) ?_
                refine N_run 4 [(0, .int .u64 wv), (3, .int .i64 ra), (4, .bool rb), (5, .int .i32 ra_2), (6, .bool rb_2), (7, .int .i64 ra_3), (8, .bool rb_3), (9, .int .i64 ra_4), (10, .int .i64 rb_4), (11, .int .u64 rc), (12, .bool rd), (13, .bool true)] (fun w => by kernel_rfl) ?_
                refine N_end (by kernel_rfl) ?_
                refine S_env [(0, .int .u64 wv), (3, .int .i64 ra), (4, .bool rb), (5, .int .i32 ra_2), (6, .bool rb_2), (7, .int .i64 ra_3), (8, .bool rb_3), (9, .int .i64 ra_4), (10, .int .i64 rb_4), (11, .int .u64 rc), (12, .bool rd), (13, .bool (((((((wv == 4) || (wv == 12)) || (wv == 20)) || (wv == 28)) || (wv == 36)) || (wv == 44)) || (wv == 52)))] (by simp only [b2, b4, b6, b8, b10, b12, Bool.true_or, Bool.false_or, Bool.or_true, Bool.or_false, Bool.true_and, Bool.false_and, Bool.and_true, Bool.and_false, Bool.not_true, Bool.not_false, cond_true, cond_false]) ?_
                exact hk
              · have b12 : (wv == 44) = false := beq_eq_false_iff_ne.mpr c11
                refine N_env [(0, .int .u64 wv), (3, .int .i64 ra), (4, .bool rb), (5, .int .i32 ra_2), (6, .bool rb_2), (7, .int .i64 ra_3), (8, .bool rb_3), (9, .int .i64 ra_4), (10, .int .i64 rb_4), (11, .int .u64 rc), (12, .bool rd), (63, .bool false)] (by simp only [b12, Bool.not_true, Bool.not_false]) ?_
                refine N_run 4 [(0, .int .u64 wv), (3, .int .i64 ra), (4, .bool rb), (5, .int .i32 ra_2), (6, .bool rb_2), (7, .int .i64 ra_3), (8, .bool rb_3), (9, .int .i64 ra_4), (10, .int .i64 rb_4), (11, .int .u64 rc), (12, .bool rd), (13, .bool (wv == 52))] (fun w => by kernel_rfl) ?_
                refine N_end (by kernel_rfl) ?_
                refine S_env [(0, .int .u64 wv), (3, .int .i64 ra), (4, .bool rb), (5, .int .i32 ra_2), (6, .bool rb_2), (7, .int .i64 ra_3), (8, .bool rb_3), (9, .int .i64 ra_4), (10, .int .i64 rb_4), (11, .int .u64 rc), (12, .bool rd), (13, .bool (((((((wv == 4) || (wv == 12)) || (wv == 20)) || (wv == 28)) || (wv == 36)) || (wv == 44)) || (wv == 52)))] (by simp only [b2, b4, b6, b8, b10, b12, Bool.true_or, Bool.false_or, Bool.or_true, Bool.or_false, Bool.true_and, Bool.false_and, Bool.and_true, Bool.and_false, Bool.not_true, Bool.not_false, cond_true, cond_false]) ?_
                exact hk

end Go.Proofs.Ytgofbcapgikboaa
