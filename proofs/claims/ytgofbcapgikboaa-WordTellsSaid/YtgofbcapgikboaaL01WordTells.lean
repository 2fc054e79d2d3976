/-
  Written by a program of mine (gen.py): for functions of this translation a predicate transformer over heaps (.pt), and the proof that it is sound for the call (.link).
-/
import Derived.Test.YtgofbcapgikboaaFnsC
set_option linter.unusedSimpArgs false
set_option linter.unusedVariables false
namespace Go.Proofs.Ytgofbcapgikboaa
open Go
/-! moraine/morainelaw01.WordTells -/
noncomputable def morainelaw01_WordTells.k0 : Code := Func.code Try.f7
noncomputable def morainelaw01_WordTells.k1 : Code := Code.fa morainelaw01_WordTells.k0
noncomputable def morainelaw01_WordTells.k2 : Code := Code.fb morainelaw01_WordTells.k0
noncomputable def morainelaw01_WordTells.k3 : Code := Code.fa morainelaw01_WordTells.k2
noncomputable def morainelaw01_WordTells.k4 : Code := Code.fb morainelaw01_WordTells.k2
noncomputable def morainelaw01_WordTells.k5 : Code := Code.fa morainelaw01_WordTells.k4
noncomputable def morainelaw01_WordTells.k6 : Code := Code.fb morainelaw01_WordTells.k4
noncomputable def morainelaw01_WordTells.k7 : Code := Code.fa morainelaw01_WordTells.k6
noncomputable def morainelaw01_WordTells.k8 : Code := Code.fb morainelaw01_WordTells.k6
noncomputable def morainelaw01_WordTells.k9 : Code := Code.fa morainelaw01_WordTells.k8
noncomputable def morainelaw01_WordTells.k10 : Code := Code.fb morainelaw01_WordTells.k8
noncomputable def morainelaw01_WordTells.k11 : Code := Code.fa morainelaw01_WordTells.k10
noncomputable def morainelaw01_WordTells.k12 : Code := Code.fb morainelaw01_WordTells.k10
noncomputable def morainelaw01_WordTells.k13 : Code := Code.fa morainelaw01_WordTells.k12
noncomputable def morainelaw01_WordTells.k14 : Code := Code.fb morainelaw01_WordTells.k12
noncomputable def morainelaw01_WordTells.k15 : Code := Code.fa morainelaw01_WordTells.k13
noncomputable def morainelaw01_WordTells.k16 : Code := Code.fb morainelaw01_WordTells.k13
noncomputable def morainelaw01_WordTells.k17 : Code := Code.fa morainelaw01_WordTells.k16
noncomputable def morainelaw01_WordTells.k18 : Code := Code.fb morainelaw01_WordTells.k16
noncomputable def morainelaw01_WordTells.k19 : Code := Code.fa morainelaw01_WordTells.k14
noncomputable def morainelaw01_WordTells.k20 : Code := Code.fb morainelaw01_WordTells.k14
noncomputable def morainelaw01_WordTells.k21 : Code := Code.fa morainelaw01_WordTells.k19
noncomputable def morainelaw01_WordTells.k22 : Code := Code.fb morainelaw01_WordTells.k19
noncomputable def morainelaw01_WordTells.k23 : Code := Code.fa morainelaw01_WordTells.k22
noncomputable def morainelaw01_WordTells.k24 : Code := Code.fb morainelaw01_WordTells.k22
noncomputable def morainelaw01_WordTells.k25 : Code := Code.fa morainelaw01_WordTells.k20
noncomputable def morainelaw01_WordTells.k26 : Code := Code.fb morainelaw01_WordTells.k20
noncomputable def morainelaw01_WordTells.k27 : Code := Code.fa morainelaw01_WordTells.k25
noncomputable def morainelaw01_WordTells.k28 : Code := Code.fb morainelaw01_WordTells.k25
noncomputable def morainelaw01_WordTells.k29 : Code := Code.fa morainelaw01_WordTells.k28
noncomputable def morainelaw01_WordTells.k30 : Code := Code.fb morainelaw01_WordTells.k28
noncomputable def morainelaw01_WordTells.k31 : Code := Code.fa morainelaw01_WordTells.k29
noncomputable def morainelaw01_WordTells.k32 : Code := Code.fb morainelaw01_WordTells.k29
noncomputable def morainelaw01_WordTells.k33 : Code := Code.fa morainelaw01_WordTells.k26
noncomputable def morainelaw01_WordTells.k34 : Code := Code.fb morainelaw01_WordTells.k26
noncomputable def morainelaw01_WordTells.k35 : Code := Code.fa morainelaw01_WordTells.k33
noncomputable def morainelaw01_WordTells.k36 : Code := Code.fb morainelaw01_WordTells.k33
noncomputable def morainelaw01_WordTells.k37 : Code := Code.fa morainelaw01_WordTells.k36
noncomputable def morainelaw01_WordTells.k38 : Code := Code.fa morainelaw01_WordTells.k37
noncomputable def morainelaw01_WordTells.k39 : Code := Code.fb morainelaw01_WordTells.k37
noncomputable def morainelaw01_WordTells.k40 : Code := Code.fa morainelaw01_WordTells.k39
noncomputable def morainelaw01_WordTells.k41 : Code := Code.fb morainelaw01_WordTells.k39
noncomputable def morainelaw01_WordTells.k42 : Code := Code.fa morainelaw01_WordTells.k40
noncomputable def morainelaw01_WordTells.k43 : Code := Code.fb morainelaw01_WordTells.k40
noncomputable def morainelaw01_WordTells.k44 : Code := Code.fa morainelaw01_WordTells.k41
noncomputable def morainelaw01_WordTells.k45 : Code := Code.fb morainelaw01_WordTells.k41
noncomputable def morainelaw01_WordTells.k46 : Code := Code.fa morainelaw01_WordTells.k45
noncomputable def morainelaw01_WordTells.k47 : Code := Code.fb morainelaw01_WordTells.k45
noncomputable def morainelaw01_WordTells.k48 : Code := Code.fa morainelaw01_WordTells.k46
noncomputable def morainelaw01_WordTells.k49 : Code := Code.fb morainelaw01_WordTells.k46
noncomputable def morainelaw01_WordTells.k50 : Code := Code.fa morainelaw01_WordTells.k47
noncomputable def morainelaw01_WordTells.k51 : Code := Code.fb morainelaw01_WordTells.k47
noncomputable def morainelaw01_WordTells.k52 : Code := Code.fa morainelaw01_WordTells.k51
noncomputable def morainelaw01_WordTells.k53 : Code := Code.fb morainelaw01_WordTells.k51
noncomputable def morainelaw01_WordTells.k54 : Code := Code.fa morainelaw01_WordTells.k52
noncomputable def morainelaw01_WordTells.k55 : Code := Code.fb morainelaw01_WordTells.k52
noncomputable def morainelaw01_WordTells.k56 : Code := Code.fa morainelaw01_WordTells.k53
noncomputable def morainelaw01_WordTells.k57 : Code := Code.fb morainelaw01_WordTells.k53
noncomputable def morainelaw01_WordTells.k58 : Code := Code.fa morainelaw01_WordTells.k57
noncomputable def morainelaw01_WordTells.k59 : Code := Code.fb morainelaw01_WordTells.k57
noncomputable def morainelaw01_WordTells.k60 : Code := Code.fa morainelaw01_WordTells.k58
noncomputable def morainelaw01_WordTells.k61 : Code := Code.fb morainelaw01_WordTells.k58
noncomputable def morainelaw01_WordTells.k62 : Code := Code.fa morainelaw01_WordTells.k34
noncomputable def morainelaw01_WordTells.k63 : Code := Code.fb morainelaw01_WordTells.k34
noncomputable def morainelaw01_WordTells.k64 : Code := Code.fa morainelaw01_WordTells.k23
noncomputable def morainelaw01_WordTells.k65 : Code := Code.fb morainelaw01_WordTells.k23
noncomputable def morainelaw01_WordTells.k66 : Code := Code.fa morainelaw01_WordTells.k17
noncomputable def morainelaw01_WordTells.k67 : Code := Code.fb morainelaw01_WordTells.k17
def morainelaw01_WordTells.pt (wv : Int) (H : Array Obj) (R : Value → Array Obj → Prop) : Prop :=
 moraineref01_Of.C wv H (fun v H1 => ∃ xKind : Int, ∃ xTag : Int, ∃ xA : Int, ∃ xX : Int, ∃ xMore : Int, v = .agg #[.int .i64 xKind, .int .i64 xTag, .int .i64 xA, .int .i64 xX, .int .u64 xMore] ∧ 
  ∀ (b : Nat) (H2 : Array Obj), b = H1.size → H2 = H1.push (.cells #[.int .i64 0, .int .i64 0, .int .i64 0, .int .i64 0, .int .u64 0] 30) →
  CanPuts H2 (Addr.mk b 0 none) 0 5 ∧ ∀ H3 : Array Obj, H3 = hputs H2 (Addr.mk b 0 none) [.int .i64 xKind, .int .i64 xTag, .int .i64 xA, .int .i64 xX, .int .u64 xMore] 0 →
  word_Int.C wv H3 (fun v_2 H4 => ∃ ra : Int, ∃ rb : Bool, v_2 = .tuple #[.int .i64 ra, .bool rb] ∧ 
   word_Rune.C wv H4 (fun v_3 H5 => ∃ ra_2 : Int, ∃ rb_2 : Bool, v_3 = .tuple #[.int .i32 ra_2, .bool rb_2] ∧ 
    word_Addr.C wv H5 (fun v_4 H6 => ∃ ra_3 : Int, ∃ rb_3 : Bool, v_4 = .tuple #[.int .i64 ra_3, .bool rb_3] ∧ 
     word_Head.C wv H6 (fun v_5 H7 => ∃ ra_4 : Int, ∃ rb_4 : Int, ∃ rc : Int, ∃ rd : Bool, v_5 = .tuple #[.int .i64 ra_4, .int .i64 rb_4, .int .u64 rc, .bool rd] ∧ 
      ∃ x : Int, hat H7 (Addr.mk b 0 none) = some (.int .i64 x) ∧
      word_May.C wv H7 (fun v_6 H8 => ∃ x_2 : Bool, v_6 = .bool x_2 ∧ RowAt H8 (Addr.mk b 0 none) 0 [.int .i64 x] ∧ 
       if x_2 = (x != 0) then (
        word_Tag.C wv H8 (fun v_7 H9 => ∃ x_3 : Int, v_7 = .int .i64 x_3 ∧ RowAt H9 (Addr.mk b 0 none) 0 [.int .i64 x] ∧ 
         if x_3 = (IntKind.wrap .i64 (Int.tmod wv 8)) then (
          word_Truth.C wv H9 (fun v_8 H10 => ∃ x_4 : Bool, v_8 = .bool x_4 ∧ RowAt H10 (Addr.mk b 0 none) 0 [.int .i64 x] ∧ 
           if x_4 = (wv != 4) then (
            ∃ x_5 : Int, hat H10 (Addr.mk b 0 none) = some (.int .i64 x_5) ∧
            if rb = (x_5 == 1) then (
             ∃ x_6 : Int, hat H10 (Addr.mk b 0 none) = some (.int .i64 x_6) ∧
             if rb_2 = (x_6 == 4) then (
              ∃ x_7 : Int, hat H10 (Addr.mk b 0 none) = some (.int .i64 x_7) ∧
              if rb_3 = (x_7 == 2) then (
               ∃ x_8 : Int, hat H10 (Addr.mk b 0 none) = some (.int .i64 x_8) ∧
               if rd = (x_8 == 5) then (
                if (((((!rb) && (ra != 0)) || ((!rb_2) && (ra_2 != 0))) || ((!rb_3) && (ra_3 != 0))) || ((!rd) && (((ra_4 != 0) || (rb_4 != 0)) || (rc != 0)))) = true then (
                 R (.bool false) H10)
                else
                ∃ x_9 : Int, hat H10 (Addr.mk b 0 none) = some (.int .i64 x_9) ∧
                if x_9 = 1 then (
                 ∃ x_10 : Int, hat H10 ((Addr.mk b 0 none).add 3) = some (.int .i64 x_10) ∧
                 if ra = x_10 then (
                  morainelaw01_awake.C  H10 (fun v_9 H11 => ∃ x_11 : Bool, v_9 = .bool x_11 ∧ 
                   R (.bool x_11) H11))
                 else
                 R (.bool false) H10)
                else
                if x_9 = 2 then (
                 ∃ x_12 : Int, hat H10 ((Addr.mk b 0 none).add 2) = some (.int .i64 x_12) ∧
                 if ra_3 = x_12 then (
                  morainelaw01_awake.C  H10 (fun v_10 H12 => ∃ x_13 : Bool, v_10 = .bool x_13 ∧ 
                   R (.bool x_13) H12))
                 else
                 R (.bool false) H10)
                else
                if x_9 = 4 then (
                 ∃ x_14 : Int, hat H10 ((Addr.mk b 0 none).add 2) = some (.int .i64 x_14) ∧
                 if (IntKind.wrap .i64 ra_2) = x_14 then (
                  morainelaw01_awake.C  H10 (fun v_11 H13 => ∃ x_15 : Bool, v_11 = .bool x_15 ∧ 
                   R (.bool x_15) H13))
                 else
                 R (.bool false) H10)
                else
                if x_9 = 5 then (
                 ∃ x_16 : Int, hat H10 ((Addr.mk b 0 none).add 1) = some (.int .i64 x_16) ∧
                 if ra_4 = x_16 then (
                  ∃ x_17 : Int, hat H10 ((Addr.mk b 0 none).add 2) = some (.int .i64 x_17) ∧
                  if rb_4 = x_17 then (
                   ∃ x_18 : Int, hat H10 ((Addr.mk b 0 none).add 4) = some (.int .u64 x_18) ∧
                   if rc = x_18 then (
                    morainelaw01_awake.C  H10 (fun v_12 H14 => ∃ x_19 : Bool, v_12 = .bool x_19 ∧ 
                     R (.bool x_19) H14))
                   else
                   R (.bool false) H10)
                  else
                  R (.bool false) H10)
                 else
                 R (.bool false) H10)
                else
                morainelaw01_awake.C  H10 (fun v_13 H15 => ∃ x_20 : Bool, v_13 = .bool x_20 ∧ 
                 R (.bool x_20) H15))
               else
               R (.bool false) H10)
              else
              R (.bool false) H10)
             else
             R (.bool false) H10)
            else
            R (.bool false) H10)
           else
           R (.bool false) H10))
         else
         R (.bool false) H9))
       else
       R (.bool false) H8))))))
set_option maxRecDepth 100000 in
theorem morainelaw01_WordTells.link {wv : Int} {H : Array Obj} {R : Value → Array Obj → Prop} (h : morainelaw01_WordTells.pt wv H R) : morainelaw01_WordTells.C wv H R := by
  refine S_enter (fn := Try.f7) (c := morainelaw01_WordTells.k0) 175 Try.func7 (by kernel_rfl) (by kernel_rfl) (Nat.le_of_ble_eq_true (by kernel_rfl)) ?_
  intro w0 Q hQ
  unfold morainelaw01_WordTells.pt at h
  refine S_sub [(0, .int .u64 wv)] (sb (by kernel_rfl)) ?_
  refine S_seq morainelaw01_WordTells.k1 morainelaw01_WordTells.k2 (by kernel_rfl) ?_
  refine S_region 0 (Code.ops morainelaw01_WordTells.k1) (by kernel_rfl) ?_
  refine N_run 1 [(0, .int .u64 wv)] (fun w => by kernel_rfl) ?_
  refine N_end (by kernel_rfl) ?_
  refine S_then ?_
  refine S_seq morainelaw01_WordTells.k3 morainelaw01_WordTells.k4 (by kernel_rfl) ?_
  refine S_region 1 (Code.ops morainelaw01_WordTells.k3) (by kernel_rfl) ?_
  refine N_run 1 [(0, .int .u64 wv), (14, .int .u64 wv)] (fun w => by kernel_rfl) ?_
  refine N_call (some 15) 19 #[.int .u64 wv] (fun w => by kernel_rfl) h ?_
  rintro v H1 ⟨xKind, xTag, xA, xX, xMore, rfl, h⟩
  refine ⟨[(0, .int .u64 wv), (15, .agg #[.int .i64 xKind, .int .i64 xTag, .int .i64 xA, .int .i64 xX, .int .u64 xMore])], ps (by kernel_rfl), ?_⟩
  refine N_new (some 3) (fun b => .pointer (some (Addr.mk b 0 none))) (.cells #[.int .i64 0, .int .i64 0, .int .i64 0, .int .i64 0, .int .u64 0] 30) (fun w => by kernel_rfl) ?_
  intro b H2 e1 e2
  replace h := h b H2 e1 e2
  refine ⟨[(0, .int .u64 wv), (3, .pointer (some (Addr.mk b 0 none))), (15, .agg #[.int .i64 xKind, .int .i64 xTag, .int .i64 xA, .int .i64 xX, .int .u64 xMore])], ps (by kernel_rfl), ?_⟩
  obtain ⟨q4, h⟩ := h
  refine N_skipop none (storeN 30 (.pointer (some (Addr.mk b 0 none))) (.agg #[.int .i64 xKind, .int .i64 xTag, .int .i64 xA, .int .i64 xX, .int .u64 xMore])) (fun H1 => H1 = hputs H2 (Addr.mk b 0 none) [.int .i64 xKind, .int .i64 xTag, .int .i64 xA, .int .i64 xX, .int .u64 xMore] 0) (fun w => by kernel_rfl) (ss_store [.int .i64 xKind, .int .i64 xTag, .int .i64 xA, .int .i64 xX, .int .u64 xMore] 5 (by kernel_rfl) (by kernel_rfl) (fun w => by kernel_rfl) (by kernel_rfl) q4) ?_
  intro H3 e3
  replace h := h H3 e3
  refine ⟨[(0, .int .u64 wv), (3, .pointer (some (Addr.mk b 0 none)))], ps (by kernel_rfl), ?_⟩
  refine N_end (by kernel_rfl) ?_
  refine S_then ?_
  refine S_seq morainelaw01_WordTells.k5 morainelaw01_WordTells.k6 (by kernel_rfl) ?_
  refine S_region 2 (Code.ops morainelaw01_WordTells.k5) (by kernel_rfl) ?_
  refine N_run 1 [(0, .int .u64 wv), (3, .pointer (some (Addr.mk b 0 none))), (17, .int .u64 wv)] (fun w => by kernel_rfl) ?_
  refine N_call (some 18) 20 #[.int .u64 wv] (fun w => by kernel_rfl) h ?_
  rintro v_2 H4 ⟨ra, rb, rfl, h⟩
  refine ⟨[(0, .int .u64 wv), (3, .pointer (some (Addr.mk b 0 none))), (18, .tuple #[.int .i64 ra, .bool rb])], ps (by kernel_rfl), ?_⟩
  refine N_run 5 [(0, .int .u64 wv), (3, .pointer (some (Addr.mk b 0 none))), (4, .int .i64 ra), (5, .bool rb)] (fun w => by kernel_rfl) ?_
  refine N_end (by kernel_rfl) ?_
  refine S_then ?_
  refine S_seq morainelaw01_WordTells.k7 morainelaw01_WordTells.k8 (by kernel_rfl) ?_
  refine S_region 3 (Code.ops morainelaw01_WordTells.k7) (by kernel_rfl) ?_
  refine N_run 1 [(0, .int .u64 wv), (3, .pointer (some (Addr.mk b 0 none))), (4, .int .i64 ra), (5, .bool rb), (22, .int .u64 wv)] (fun w => by kernel_rfl) ?_
  refine N_call (some 23) 21 #[.int .u64 wv] (fun w => by kernel_rfl) h ?_
  rintro v_3 H5 ⟨ra_2, rb_2, rfl, h⟩
  refine ⟨[(0, .int .u64 wv), (3, .pointer (some (Addr.mk b 0 none))), (4, .int .i64 ra), (5, .bool rb), (23, .tuple #[.int .i32 ra_2, .bool rb_2])], ps (by kernel_rfl), ?_⟩
  refine N_run 5 [(0, .int .u64 wv), (3, .pointer (some (Addr.mk b 0 none))), (4, .int .i64 ra), (5, .bool rb), (6, .int .i32 ra_2), (7, .bool rb_2)] (fun w => by kernel_rfl) ?_
  refine N_end (by kernel_rfl) ?_
  refine S_then ?_
  refine S_seq morainelaw01_WordTells.k9 morainelaw01_WordTells.k10 (by kernel_rfl) ?_
  refine S_region 4 (Code.ops morainelaw01_WordTells.k9) (by kernel_rfl) ?_
  refine N_run 1 [(0, .int .u64 wv), (3, .pointer (some (Addr.mk b 0 none))), (4, .int .i64 ra), (5, .bool rb), (6, .int .i32 ra_2), (7, .bool rb_2), (27, .int .u64 wv)] (fun w => by kernel_rfl) ?_
  refine N_call (some 28) 22 #[.int .u64 wv] (fun w => by kernel_rfl) h ?_
  rintro v_4 H6 ⟨ra_3, rb_3, rfl, h⟩
  refine ⟨[(0, .int .u64 wv), (3, .pointer (some (Addr.mk b 0 none))), (4, .int .i64 ra), (5, .bool rb), (6, .int .i32 ra_2), (7, .bool rb_2), (28, .tuple #[.int .i64 ra_3, .bool rb_3])], ps (by kernel_rfl), ?_⟩
  refine N_run 5 [(0, .int .u64 wv), (3, .pointer (some (Addr.mk b 0 none))), (4, .int .i64 ra), (5, .bool rb), (6, .int .i32 ra_2), (7, .bool rb_2), (8, .int .i64 ra_3), (9, .bool rb_3)] (fun w => by kernel_rfl) ?_
  refine N_end (by kernel_rfl) ?_
  refine S_then ?_
  refine S_seq morainelaw01_WordTells.k11 morainelaw01_WordTells.k12 (by kernel_rfl) ?_
  refine S_region 5 (Code.ops morainelaw01_WordTells.k11) (by kernel_rfl) ?_
  refine N_run 1 [(0, .int .u64 wv), (3, .pointer (some (Addr.mk b 0 none))), (4, .int .i64 ra), (5, .bool rb), (6, .int .i32 ra_2), (7, .bool rb_2), (8, .int .i64 ra_3), (9, .bool rb_3), (32, .int .u64 wv)] (fun w => by kernel_rfl) ?_
  refine N_call (some 33) 23 #[.int .u64 wv] (fun w => by kernel_rfl) h ?_
  rintro v_5 H7 ⟨ra_4, rb_4, rc, rd, rfl, h⟩
  refine ⟨[(0, .int .u64 wv), (3, .pointer (some (Addr.mk b 0 none))), (4, .int .i64 ra), (5, .bool rb), (6, .int .i32 ra_2), (7, .bool rb_2), (8, .int .i64 ra_3), (9, .bool rb_3), (33, .tuple #[.int .i64 ra_4, .int .i64 rb_4, .int .u64 rc, .bool rd])], ps (by kernel_rfl), ?_⟩
  refine N_run 9 [(0, .int .u64 wv), (3, .pointer (some (Addr.mk b 0 none))), (4, .int .i64 ra), (5, .bool rb), (6, .int .i32 ra_2), (7, .bool rb_2), (8, .int .i64 ra_3), (9, .bool rb_3), (10, .int .i64 ra_4), (11, .int .i64 rb_4), (12, .int .u64 rc), (13, .bool rd)] (fun w => by kernel_rfl) ?_
  refine N_end (by kernel_rfl) ?_
  refine S_then ?_
  refine S_seq morainelaw01_WordTells.k13 morainelaw01_WordTells.k14 (by kernel_rfl) ?_
  refine S_seq morainelaw01_WordTells.k15 morainelaw01_WordTells.k16 (by kernel_rfl) ?_
  obtain ⟨x, q5, h⟩ := h
  refine S_regionG 6 (Code.ops morainelaw01_WordTells.k15) [(21, (Addr.mk b 0 none), [.int .i64 x])] 21 #[false, false, false, false, false, false, false, false, false, false, false, false, false, false, false, false, false, false, false, false, false] (by kernel_rfl) (by kernel_rfl) (by kernel_rfl) (by kernel_rfl) (by kernel_rfl) (show FactsAt _ _ _ from ⟨⟨q5, trivial⟩, trivial⟩) ?_
  refine G_take 0 (some 38) (.int .u64 wv) #[true, false, false, false, false, false, false, false, false, false, false, false, false, false, false, false, false, false, false, false, false] [(0, .int .u64 wv), (3, .pointer (some (Addr.mk b 0 none))), (4, .int .i64 ra), (5, .bool rb), (6, .int .i32 ra_2), (7, .bool rb_2), (8, .int .i64 ra_3), (9, .bool rb_3), (10, .int .i64 ra_4), (11, .int .i64 rb_4), (12, .int .u64 rc), (13, .bool rd), (38, .int .u64 wv)] ((pure (.value (.int .u64 wv)) : Sem Next)) (fun w => by kernel_rfl) (fun _ _ _ _ _ => rfl) (by kernel_rfl) (by kernel_rfl) (by kernel_rfl) (by kernel_rfl) (by kernel_rfl) (ps (by kernel_rfl)) ?_
  refine G_take 2 (some 40) (.pointer (some (Addr.mk b 0 none))) #[true, false, true, false, false, false, false, false, false, false, false, false, false, false, false, false, false, false, false, false, false] [(0, .int .u64 wv), (3, .pointer (some (Addr.mk b 0 none))), (4, .int .i64 ra), (5, .bool rb), (6, .int .i32 ra_2), (7, .bool rb_2), (8, .int .i64 ra_3), (9, .bool rb_3), (10, .int .i64 ra_4), (11, .int .i64 rb_4), (12, .int .u64 rc), (13, .bool rd), (38, .int .u64 wv), (40, .pointer (some (Addr.mk b 0 none)))] ((pure (.value (.pointer (some (Addr.mk b 0 none)))) : Sem Next)) (fun w => by kernel_rfl) (fun _ _ _ _ _ => rfl) (by kernel_rfl) (by kernel_rfl) (by kernel_rfl) (by kernel_rfl) (by kernel_rfl) (ps (by kernel_rfl)) ?_
  refine G_take 3 (some 41) (.int .i64 x) #[true, false, true, true, false, false, false, false, false, false, false, false, false, false, false, false, false, false, false, false, false] [(0, .int .u64 wv), (3, .pointer (some (Addr.mk b 0 none))), (4, .int .i64 ra), (5, .bool rb), (6, .int .i32 ra_2), (7, .bool rb_2), (8, .int .i64 ra_3), (9, .bool rb_3), (10, .int .i64 ra_4), (11, .int .i64 rb_4), (12, .int .u64 rc), (13, .bool rd), (38, .int .u64 wv), (41, .int .i64 x)] (loadN 3 (.pointer (some (Addr.mk b 0 none)))) (fun w => by kernel_rfl) (held_one 21 (fun w => by kernel_rfl) (List.Mem.head _) (.inr (by kernel_rfl))) (by kernel_rfl) (by kernel_rfl) (by kernel_rfl) (by kernel_rfl) (by kernel_rfl) (ps (by kernel_rfl)) ?_
  refine G_take 4 (some 42) (.bool (x != 0)) #[true, false, true, true, true, false, false, false, false, false, false, false, false, false, false, false, false, false, false, false, false] [(0, .int .u64 wv), (3, .pointer (some (Addr.mk b 0 none))), (4, .int .i64 ra), (5, .bool rb), (6, .int .i32 ra_2), (7, .bool rb_2), (8, .int .i64 ra_3), (9, .bool rb_3), (10, .int .i64 ra_4), (11, .int .i64 rb_4), (12, .int .u64 rc), (13, .bool rd), (38, .int .u64 wv), (42, .bool (x != 0))] ((pure (.value (.bool (x != 0))) : Sem Next)) (fun w => by kernel_rfl) (fun _ _ _ _ _ => rfl) (by kernel_rfl) (by kernel_rfl) (by kernel_rfl) (by kernel_rfl) (by kernel_rfl) (ps (by kernel_rfl)) ?_
  refine G_call 1 (some 39) #[true, true, true, true, true, false, false, false, false, false, false, false, false, false, false, false, false, false, false, false, false] 18 #[.int .u64 wv] (by kernel_rfl) (fun w => by kernel_rfl) h (by kernel_rfl) ?_
  rintro v_6 H8 ⟨x_2, rfl, h⟩
  obtain ⟨f6, h⟩ := h
  refine ⟨[(0, .int .u64 wv), (3, .pointer (some (Addr.mk b 0 none))), (4, .int .i64 ra), (5, .bool rb), (6, .int .i32 ra_2), (7, .bool rb_2), (8, .int .i64 ra_3), (9, .bool rb_3), (10, .int .i64 ra_4), (11, .int .i64 rb_4), (12, .int .u64 rc), (13, .bool rd), (39, .bool x_2), (42, .bool (x != 0))], ps (by kernel_rfl), (show FactsAt _ _ _ from ⟨f6, trivial⟩), ?_⟩
  refine G_take 5 (some 43) (.bool (!(x_2 == (x != 0)))) #[true, true, true, true, true, true, false, false, false, false, false, false, false, false, false, false, false, false, false, false, false] [(0, .int .u64 wv), (3, .pointer (some (Addr.mk b 0 none))), (4, .int .i64 ra), (5, .bool rb), (6, .int .i32 ra_2), (7, .bool rb_2), (8, .int .i64 ra_3), (9, .bool rb_3), (10, .int .i64 ra_4), (11, .int .i64 rb_4), (12, .int .u64 rc), (13, .bool rd), (43, .bool (!(x_2 == (x != 0))))] (pure (.value (.bool (!(x_2 == (x != 0))))) : Sem Next) (fun w => by kernel_rfl) (fun _ _ _ _ _ => rfl) (by kernel_rfl) (by kernel_rfl) (by kernel_rfl) (by kernel_rfl) (by kernel_rfl) (ps (by kernel_rfl)) ?_
  refine G_take 6 (some 44) (.bool (!(x_2 == (x != 0)))) #[true, true, true, true, true, true, true, false, false, false, false, false, false, false, false, false, false, false, false, false, false] [(0, .int .u64 wv), (3, .pointer (some (Addr.mk b 0 none))), (4, .int .i64 ra), (5, .bool rb), (6, .int .i32 ra_2), (7, .bool rb_2), (8, .int .i64 ra_3), (9, .bool rb_3), (10, .int .i64 ra_4), (11, .int .i64 rb_4), (12, .int .u64 rc), (13, .bool rd), (44, .bool (!(x_2 == (x != 0))))] (pure (.value (.bool (!(x_2 == (x != 0))))) : Sem Next) (fun w => by kernel_rfl) (fun _ _ _ _ _ => rfl) (by kernel_rfl) (by kernel_rfl) (by kernel_rfl) (by kernel_rfl) (by kernel_rfl) (ps (by kernel_rfl)) ?_
  by_cases c7 : x_2 = (x != 0)
  · rw [if_pos c7] at h
    have b8 : (!(x_2 == (x != 0))) = false := congrArg Bool.not (beq_iff_eq.mpr c7)
    refine G_env [(0, .int .u64 wv), (3, .pointer (some (Addr.mk b 0 none))), (4, .int .i64 ra), (5, .bool rb), (6, .int .i32 ra_2), (7, .bool rb_2), (8, .int .i64 ra_3), (9, .bool rb_3), (10, .int .i64 ra_4), (11, .int .i64 rb_4), (12, .int .u64 rc), (13, .bool rd), (44, .bool false)] (by simp only [b8, Bool.not_true, Bool.not_false]) ?_
    clear b8
    refine G_take 7 (some 45) (.int .u64 wv) #[true, true, true, true, true, true, true, true, false, false, false, false, false, false, false, false, false, false, false, false, false] [(0, .int .u64 wv), (3, .pointer (some (Addr.mk b 0 none))), (4, .int .i64 ra), (5, .bool rb), (6, .int .i32 ra_2), (7, .bool rb_2), (8, .int .i64 ra_3), (9, .bool rb_3), (10, .int .i64 ra_4), (11, .int .i64 rb_4), (12, .int .u64 rc), (13, .bool rd), (44, .bool false), (45, .int .u64 wv)] (pure (.value (.int .u64 wv)) : Sem Next) (fun w => by kernel_rfl) (fun _ _ _ _ _ => rfl) (by kernel_rfl) (by kernel_rfl) (by kernel_rfl) (by kernel_rfl) (by kernel_rfl) (ps (by kernel_rfl)) ?_
    refine G_take 9 (some 47) (.int .u64 wv) #[true, true, true, true, true, true, true, true, false, true, false, false, false, false, false, false, false, false, false, false, false] [(0, .int .u64 wv), (3, .pointer (some (Addr.mk b 0 none))), (4, .int .i64 ra), (5, .bool rb), (6, .int .i32 ra_2), (7, .bool rb_2), (8, .int .i64 ra_3), (9, .bool rb_3), (10, .int .i64 ra_4), (11, .int .i64 rb_4), (12, .int .u64 rc), (13, .bool rd), (44, .bool false), (45, .int .u64 wv), (47, .int .u64 wv)] (pure (.value (.int .u64 wv)) : Sem Next) (fun w => by kernel_rfl) (fun _ _ _ _ _ => rfl) (by kernel_rfl) (by kernel_rfl) (by kernel_rfl) (by kernel_rfl) (by kernel_rfl) (ps (by kernel_rfl)) ?_
    refine G_take 10 (some 48) (.int .u64 (Int.tmod wv 8)) #[true, true, true, true, true, true, true, true, false, true, true, false, false, false, false, false, false, false, false, false, false] [(0, .int .u64 wv), (3, .pointer (some (Addr.mk b 0 none))), (4, .int .i64 ra), (5, .bool rb), (6, .int .i32 ra_2), (7, .bool rb_2), (8, .int .i64 ra_3), (9, .bool rb_3), (10, .int .i64 ra_4), (11, .int .i64 rb_4), (12, .int .u64 rc), (13, .bool rd), (44, .bool false), (45, .int .u64 wv), (48, .int .u64 (Int.tmod wv 8))] (pure (.value (.int .u64 (Int.tmod wv 8))) : Sem Next) (fun w => by kernel_rfl) (fun _ _ _ _ _ => rfl) (by kernel_rfl) (by kernel_rfl) (by kernel_rfl) (by kernel_rfl) (by kernel_rfl) (ps (by kernel_rfl)) ?_
    refine G_take 11 (some 49) (.int .i64 (IntKind.wrap .i64 (Int.tmod wv 8))) #[true, true, true, true, true, true, true, true, false, true, true, true, false, false, false, false, false, false, false, false, false] [(0, .int .u64 wv), (3, .pointer (some (Addr.mk b 0 none))), (4, .int .i64 ra), (5, .bool rb), (6, .int .i32 ra_2), (7, .bool rb_2), (8, .int .i64 ra_3), (9, .bool rb_3), (10, .int .i64 ra_4), (11, .int .i64 rb_4), (12, .int .u64 rc), (13, .bool rd), (44, .bool false), (45, .int .u64 wv), (49, .int .i64 (IntKind.wrap .i64 (Int.tmod wv 8)))] (pure (.value (.int .i64 (IntKind.wrap .i64 (Int.tmod wv 8)))) : Sem Next) (fun w => by kernel_rfl) (fun _ _ _ _ _ => rfl) (by kernel_rfl) (by kernel_rfl) (by kernel_rfl) (by kernel_rfl) (by kernel_rfl) (ps (by kernel_rfl)) ?_
    refine G_call 8 (some 46) #[true, true, true, true, true, true, true, true, true, true, true, true, false, false, false, false, false, false, false, false, false] 24 #[.int .u64 wv] (by kernel_rfl) (fun w => by kernel_rfl) h (by kernel_rfl) ?_
    rintro v_7 H9 ⟨x_3, rfl, h⟩
    obtain ⟨f9, h⟩ := h
    refine ⟨[(0, .int .u64 wv), (3, .pointer (some (Addr.mk b 0 none))), (4, .int .i64 ra), (5, .bool rb), (6, .int .i32 ra_2), (7, .bool rb_2), (8, .int .i64 ra_3), (9, .bool rb_3), (10, .int .i64 ra_4), (11, .int .i64 rb_4), (12, .int .u64 rc), (13, .bool rd), (44, .bool false), (46, .int .i64 x_3), (49, .int .i64 (IntKind.wrap .i64 (Int.tmod wv 8)))], ps (by kernel_rfl), (show FactsAt _ _ _ from ⟨f9, trivial⟩), ?_⟩
    refine G_take 12 (some 50) (.bool (x_3 != (IntKind.wrap .i64 (Int.tmod wv 8)))) #[true, true, true, true, true, true, true, true, true, true, true, true, true, false, false, false, false, false, false, false, false] [(0, .int .u64 wv), (3, .pointer (some (Addr.mk b 0 none))), (4, .int .i64 ra), (5, .bool rb), (6, .int .i32 ra_2), (7, .bool rb_2), (8, .int .i64 ra_3), (9, .bool rb_3), (10, .int .i64 ra_4), (11, .int .i64 rb_4), (12, .int .u64 rc), (13, .bool rd), (44, .bool false), (50, .bool (x_3 != (IntKind.wrap .i64 (Int.tmod wv 8))))] (pure (.value (.bool (x_3 != (IntKind.wrap .i64 (Int.tmod wv 8))))) : Sem Next) (fun w => by kernel_rfl) (fun _ _ _ _ _ => rfl) (by kernel_rfl) (by kernel_rfl) (by kernel_rfl) (by kernel_rfl) (by kernel_rfl) (ps (by kernel_rfl)) ?_
    refine G_take 13 (some 51) (.bool (x_3 != (IntKind.wrap .i64 (Int.tmod wv 8)))) #[true, true, true, true, true, true, true, true, true, true, true, true, true, true, false, false, false, false, false, false, false] [(0, .int .u64 wv), (3, .pointer (some (Addr.mk b 0 none))), (4, .int .i64 ra), (5, .bool rb), (6, .int .i32 ra_2), (7, .bool rb_2), (8, .int .i64 ra_3), (9, .bool rb_3), (10, .int .i64 ra_4), (11, .int .i64 rb_4), (12, .int .u64 rc), (13, .bool rd), (51, .bool (x_3 != (IntKind.wrap .i64 (Int.tmod wv 8))))] (pure (.value (.bool (x_3 != (IntKind.wrap .i64 (Int.tmod wv 8))))) : Sem Next) (fun w => by kernel_rfl) (fun _ _ _ _ _ => rfl) (by kernel_rfl) (by kernel_rfl) (by kernel_rfl) (by kernel_rfl) (by kernel_rfl) (ps (by kernel_rfl)) ?_
    refine G_take 14 (some 52) (.bool (x_3 != (IntKind.wrap .i64 (Int.tmod wv 8)))) #[true, true, true, true, true, true, true, true, true, true, true, true, true, true, true, false, false, false, false, false, false] [(0, .int .u64 wv), (3, .pointer (some (Addr.mk b 0 none))), (4, .int .i64 ra), (5, .bool rb), (6, .int .i32 ra_2), (7, .bool rb_2), (8, .int .i64 ra_3), (9, .bool rb_3), (10, .int .i64 ra_4), (11, .int .i64 rb_4), (12, .int .u64 rc), (13, .bool rd), (52, .bool (x_3 != (IntKind.wrap .i64 (Int.tmod wv 8))))] (pure (.value (.bool (x_3 != (IntKind.wrap .i64 (Int.tmod wv 8))))) : Sem Next) (fun w => by kernel_rfl) (fun _ _ _ _ _ => rfl) (by kernel_rfl) (by kernel_rfl) (by kernel_rfl) (by kernel_rfl) (by kernel_rfl) (ps (by kernel_rfl)) ?_
    by_cases c10 : x_3 = (IntKind.wrap .i64 (Int.tmod wv 8))
    · rw [if_pos c10] at h
      have b11 : (x_3 != (IntKind.wrap .i64 (Int.tmod wv 8))) = false := bne_eq_false_iff_eq.mpr c10
      refine G_env [(0, .int .u64 wv), (3, .pointer (some (Addr.mk b 0 none))), (4, .int .i64 ra), (5, .bool rb), (6, .int .i32 ra_2), (7, .bool rb_2), (8, .int .i64 ra_3), (9, .bool rb_3), (10, .int .i64 ra_4), (11, .int .i64 rb_4), (12, .int .u64 rc), (13, .bool rd), (52, .bool false)] (by simp only [b11, Bool.not_true, Bool.not_false]) ?_
      clear b11
      refine G_take 15 (some 53) (.int .u64 wv) #[true, true, true, true, true, true, true, true, true, true, true, true, true, true, true, true, false, false, false, false, false] [(0, .int .u64 wv), (3, .pointer (some (Addr.mk b 0 none))), (4, .int .i64 ra), (5, .bool rb), (6, .int .i32 ra_2), (7, .bool rb_2), (8, .int .i64 ra_3), (9, .bool rb_3), (10, .int .i64 ra_4), (11, .int .i64 rb_4), (12, .int .u64 rc), (13, .bool rd), (52, .bool false), (53, .int .u64 wv)] (pure (.value (.int .u64 wv)) : Sem Next) (fun w => by kernel_rfl) (fun _ _ _ _ _ => rfl) (by kernel_rfl) (by kernel_rfl) (by kernel_rfl) (by kernel_rfl) (by kernel_rfl) (ps (by kernel_rfl)) ?_
      refine G_take 17 (some 55) (.int .u64 wv) #[true, true, true, true, true, true, true, true, true, true, true, true, true, true, true, true, false, true, false, false, false] [(3, .pointer (some (Addr.mk b 0 none))), (4, .int .i64 ra), (5, .bool rb), (6, .int .i32 ra_2), (7, .bool rb_2), (8, .int .i64 ra_3), (9, .bool rb_3), (10, .int .i64 ra_4), (11, .int .i64 rb_4), (12, .int .u64 rc), (13, .bool rd), (52, .bool false), (53, .int .u64 wv), (55, .int .u64 wv)] (pure (.value (.int .u64 wv)) : Sem Next) (fun w => by kernel_rfl) (fun _ _ _ _ _ => rfl) (by kernel_rfl) (by kernel_rfl) (by kernel_rfl) (by kernel_rfl) (by kernel_rfl) (ps (by kernel_rfl)) ?_
      refine G_take 18 (some 56) (.bool (wv != 4)) #[true, true, true, true, true, true, true, true, true, true, true, true, true, true, true, true, false, true, true, false, false] [(3, .pointer (some (Addr.mk b 0 none))), (4, .int .i64 ra), (5, .bool rb), (6, .int .i32 ra_2), (7, .bool rb_2), (8, .int .i64 ra_3), (9, .bool rb_3), (10, .int .i64 ra_4), (11, .int .i64 rb_4), (12, .int .u64 rc), (13, .bool rd), (52, .bool false), (53, .int .u64 wv), (56, .bool (wv != 4))] (pure (.value (.bool (wv != 4))) : Sem Next) (fun w => by kernel_rfl) (fun _ _ _ _ _ => rfl) (by kernel_rfl) (by kernel_rfl) (by kernel_rfl) (by kernel_rfl) (by kernel_rfl) (ps (by kernel_rfl)) ?_
      refine G_call 16 (some 54) #[true, true, true, true, true, true, true, true, true, true, true, true, true, true, true, true, true, true, true, false, false] 25 #[.int .u64 wv] (by kernel_rfl) (fun w => by kernel_rfl) h (by kernel_rfl) ?_
      rintro v_8 H10 ⟨x_4, rfl, h⟩
      obtain ⟨f12, h⟩ := h
      refine ⟨[(3, .pointer (some (Addr.mk b 0 none))), (4, .int .i64 ra), (5, .bool rb), (6, .int .i32 ra_2), (7, .bool rb_2), (8, .int .i64 ra_3), (9, .bool rb_3), (10, .int .i64 ra_4), (11, .int .i64 rb_4), (12, .int .u64 rc), (13, .bool rd), (52, .bool false), (54, .bool x_4), (56, .bool (wv != 4))], ps (by kernel_rfl), (show FactsAt _ _ _ from ⟨f12, trivial⟩), ?_⟩
      refine G_take 19 (some 57) (.bool (!(x_4 == (wv != 4)))) #[true, true, true, true, true, true, true, true, true, true, true, true, true, true, true, true, true, true, true, true, false] [(3, .pointer (some (Addr.mk b 0 none))), (4, .int .i64 ra), (5, .bool rb), (6, .int .i32 ra_2), (7, .bool rb_2), (8, .int .i64 ra_3), (9, .bool rb_3), (10, .int .i64 ra_4), (11, .int .i64 rb_4), (12, .int .u64 rc), (13, .bool rd), (52, .bool false), (57, .bool (!(x_4 == (wv != 4))))] (pure (.value (.bool (!(x_4 == (wv != 4))))) : Sem Next) (fun w => by kernel_rfl) (fun _ _ _ _ _ => rfl) (by kernel_rfl) (by kernel_rfl) (by kernel_rfl) (by kernel_rfl) (by kernel_rfl) (ps (by kernel_rfl)) ?_
      refine G_take 20 (some 58) (.bool (!(x_4 == (wv != 4)))) #[true, true, true, true, true, true, true, true, true, true, true, true, true, true, true, true, true, true, true, true, true] [(3, .pointer (some (Addr.mk b 0 none))), (4, .int .i64 ra), (5, .bool rb), (6, .int .i32 ra_2), (7, .bool rb_2), (8, .int .i64 ra_3), (9, .bool rb_3), (10, .int .i64 ra_4), (11, .int .i64 rb_4), (12, .int .u64 rc), (13, .bool rd), (58, .bool (!(x_4 == (wv != 4))))] (pure (.value (.bool (!(x_4 == (wv != 4))))) : Sem Next) (fun w => by kernel_rfl) (fun _ _ _ _ _ => rfl) (by kernel_rfl) (by kernel_rfl) (by kernel_rfl) (by kernel_rfl) (by kernel_rfl) (ps (by kernel_rfl)) ?_
      refine G_sub [(3, .pointer (some (Addr.mk b 0 none))), (4, .int .i64 ra), (5, .bool rb), (6, .int .i32 ra_2), (7, .bool rb_2), (8, .int .i64 ra_3), (9, .bool rb_3), (10, .int .i64 ra_4), (11, .int .i64 rb_4), (12, .int .u64 rc), (13, .bool rd), (58, .bool (!(x_4 == (wv != 4))))] (sb (by kernel_rfl)) ?_
      refine G_end (by kernel_rfl) ?_
      refine S_then ?_
      by_cases c13 : x_4 = (wv != 4)
      · rw [if_pos c13] at h
        have b14 : (!(x_4 == (wv != 4))) = false := congrArg Bool.not (beq_iff_eq.mpr c13)
        refine S_env [(3, .pointer (some (Addr.mk b 0 none))), (4, .int .i64 ra), (5, .bool rb), (6, .int .i32 ra_2), (7, .bool rb_2), (8, .int .i64 ra_3), (9, .bool rb_3), (10, .int .i64 ra_4), (11, .int .i64 rb_4), (12, .int .u64 rc), (13, .bool rd), (58, .bool false)] (by simp only [b14, Bool.not_true, Bool.not_false]) ?_
        clear b14
        refine S_condF (.tmp 58) morainelaw01_WordTells.k17 morainelaw01_WordTells.k18 (by kernel_rfl) (by kernel_rfl) ?_
        refine S_skip (by kernel_rfl) ?_
        refine S_then ?_
        refine S_seq morainelaw01_WordTells.k19 morainelaw01_WordTells.k20 (by kernel_rfl) ?_
        refine S_seq morainelaw01_WordTells.k21 morainelaw01_WordTells.k22 (by kernel_rfl) ?_
        refine S_region 8 (Code.ops morainelaw01_WordTells.k21) (by kernel_rfl) ?_
        refine N_run 2 [(3, .pointer (some (Addr.mk b 0 none))), (4, .int .i64 ra), (5, .bool rb), (6, .int .i32 ra_2), (7, .bool rb_2), (8, .int .i64 ra_3), (9, .bool rb_3), (10, .int .i64 ra_4), (11, .int .i64 rb_4), (12, .int .u64 rc), (13, .bool rd), (59, .bool rb), (60, .pointer (some (Addr.mk b 0 none)))] (fun w => by kernel_rfl) ?_
        obtain ⟨x_5, q15, h⟩ := h
        refine N_val (some 61) (loadN 3 (.pointer (some (Addr.mk b 0 none)))) (.int .i64 x_5) (fun w => by kernel_rfl) (loadN_run (loadOK_one (fun w => by kernel_rfl) q15)) [(3, .pointer (some (Addr.mk b 0 none))), (4, .int .i64 ra), (5, .bool rb), (6, .int .i32 ra_2), (7, .bool rb_2), (8, .int .i64 ra_3), (9, .bool rb_3), (10, .int .i64 ra_4), (11, .int .i64 rb_4), (12, .int .u64 rc), (13, .bool rd), (59, .bool rb), (61, .int .i64 x_5)] (ps (by kernel_rfl)) ?_
        refine N_run 3 [(3, .pointer (some (Addr.mk b 0 none))), (4, .int .i64 ra), (5, .bool rb), (6, .int .i32 ra_2), (7, .bool rb_2), (8, .int .i64 ra_3), (9, .bool rb_3), (10, .int .i64 ra_4), (11, .int .i64 rb_4), (12, .int .u64 rc), (13, .bool rd), (64, .bool (!(rb == (x_5 == 1))))] (fun w => by kernel_rfl) ?_
        by_cases c16 : rb = (x_5 == 1)
        · rw [if_pos c16] at h
          have b17 : (!(rb == (x_5 == 1))) = false := congrArg Bool.not (beq_iff_eq.mpr c16)
          refine N_env [(3, .pointer (some (Addr.mk b 0 none))), (4, .int .i64 ra), (5, .bool rb), (6, .int .i32 ra_2), (7, .bool rb_2), (8, .int .i64 ra_3), (9, .bool rb_3), (10, .int .i64 ra_4), (11, .int .i64 rb_4), (12, .int .u64 rc), (13, .bool rd), (64, .bool false)] (by simp only [b17, Bool.not_true, Bool.not_false]) ?_
          clear b17
          refine N_run 2 [(3, .pointer (some (Addr.mk b 0 none))), (4, .int .i64 ra), (5, .bool rb), (6, .int .i32 ra_2), (7, .bool rb_2), (8, .int .i64 ra_3), (9, .bool rb_3), (10, .int .i64 ra_4), (11, .int .i64 rb_4), (12, .int .u64 rc), (13, .bool rd), (64, .bool false), (65, .bool rb_2), (66, .pointer (some (Addr.mk b 0 none)))] (fun w => by kernel_rfl) ?_
          obtain ⟨x_6, q18, h⟩ := h
          refine N_val (some 67) (loadN 3 (.pointer (some (Addr.mk b 0 none)))) (.int .i64 x_6) (fun w => by kernel_rfl) (loadN_run (loadOK_one (fun w => by kernel_rfl) q18)) [(3, .pointer (some (Addr.mk b 0 none))), (4, .int .i64 ra), (5, .bool rb), (6, .int .i32 ra_2), (7, .bool rb_2), (8, .int .i64 ra_3), (9, .bool rb_3), (10, .int .i64 ra_4), (11, .int .i64 rb_4), (12, .int .u64 rc), (13, .bool rd), (64, .bool false), (65, .bool rb_2), (67, .int .i64 x_6)] (ps (by kernel_rfl)) ?_
          refine N_run 4 [(3, .pointer (some (Addr.mk b 0 none))), (4, .int .i64 ra), (5, .bool rb), (6, .int .i32 ra_2), (7, .bool rb_2), (8, .int .i64 ra_3), (9, .bool rb_3), (10, .int .i64 ra_4), (11, .int .i64 rb_4), (12, .int .u64 rc), (13, .bool rd), (71, .bool (!(rb_2 == (x_6 == 4))))] (fun w => by kernel_rfl) ?_
          by_cases c19 : rb_2 = (x_6 == 4)
          · rw [if_pos c19] at h
            have b20 : (!(rb_2 == (x_6 == 4))) = false := congrArg Bool.not (beq_iff_eq.mpr c19)
            refine N_env [(3, .pointer (some (Addr.mk b 0 none))), (4, .int .i64 ra), (5, .bool rb), (6, .int .i32 ra_2), (7, .bool rb_2), (8, .int .i64 ra_3), (9, .bool rb_3), (10, .int .i64 ra_4), (11, .int .i64 rb_4), (12, .int .u64 rc), (13, .bool rd), (71, .bool false)] (by simp only [b20, Bool.not_true, Bool.not_false]) ?_
            clear b20
            refine N_run 2 [(3, .pointer (some (Addr.mk b 0 none))), (4, .int .i64 ra), (5, .bool rb), (6, .int .i32 ra_2), (7, .bool rb_2), (8, .int .i64 ra_3), (9, .bool rb_3), (10, .int .i64 ra_4), (11, .int .i64 rb_4), (12, .int .u64 rc), (13, .bool rd), (71, .bool false), (72, .bool rb_3), (73, .pointer (some (Addr.mk b 0 none)))] (fun w => by kernel_rfl) ?_
            obtain ⟨x_7, q21, h⟩ := h
            refine N_val (some 74) (loadN 3 (.pointer (some (Addr.mk b 0 none)))) (.int .i64 x_7) (fun w => by kernel_rfl) (loadN_run (loadOK_one (fun w => by kernel_rfl) q21)) [(3, .pointer (some (Addr.mk b 0 none))), (4, .int .i64 ra), (5, .bool rb), (6, .int .i32 ra_2), (7, .bool rb_2), (8, .int .i64 ra_3), (9, .bool rb_3), (10, .int .i64 ra_4), (11, .int .i64 rb_4), (12, .int .u64 rc), (13, .bool rd), (71, .bool false), (72, .bool rb_3), (74, .int .i64 x_7)] (ps (by kernel_rfl)) ?_
            refine N_run 4 [(3, .pointer (some (Addr.mk b 0 none))), (4, .int .i64 ra), (5, .bool rb), (6, .int .i32 ra_2), (7, .bool rb_2), (8, .int .i64 ra_3), (9, .bool rb_3), (10, .int .i64 ra_4), (11, .int .i64 rb_4), (12, .int .u64 rc), (13, .bool rd), (78, .bool (!(rb_3 == (x_7 == 2))))] (fun w => by kernel_rfl) ?_
            by_cases c22 : rb_3 = (x_7 == 2)
            · rw [if_pos c22] at h
              have b23 : (!(rb_3 == (x_7 == 2))) = false := congrArg Bool.not (beq_iff_eq.mpr c22)
              refine N_env [(3, .pointer (some (Addr.mk b 0 none))), (4, .int .i64 ra), (5, .bool rb), (6, .int .i32 ra_2), (7, .bool rb_2), (8, .int .i64 ra_3), (9, .bool rb_3), (10, .int .i64 ra_4), (11, .int .i64 rb_4), (12, .int .u64 rc), (13, .bool rd), (78, .bool false)] (by simp only [b23, Bool.not_true, Bool.not_false]) ?_
              clear b23
              refine N_run 2 [(3, .pointer (some (Addr.mk b 0 none))), (4, .int .i64 ra), (5, .bool rb), (6, .int .i32 ra_2), (7, .bool rb_2), (8, .int .i64 ra_3), (9, .bool rb_3), (10, .int .i64 ra_4), (11, .int .i64 rb_4), (12, .int .u64 rc), (13, .bool rd), (78, .bool false), (79, .bool rd), (80, .pointer (some (Addr.mk b 0 none)))] (fun w => by kernel_rfl) ?_
              obtain ⟨x_8, q24, h⟩ := h
              refine N_val (some 81) (loadN 3 (.pointer (some (Addr.mk b 0 none)))) (.int .i64 x_8) (fun w => by kernel_rfl) (loadN_run (loadOK_one (fun w => by kernel_rfl) q24)) [(3, .pointer (some (Addr.mk b 0 none))), (4, .int .i64 ra), (5, .bool rb), (6, .int .i32 ra_2), (7, .bool rb_2), (8, .int .i64 ra_3), (9, .bool rb_3), (10, .int .i64 ra_4), (11, .int .i64 rb_4), (12, .int .u64 rc), (13, .bool rd), (78, .bool false), (79, .bool rd), (81, .int .i64 x_8)] (ps (by kernel_rfl)) ?_
              refine N_run 3 [(3, .pointer (some (Addr.mk b 0 none))), (4, .int .i64 ra), (5, .bool rb), (6, .int .i32 ra_2), (7, .bool rb_2), (8, .int .i64 ra_3), (9, .bool rb_3), (10, .int .i64 ra_4), (11, .int .i64 rb_4), (12, .int .u64 rc), (13, .bool rd), (84, .bool (!(rd == (x_8 == 5))))] (fun w => by kernel_rfl) ?_
              refine N_end (by kernel_rfl) ?_
              refine S_then ?_
              by_cases c25 : rd = (x_8 == 5)
              · rw [if_pos c25] at h
                have b26 : (!(rd == (x_8 == 5))) = false := congrArg Bool.not (beq_iff_eq.mpr c25)
                refine S_env [(3, .pointer (some (Addr.mk b 0 none))), (4, .int .i64 ra), (5, .bool rb), (6, .int .i32 ra_2), (7, .bool rb_2), (8, .int .i64 ra_3), (9, .bool rb_3), (10, .int .i64 ra_4), (11, .int .i64 rb_4), (12, .int .u64 rc), (13, .bool rd), (84, .bool false)] (by simp only [b26, Bool.not_true, Bool.not_false]) ?_
                clear b26
                refine S_condF (.tmp 84) morainelaw01_WordTells.k23 morainelaw01_WordTells.k24 (by kernel_rfl) (by kernel_rfl) ?_
                refine S_skip (by kernel_rfl) ?_
                refine S_then ?_
                refine S_seq morainelaw01_WordTells.k25 morainelaw01_WordTells.k26 (by kernel_rfl) ?_
                refine S_seq morainelaw01_WordTells.k27 morainelaw01_WordTells.k28 (by kernel_rfl) ?_
                refine S_region 10 (Code.ops morainelaw01_WordTells.k27) (by kernel_rfl) ?_
                refine N_cut [(3, .pointer (some (Addr.mk b 0 none))), (4, .int .i64 ra), (6, .int .i32 ra_2), (8, .int .i64 ra_3), (10, .int .i64 ra_4), (11, .int .i64 rb_4), (12, .int .u64 rc), (122, .bool (((((!rb) && (ra != 0)) || ((!rb_2) && (ra_2 != 0))) || ((!rb_3) && (ra_3 != 0))) || ((!rd) && (((ra_4 != 0) || (rb_4 != 0)) || (rc != 0)))))] ?_ ?_
                · refine S_then ?_
                  by_cases c103 : (((((!rb) && (ra != 0)) || ((!rb_2) && (ra_2 != 0))) || ((!rb_3) && (ra_3 != 0))) || ((!rd) && (((ra_4 != 0) || (rb_4 != 0)) || (rc != 0)))) = true
                  · rw [if_pos c103] at h
                    have b104 : (((((!rb) && (ra != 0)) || ((!rb_2) && (ra_2 != 0))) || ((!rb_3) && (ra_3 != 0))) || ((!rd) && (((ra_4 != 0) || (rb_4 != 0)) || (rc != 0)))) = true := c103
                    refine S_env [(3, .pointer (some (Addr.mk b 0 none))), (4, .int .i64 ra), (6, .int .i32 ra_2), (8, .int .i64 ra_3), (10, .int .i64 ra_4), (11, .int .i64 rb_4), (12, .int .u64 rc), (122, .bool true)] (by simp only [b104, Bool.not_true, Bool.not_false]) ?_
                    clear b104
                    refine S_condT (.tmp 122) morainelaw01_WordTells.k29 morainelaw01_WordTells.k30 (by kernel_rfl) (by kernel_rfl) ?_
                    refine S_seq morainelaw01_WordTells.k31 morainelaw01_WordTells.k32 (by kernel_rfl) ?_
                    refine S_region 11 (Code.ops morainelaw01_WordTells.k31) (by kernel_rfl) ?_
                    refine N_run 1 [(2, .bool false)] (fun w => by kernel_rfl) ?_
                    refine N_end (by kernel_rfl) ?_
                    refine S_then ?_
                    refine S_ret (by kernel_rfl) ?_
                    show At _ _ _ _ (Q .ret)
                    exact S_done (fn := Try.f7) [.bool false] hQ (show ResOK _ _ _ [.tmp 2] _ from .tmp (by kernel_rfl) (.nil)) h
                  · rw [if_neg c103] at h
                    have b104 : (((((!rb) && (ra != 0)) || ((!rb_2) && (ra_2 != 0))) || ((!rb_3) && (ra_3 != 0))) || ((!rd) && (((ra_4 != 0) || (rb_4 != 0)) || (rc != 0)))) = false := eq_false_of_ne_true c103
                    refine S_env [(3, .pointer (some (Addr.mk b 0 none))), (4, .int .i64 ra), (6, .int .i32 ra_2), (8, .int .i64 ra_3), (10, .int .i64 ra_4), (11, .int .i64 rb_4), (12, .int .u64 rc), (122, .bool false)] (by simp only [b104, Bool.not_true, Bool.not_false]) ?_
                    clear b104
                    refine S_condF (.tmp 122) morainelaw01_WordTells.k29 morainelaw01_WordTells.k30 (by kernel_rfl) (by kernel_rfl) ?_
                    refine S_skip (by kernel_rfl) ?_
                    refine S_then ?_
                    refine S_seq morainelaw01_WordTells.k33 morainelaw01_WordTells.k34 (by kernel_rfl) ?_
                    refine S_seq morainelaw01_WordTells.k35 morainelaw01_WordTells.k36 (by kernel_rfl) ?_
                    refine S_region 12 (Code.ops morainelaw01_WordTells.k35) (by kernel_rfl) ?_
                    refine N_run 1 [(3, .pointer (some (Addr.mk b 0 none))), (4, .int .i64 ra), (6, .int .i32 ra_2), (8, .int .i64 ra_3), (10, .int .i64 ra_4), (11, .int .i64 rb_4), (12, .int .u64 rc), (123, .pointer (some (Addr.mk b 0 none)))] (fun w => by kernel_rfl) ?_
                    obtain ⟨x_9, q105, h⟩ := h
                    refine N_val (some 124) (loadN 3 (.pointer (some (Addr.mk b 0 none)))) (.int .i64 x_9) (fun w => by kernel_rfl) (loadN_run (loadOK_one (fun w => by kernel_rfl) q105)) [(3, .pointer (some (Addr.mk b 0 none))), (4, .int .i64 ra), (6, .int .i32 ra_2), (8, .int .i64 ra_3), (10, .int .i64 ra_4), (11, .int .i64 rb_4), (12, .int .u64 rc), (124, .int .i64 x_9)] (ps (by kernel_rfl)) ?_
                    refine N_end (by kernel_rfl) ?_
                    refine S_then ?_
                    refine S_block 0 morainelaw01_WordTells.k37 (by kernel_rfl) ?_
                    refine S_seq morainelaw01_WordTells.k38 morainelaw01_WordTells.k39 (by kernel_rfl) ?_
                    refine S_region 13 (Code.ops morainelaw01_WordTells.k38) (by kernel_rfl) ?_
                    refine N_run 2 [(3, .pointer (some (Addr.mk b 0 none))), (4, .int .i64 ra), (6, .int .i32 ra_2), (8, .int .i64 ra_3), (10, .int .i64 ra_4), (11, .int .i64 rb_4), (12, .int .u64 rc), (124, .int .i64 x_9), (125, .bool (x_9 == 1))] (fun w => by kernel_rfl) ?_
                    refine N_end (by kernel_rfl) ?_
                    refine S_then ?_
                    by_cases c106 : x_9 = 1
                    · rw [if_pos c106] at h
                      have b107 : (x_9 == 1) = true := beq_iff_eq.mpr c106
                      refine S_env [(3, .pointer (some (Addr.mk b 0 none))), (4, .int .i64 ra), (6, .int .i32 ra_2), (8, .int .i64 ra_3), (10, .int .i64 ra_4), (11, .int .i64 rb_4), (12, .int .u64 rc), (124, .int .i64 x_9), (125, .bool true)] (by simp only [b107, Bool.not_true, Bool.not_false]) ?_
                      clear b107
                      refine S_condT (.tmp 125) morainelaw01_WordTells.k40 morainelaw01_WordTells.k41 (by kernel_rfl) (by kernel_rfl) ?_
                      refine S_seq morainelaw01_WordTells.k42 morainelaw01_WordTells.k43 (by kernel_rfl) ?_
                      refine S_region 14 (Code.ops morainelaw01_WordTells.k42) (by kernel_rfl) ?_
                      refine N_run 2 [(127, .int .i64 ra), (128, .pointer (some ((Addr.mk b 0 none).add 3)))] (fun w => by kernel_rfl) ?_
                      obtain ⟨x_10, q108, h⟩ := h
                      refine N_val (some 129) (loadN 2 (.pointer (some ((Addr.mk b 0 none).add 3)))) (.int .i64 x_10) (fun w => by kernel_rfl) (loadN_run (loadOK_one (fun w => by kernel_rfl) q108)) [(127, .int .i64 ra), (129, .int .i64 x_10)] (ps (by kernel_rfl)) ?_
                      refine N_run 2 [(131, .bool (ra == x_10))] (fun w => by kernel_rfl) ?_
                      by_cases c109 : ra = x_10
                      · rw [if_pos c109] at h
                        have b110 : (ra == x_10) = true := beq_iff_eq.mpr c109
                        refine N_env [(131, .bool true)] (by simp only [b110, Bool.not_true, Bool.not_false]) ?_
                        clear b110
                        refine N_call (some 132) 14 #[] (fun w => by kernel_rfl) h ?_
                        rintro v_9 H11 ⟨x_11, rfl, h⟩
                        refine ⟨[(131, .bool true), (132, .bool x_11)], ps (by kernel_rfl), ?_⟩
                        refine N_run 2 [(2, .bool x_11)] (fun w => by kernel_rfl) ?_
                        refine N_end (by kernel_rfl) ?_
                        refine S_then ?_
                        refine S_ret (by kernel_rfl) ?_
                        show At _ _ _ _ (Q .ret)
                        exact S_done (fn := Try.f7) [.bool x_11] hQ (show ResOK _ _ _ [.tmp 2] _ from .tmp (by kernel_rfl) (.nil)) h
                      · rw [if_neg c109] at h
                        have b110 : (ra == x_10) = false := beq_eq_false_iff_ne.mpr c109
                        refine N_env [(131, .bool false)] (by simp only [b110, Bool.not_true, Bool.not_false]) ?_
                        clear b110
                        refine N_run 3 [(2, .bool false)] (fun w => by kernel_rfl) ?_
                        refine N_end (by kernel_rfl) ?_
                        refine S_then ?_
                        refine S_ret (by kernel_rfl) ?_
                        show At _ _ _ _ (Q .ret)
                        exact S_done (fn := Try.f7) [.bool false] hQ (show ResOK _ _ _ [.tmp 2] _ from .tmp (by kernel_rfl) (.nil)) h
                    · rw [if_neg c106] at h
                      have b107 : (x_9 == 1) = false := beq_eq_false_iff_ne.mpr c106
                      refine S_env [(3, .pointer (some (Addr.mk b 0 none))), (4, .int .i64 ra), (6, .int .i32 ra_2), (8, .int .i64 ra_3), (10, .int .i64 ra_4), (11, .int .i64 rb_4), (12, .int .u64 rc), (124, .int .i64 x_9), (125, .bool false)] (by simp only [b107, Bool.not_true, Bool.not_false]) ?_
                      clear b107
                      refine S_condF (.tmp 125) morainelaw01_WordTells.k40 morainelaw01_WordTells.k41 (by kernel_rfl) (by kernel_rfl) ?_
                      refine S_seq morainelaw01_WordTells.k44 morainelaw01_WordTells.k45 (by kernel_rfl) ?_
                      refine S_region 15 (Code.ops morainelaw01_WordTells.k44) (by kernel_rfl) ?_
                      refine N_run 2 [(3, .pointer (some (Addr.mk b 0 none))), (6, .int .i32 ra_2), (8, .int .i64 ra_3), (10, .int .i64 ra_4), (11, .int .i64 rb_4), (12, .int .u64 rc), (124, .int .i64 x_9), (134, .bool (x_9 == 2))] (fun w => by kernel_rfl) ?_
                      refine N_end (by kernel_rfl) ?_
                      refine S_then ?_
                      by_cases c111 : x_9 = 2
                      · rw [if_pos c111] at h
                        have b112 : (x_9 == 2) = true := beq_iff_eq.mpr c111
                        refine S_env [(3, .pointer (some (Addr.mk b 0 none))), (6, .int .i32 ra_2), (8, .int .i64 ra_3), (10, .int .i64 ra_4), (11, .int .i64 rb_4), (12, .int .u64 rc), (124, .int .i64 x_9), (134, .bool true)] (by simp only [b112, Bool.not_true, Bool.not_false]) ?_
                        clear b112
                        refine S_condT (.tmp 134) morainelaw01_WordTells.k46 morainelaw01_WordTells.k47 (by kernel_rfl) (by kernel_rfl) ?_
                        refine S_seq morainelaw01_WordTells.k48 morainelaw01_WordTells.k49 (by kernel_rfl) ?_
                        refine S_region 16 (Code.ops morainelaw01_WordTells.k48) (by kernel_rfl) ?_
                        refine N_run 2 [(136, .int .i64 ra_3), (137, .pointer (some ((Addr.mk b 0 none).add 2)))] (fun w => by kernel_rfl) ?_
                        obtain ⟨x_12, q113, h⟩ := h
                        refine N_val (some 138) (loadN 3 (.pointer (some ((Addr.mk b 0 none).add 2)))) (.int .i64 x_12) (fun w => by kernel_rfl) (loadN_run (loadOK_one (fun w => by kernel_rfl) q113)) [(136, .int .i64 ra_3), (138, .int .i64 x_12)] (ps (by kernel_rfl)) ?_
                        refine N_run 2 [(140, .bool (ra_3 == x_12))] (fun w => by kernel_rfl) ?_
                        by_cases c114 : ra_3 = x_12
                        · rw [if_pos c114] at h
                          have b115 : (ra_3 == x_12) = true := beq_iff_eq.mpr c114
                          refine N_env [(140, .bool true)] (by simp only [b115, Bool.not_true, Bool.not_false]) ?_
                          clear b115
                          refine N_call (some 141) 14 #[] (fun w => by kernel_rfl) h ?_
                          rintro v_10 H12 ⟨x_13, rfl, h⟩
                          refine ⟨[(140, .bool true), (141, .bool x_13)], ps (by kernel_rfl), ?_⟩
                          refine N_run 2 [(2, .bool x_13)] (fun w => by kernel_rfl) ?_
                          refine N_end (by kernel_rfl) ?_
                          refine S_then ?_
                          refine S_ret (by kernel_rfl) ?_
                          show At _ _ _ _ (Q .ret)
                          exact S_done (fn := Try.f7) [.bool x_13] hQ (show ResOK _ _ _ [.tmp 2] _ from .tmp (by kernel_rfl) (.nil)) h
                        · rw [if_neg c114] at h
                          have b115 : (ra_3 == x_12) = false := beq_eq_false_iff_ne.mpr c114
                          refine N_env [(140, .bool false)] (by simp only [b115, Bool.not_true, Bool.not_false]) ?_
                          clear b115
                          refine N_run 3 [(2, .bool false)] (fun w => by kernel_rfl) ?_
                          refine N_end (by kernel_rfl) ?_
                          refine S_then ?_
                          refine S_ret (by kernel_rfl) ?_
                          show At _ _ _ _ (Q .ret)
                          exact S_done (fn := Try.f7) [.bool false] hQ (show ResOK _ _ _ [.tmp 2] _ from .tmp (by kernel_rfl) (.nil)) h
                      · rw [if_neg c111] at h
                        have b112 : (x_9 == 2) = false := beq_eq_false_iff_ne.mpr c111
                        refine S_env [(3, .pointer (some (Addr.mk b 0 none))), (6, .int .i32 ra_2), (8, .int .i64 ra_3), (10, .int .i64 ra_4), (11, .int .i64 rb_4), (12, .int .u64 rc), (124, .int .i64 x_9), (134, .bool false)] (by simp only [b112, Bool.not_true, Bool.not_false]) ?_
                        clear b112
                        refine S_condF (.tmp 134) morainelaw01_WordTells.k46 morainelaw01_WordTells.k47 (by kernel_rfl) (by kernel_rfl) ?_
                        refine S_seq morainelaw01_WordTells.k50 morainelaw01_WordTells.k51 (by kernel_rfl) ?_
                        refine S_region 17 (Code.ops morainelaw01_WordTells.k50) (by kernel_rfl) ?_
                        refine N_run 2 [(3, .pointer (some (Addr.mk b 0 none))), (6, .int .i32 ra_2), (10, .int .i64 ra_4), (11, .int .i64 rb_4), (12, .int .u64 rc), (124, .int .i64 x_9), (143, .bool (x_9 == 4))] (fun w => by kernel_rfl) ?_
                        refine N_end (by kernel_rfl) ?_
                        refine S_then ?_
                        by_cases c116 : x_9 = 4
                        · rw [if_pos c116] at h
                          have b117 : (x_9 == 4) = true := beq_iff_eq.mpr c116
                          refine S_env [(3, .pointer (some (Addr.mk b 0 none))), (6, .int .i32 ra_2), (10, .int .i64 ra_4), (11, .int .i64 rb_4), (12, .int .u64 rc), (124, .int .i64 x_9), (143, .bool true)] (by simp only [b117, Bool.not_true, Bool.not_false]) ?_
                          clear b117
                          refine S_condT (.tmp 143) morainelaw01_WordTells.k52 morainelaw01_WordTells.k53 (by kernel_rfl) (by kernel_rfl) ?_
                          refine S_seq morainelaw01_WordTells.k54 morainelaw01_WordTells.k55 (by kernel_rfl) ?_
                          refine S_region 18 (Code.ops morainelaw01_WordTells.k54) (by kernel_rfl) ?_
                          refine N_run 3 [(146, .int .i64 (IntKind.wrap .i64 ra_2)), (147, .pointer (some ((Addr.mk b 0 none).add 2)))] (fun w => by kernel_rfl) ?_
                          obtain ⟨x_14, q118, h⟩ := h
                          refine N_val (some 148) (loadN 3 (.pointer (some ((Addr.mk b 0 none).add 2)))) (.int .i64 x_14) (fun w => by kernel_rfl) (loadN_run (loadOK_one (fun w => by kernel_rfl) q118)) [(146, .int .i64 (IntKind.wrap .i64 ra_2)), (148, .int .i64 x_14)] (ps (by kernel_rfl)) ?_
                          refine N_run 2 [(150, .bool ((IntKind.wrap .i64 ra_2) == x_14))] (fun w => by kernel_rfl) ?_
                          by_cases c119 : (IntKind.wrap .i64 ra_2) = x_14
                          · rw [if_pos c119] at h
                            have b120 : ((IntKind.wrap .i64 ra_2) == x_14) = true := beq_iff_eq.mpr c119
                            refine N_env [(150, .bool true)] (by simp only [b120, Bool.not_true, Bool.not_false]) ?_
                            clear b120
                            refine N_call (some 151) 14 #[] (fun w => by kernel_rfl) h ?_
                            rintro v_11 H13 ⟨x_15, rfl, h⟩
                            refine ⟨[(150, .bool true), (151, .bool x_15)], ps (by kernel_rfl), ?_⟩
                            refine N_run 2 [(2, .bool x_15)] (fun w => by kernel_rfl) ?_
                            refine N_end (by kernel_rfl) ?_
                            refine S_then ?_
                            refine S_ret (by kernel_rfl) ?_
                            show At _ _ _ _ (Q .ret)
                            exact S_done (fn := Try.f7) [.bool x_15] hQ (show ResOK _ _ _ [.tmp 2] _ from .tmp (by kernel_rfl) (.nil)) h
                          · rw [if_neg c119] at h
                            have b120 : ((IntKind.wrap .i64 ra_2) == x_14) = false := beq_eq_false_iff_ne.mpr c119
                            refine N_env [(150, .bool false)] (by simp only [b120, Bool.not_true, Bool.not_false]) ?_
                            clear b120
                            refine N_run 3 [(2, .bool false)] (fun w => by kernel_rfl) ?_
                            refine N_end (by kernel_rfl) ?_
                            refine S_then ?_
                            refine S_ret (by kernel_rfl) ?_
                            show At _ _ _ _ (Q .ret)
                            exact S_done (fn := Try.f7) [.bool false] hQ (show ResOK _ _ _ [.tmp 2] _ from .tmp (by kernel_rfl) (.nil)) h
                        · rw [if_neg c116] at h
                          have b117 : (x_9 == 4) = false := beq_eq_false_iff_ne.mpr c116
                          refine S_env [(3, .pointer (some (Addr.mk b 0 none))), (6, .int .i32 ra_2), (10, .int .i64 ra_4), (11, .int .i64 rb_4), (12, .int .u64 rc), (124, .int .i64 x_9), (143, .bool false)] (by simp only [b117, Bool.not_true, Bool.not_false]) ?_
                          clear b117
                          refine S_condF (.tmp 143) morainelaw01_WordTells.k52 morainelaw01_WordTells.k53 (by kernel_rfl) (by kernel_rfl) ?_
                          refine S_seq morainelaw01_WordTells.k56 morainelaw01_WordTells.k57 (by kernel_rfl) ?_
                          refine S_region 19 (Code.ops morainelaw01_WordTells.k56) (by kernel_rfl) ?_
                          refine N_run 2 [(3, .pointer (some (Addr.mk b 0 none))), (10, .int .i64 ra_4), (11, .int .i64 rb_4), (12, .int .u64 rc), (153, .bool (x_9 == 5))] (fun w => by kernel_rfl) ?_
                          refine N_end (by kernel_rfl) ?_
                          refine S_then ?_
                          by_cases c121 : x_9 = 5
                          · rw [if_pos c121] at h
                            have b122 : (x_9 == 5) = true := beq_iff_eq.mpr c121
                            refine S_env [(3, .pointer (some (Addr.mk b 0 none))), (10, .int .i64 ra_4), (11, .int .i64 rb_4), (12, .int .u64 rc), (153, .bool true)] (by simp only [b122, Bool.not_true, Bool.not_false]) ?_
                            clear b122
                            refine S_condT (.tmp 153) morainelaw01_WordTells.k58 morainelaw01_WordTells.k59 (by kernel_rfl) (by kernel_rfl) ?_
                            refine S_seq morainelaw01_WordTells.k60 morainelaw01_WordTells.k61 (by kernel_rfl) ?_
                            refine S_region 20 (Code.ops morainelaw01_WordTells.k60) (by kernel_rfl) ?_
                            refine N_run 2 [(3, .pointer (some (Addr.mk b 0 none))), (11, .int .i64 rb_4), (12, .int .u64 rc), (155, .int .i64 ra_4), (156, .pointer (some ((Addr.mk b 0 none).add 1)))] (fun w => by kernel_rfl) ?_
                            obtain ⟨x_16, q123, h⟩ := h
                            refine N_val (some 157) (loadN 3 (.pointer (some ((Addr.mk b 0 none).add 1)))) (.int .i64 x_16) (fun w => by kernel_rfl) (loadN_run (loadOK_one (fun w => by kernel_rfl) q123)) [(3, .pointer (some (Addr.mk b 0 none))), (11, .int .i64 rb_4), (12, .int .u64 rc), (155, .int .i64 ra_4), (157, .int .i64 x_16)] (ps (by kernel_rfl)) ?_
                            refine N_run 2 [(3, .pointer (some (Addr.mk b 0 none))), (11, .int .i64 rb_4), (12, .int .u64 rc), (159, .bool (ra_4 == x_16))] (fun w => by kernel_rfl) ?_
                            by_cases c124 : ra_4 = x_16
                            · rw [if_pos c124] at h
                              have b125 : (ra_4 == x_16) = true := beq_iff_eq.mpr c124
                              refine N_env [(3, .pointer (some (Addr.mk b 0 none))), (11, .int .i64 rb_4), (12, .int .u64 rc), (159, .bool true)] (by simp only [b125, Bool.not_true, Bool.not_false]) ?_
                              clear b125
                              refine N_run 2 [(3, .pointer (some (Addr.mk b 0 none))), (12, .int .u64 rc), (159, .bool true), (160, .int .i64 rb_4), (161, .pointer (some ((Addr.mk b 0 none).add 2)))] (fun w => by kernel_rfl) ?_
                              obtain ⟨x_17, q126, h⟩ := h
                              refine N_val (some 162) (loadN 3 (.pointer (some ((Addr.mk b 0 none).add 2)))) (.int .i64 x_17) (fun w => by kernel_rfl) (loadN_run (loadOK_one (fun w => by kernel_rfl) q126)) [(3, .pointer (some (Addr.mk b 0 none))), (12, .int .u64 rc), (159, .bool true), (160, .int .i64 rb_4), (162, .int .i64 x_17)] (ps (by kernel_rfl)) ?_
                              refine N_run 3 [(3, .pointer (some (Addr.mk b 0 none))), (12, .int .u64 rc), (165, .bool (rb_4 == x_17))] (fun w => by kernel_rfl) ?_
                              by_cases c127 : rb_4 = x_17
                              · rw [if_pos c127] at h
                                have b128 : (rb_4 == x_17) = true := beq_iff_eq.mpr c127
                                refine N_env [(3, .pointer (some (Addr.mk b 0 none))), (12, .int .u64 rc), (165, .bool true)] (by simp only [b128, Bool.not_true, Bool.not_false]) ?_
                                clear b128
                                refine N_run 2 [(165, .bool true), (166, .int .u64 rc), (167, .pointer (some ((Addr.mk b 0 none).add 4)))] (fun w => by kernel_rfl) ?_
                                obtain ⟨x_18, q129, h⟩ := h
                                refine N_val (some 168) (loadN 22 (.pointer (some ((Addr.mk b 0 none).add 4)))) (.int .u64 x_18) (fun w => by kernel_rfl) (loadN_run (loadOK_one (fun w => by kernel_rfl) q129)) [(165, .bool true), (166, .int .u64 rc), (168, .int .u64 x_18)] (ps (by kernel_rfl)) ?_
                                refine N_run 3 [(171, .bool (rc == x_18))] (fun w => by kernel_rfl) ?_
                                by_cases c130 : rc = x_18
                                · rw [if_pos c130] at h
                                  have b131 : (rc == x_18) = true := beq_iff_eq.mpr c130
                                  refine N_env [(171, .bool true)] (by simp only [b131, Bool.not_true, Bool.not_false]) ?_
                                  clear b131
                                  refine N_call (some 172) 14 #[] (fun w => by kernel_rfl) h ?_
                                  rintro v_12 H14 ⟨x_19, rfl, h⟩
                                  refine ⟨[(171, .bool true), (172, .bool x_19)], ps (by kernel_rfl), ?_⟩
                                  refine N_run 2 [(2, .bool x_19)] (fun w => by kernel_rfl) ?_
                                  refine N_end (by kernel_rfl) ?_
                                  refine S_then ?_
                                  refine S_ret (by kernel_rfl) ?_
                                  show At _ _ _ _ (Q .ret)
                                  exact S_done (fn := Try.f7) [.bool x_19] hQ (show ResOK _ _ _ [.tmp 2] _ from .tmp (by kernel_rfl) (.nil)) h
                                · rw [if_neg c130] at h
                                  have b131 : (rc == x_18) = false := beq_eq_false_iff_ne.mpr c130
                                  refine N_env [(171, .bool false)] (by simp only [b131, Bool.not_true, Bool.not_false]) ?_
                                  clear b131
                                  refine N_run 3 [(2, .bool false)] (fun w => by kernel_rfl) ?_
                                  refine N_end (by kernel_rfl) ?_
                                  refine S_then ?_
                                  refine S_ret (by kernel_rfl) ?_
                                  show At _ _ _ _ (Q .ret)
                                  exact S_done (fn := Try.f7) [.bool false] hQ (show ResOK _ _ _ [.tmp 2] _ from .tmp (by kernel_rfl) (.nil)) h
                              · rw [if_neg c127] at h
                                have b128 : (rb_4 == x_17) = false := beq_eq_false_iff_ne.mpr c127
                                refine N_env [(3, .pointer (some (Addr.mk b 0 none))), (12, .int .u64 rc), (165, .bool false)] (by simp only [b128, Bool.not_true, Bool.not_false]) ?_
                                clear b128
                                refine N_run 9 [(2, .bool false)] (fun w => by kernel_rfl) ?_
                                refine N_end (by kernel_rfl) ?_
                                refine S_then ?_
                                refine S_ret (by kernel_rfl) ?_
                                show At _ _ _ _ (Q .ret)
                                exact S_done (fn := Try.f7) [.bool false] hQ (show ResOK _ _ _ [.tmp 2] _ from .tmp (by kernel_rfl) (.nil)) h
                            · rw [if_neg c124] at h
                              have b125 : (ra_4 == x_16) = false := beq_eq_false_iff_ne.mpr c124
                              refine N_env [(3, .pointer (some (Addr.mk b 0 none))), (11, .int .i64 rb_4), (12, .int .u64 rc), (159, .bool false)] (by simp only [b125, Bool.not_true, Bool.not_false]) ?_
                              clear b125
                              refine N_run 15 [(2, .bool false)] (fun w => by kernel_rfl) ?_
                              refine N_end (by kernel_rfl) ?_
                              refine S_then ?_
                              refine S_ret (by kernel_rfl) ?_
                              show At _ _ _ _ (Q .ret)
                              exact S_done (fn := Try.f7) [.bool false] hQ (show ResOK _ _ _ [.tmp 2] _ from .tmp (by kernel_rfl) (.nil)) h
                          · rw [if_neg c121] at h
                            have b122 : (x_9 == 5) = false := beq_eq_false_iff_ne.mpr c121
                            refine S_env [(3, .pointer (some (Addr.mk b 0 none))), (10, .int .i64 ra_4), (11, .int .i64 rb_4), (12, .int .u64 rc), (153, .bool false)] (by simp only [b122, Bool.not_true, Bool.not_false]) ?_
                            clear b122
                            refine S_condF (.tmp 153) morainelaw01_WordTells.k58 morainelaw01_WordTells.k59 (by kernel_rfl) (by kernel_rfl) ?_
                            refine S_skip (by kernel_rfl) ?_
                            refine S_blockEnd ?_
                            refine S_then ?_
                            refine S_seq morainelaw01_WordTells.k62 morainelaw01_WordTells.k63 (by kernel_rfl) ?_
                            refine S_region 21 (Code.ops morainelaw01_WordTells.k62) (by kernel_rfl) ?_
                            refine N_sub [] (sb (by kernel_rfl)) ?_
                            refine N_call (some 174) 14 #[] (fun w => by kernel_rfl) h ?_
                            rintro v_13 H15 ⟨x_20, rfl, h⟩
                            refine ⟨[(174, .bool x_20)], ps (by kernel_rfl), ?_⟩
                            refine N_run 1 [(2, .bool x_20)] (fun w => by kernel_rfl) ?_
                            refine N_end (by kernel_rfl) ?_
                            refine S_then ?_
                            refine S_ret (by kernel_rfl) ?_
                            show At _ _ _ _ (Q .ret)
                            exact S_done (fn := Try.f7) [.bool x_20] hQ (show ResOK _ _ _ [.tmp 2] _ from .tmp (by kernel_rfl) (.nil)) h
                · intro hk
                  refine N_run 3 [(3, .pointer (some (Addr.mk b 0 none))), (4, .int .i64 ra), (6, .int .i32 ra_2), (7, .bool rb_2), (8, .int .i64 ra_3), (9, .bool rb_3), (10, .int .i64 ra_4), (11, .int .i64 rb_4), (12, .int .u64 rc), (13, .bool rd), (87, .bool (!rb))] (fun w => by kernel_rfl) ?_
                  by_cases c27 : rb = true
                  · have b28 : (!rb) = false := congrArg Bool.not (c27)
                    refine N_env [(3, .pointer (some (Addr.mk b 0 none))), (4, .int .i64 ra), (6, .int .i32 ra_2), (7, .bool rb_2), (8, .int .i64 ra_3), (9, .bool rb_3), (10, .int .i64 ra_4), (11, .int .i64 rb_4), (12, .int .u64 rc), (13, .bool rd), (87, .bool false)] (by simp only [b28, Bool.not_true, Bool.not_false]) ?_
                    refine N_run 7 [(3, .pointer (some (Addr.mk b 0 none))), (4, .int .i64 ra), (6, .int .i32 ra_2), (8, .int .i64 ra_3), (9, .bool rb_3), (10, .int .i64 ra_4), (11, .int .i64 rb_4), (12, .int .u64 rc), (13, .bool rd), (91, .bool false), (94, .bool (!rb_2))] (fun w => by kernel_rfl) ?_
                    by_cases c29 : rb_2 = true
                    · have b30 : (!rb_2) = false := congrArg Bool.not (c29)
                      refine N_env [(3, .pointer (some (Addr.mk b 0 none))), (4, .int .i64 ra), (6, .int .i32 ra_2), (8, .int .i64 ra_3), (9, .bool rb_3), (10, .int .i64 ra_4), (11, .int .i64 rb_4), (12, .int .u64 rc), (13, .bool rd), (91, .bool false), (94, .bool false)] (by simp only [b30, Bool.not_true, Bool.not_false]) ?_
                      refine N_run 8 [(3, .pointer (some (Addr.mk b 0 none))), (4, .int .i64 ra), (6, .int .i32 ra_2), (8, .int .i64 ra_3), (10, .int .i64 ra_4), (11, .int .i64 rb_4), (12, .int .u64 rc), (13, .bool rd), (99, .bool false), (102, .bool (!rb_3))] (fun w => by kernel_rfl) ?_
                      by_cases c31 : rb_3 = true
                      · have b32 : (!rb_3) = false := congrArg Bool.not (c31)
                        refine N_env [(3, .pointer (some (Addr.mk b 0 none))), (4, .int .i64 ra), (6, .int .i32 ra_2), (8, .int .i64 ra_3), (10, .int .i64 ra_4), (11, .int .i64 rb_4), (12, .int .u64 rc), (13, .bool rd), (99, .bool false), (102, .bool false)] (by simp only [b32, Bool.not_true, Bool.not_false]) ?_
                        refine N_run 8 [(3, .pointer (some (Addr.mk b 0 none))), (4, .int .i64 ra), (6, .int .i32 ra_2), (8, .int .i64 ra_3), (10, .int .i64 ra_4), (11, .int .i64 rb_4), (12, .int .u64 rc), (107, .bool false), (110, .bool (!rd))] (fun w => by kernel_rfl) ?_
                        by_cases c33 : rd = true
                        · have b34 : (!rd) = false := congrArg Bool.not (c33)
                          refine N_env [(3, .pointer (some (Addr.mk b 0 none))), (4, .int .i64 ra), (6, .int .i32 ra_2), (8, .int .i64 ra_3), (10, .int .i64 ra_4), (11, .int .i64 rb_4), (12, .int .u64 rc), (107, .bool false), (110, .bool false)] (by simp only [b34, Bool.not_true, Bool.not_false]) ?_
                          refine N_run 12 [(3, .pointer (some (Addr.mk b 0 none))), (4, .int .i64 ra), (6, .int .i32 ra_2), (8, .int .i64 ra_3), (10, .int .i64 ra_4), (11, .int .i64 rb_4), (12, .int .u64 rc), (122, .bool false)] (fun w => by kernel_rfl) ?_
                          refine N_end (by kernel_rfl) ?_
                          refine S_env [(3, .pointer (some (Addr.mk b 0 none))), (4, .int .i64 ra), (6, .int .i32 ra_2), (8, .int .i64 ra_3), (10, .int .i64 ra_4), (11, .int .i64 rb_4), (12, .int .u64 rc), (122, .bool (((((!rb) && (ra != 0)) || ((!rb_2) && (ra_2 != 0))) || ((!rb_3) && (ra_3 != 0))) || ((!rd) && (((ra_4 != 0) || (rb_4 != 0)) || (rc != 0)))))] (by simp only [b28, b30, b32, b34, Bool.true_or, Bool.false_or, Bool.or_true, Bool.or_false, Bool.true_and, Bool.false_and, Bool.and_true, Bool.and_false, Bool.not_true, Bool.not_false, cond_true, cond_false]) ?_
                          exact hk
                        · have b34 : (!rd) = true := congrArg Bool.not (eq_false_of_ne_true c33)
                          refine N_env [(3, .pointer (some (Addr.mk b 0 none))), (4, .int .i64 ra), (6, .int .i32 ra_2), (8, .int .i64 ra_3), (10, .int .i64 ra_4), (11, .int .i64 rb_4), (12, .int .u64 rc), (107, .bool false), (110, .bool true)] (by simp only [b34, Bool.not_true, Bool.not_false]) ?_
                          refine N_run 3 [(3, .pointer (some (Addr.mk b 0 none))), (4, .int .i64 ra), (6, .int .i32 ra_2), (8, .int .i64 ra_3), (10, .int .i64 ra_4), (11, .int .i64 rb_4), (12, .int .u64 rc), (107, .bool false), (110, .bool true), (113, .bool (ra_4 != 0))] (fun w => by kernel_rfl) ?_
                          by_cases c35 : ra_4 = 0
                          · have b36 : (ra_4 != 0) = false := bne_eq_false_iff_eq.mpr c35
                            refine N_env [(3, .pointer (some (Addr.mk b 0 none))), (4, .int .i64 ra), (6, .int .i32 ra_2), (8, .int .i64 ra_3), (10, .int .i64 ra_4), (11, .int .i64 rb_4), (12, .int .u64 rc), (107, .bool false), (110, .bool true), (113, .bool false)] (by simp only [b36, Bool.not_true, Bool.not_false]) ?_
                            refine N_run 4 [(3, .pointer (some (Addr.mk b 0 none))), (4, .int .i64 ra), (6, .int .i32 ra_2), (8, .int .i64 ra_3), (10, .int .i64 ra_4), (11, .int .i64 rb_4), (12, .int .u64 rc), (107, .bool false), (110, .bool true), (117, .bool (rb_4 != 0))] (fun w => by kernel_rfl) ?_
                            by_cases c37 : rb_4 = 0
                            · have b38 : (rb_4 != 0) = false := bne_eq_false_iff_eq.mpr c37
                              refine N_env [(3, .pointer (some (Addr.mk b 0 none))), (4, .int .i64 ra), (6, .int .i32 ra_2), (8, .int .i64 ra_3), (10, .int .i64 ra_4), (11, .int .i64 rb_4), (12, .int .u64 rc), (107, .bool false), (110, .bool true), (117, .bool false)] (by simp only [b38, Bool.not_true, Bool.not_false]) ?_
                              refine N_run 5 [(3, .pointer (some (Addr.mk b 0 none))), (4, .int .i64 ra), (6, .int .i32 ra_2), (8, .int .i64 ra_3), (10, .int .i64 ra_4), (11, .int .i64 rb_4), (12, .int .u64 rc), (122, .bool (rc != 0))] (fun w => by kernel_rfl) ?_
                              refine N_end (by kernel_rfl) ?_
                              refine S_env [(3, .pointer (some (Addr.mk b 0 none))), (4, .int .i64 ra), (6, .int .i32 ra_2), (8, .int .i64 ra_3), (10, .int .i64 ra_4), (11, .int .i64 rb_4), (12, .int .u64 rc), (122, .bool (((((!rb) && (ra != 0)) || ((!rb_2) && (ra_2 != 0))) || ((!rb_3) && (ra_3 != 0))) || ((!rd) && (((ra_4 != 0) || (rb_4 != 0)) || (rc != 0)))))] (by simp only [b28, b30, b32, b34, b36, b38, Bool.true_or, Bool.false_or, Bool.or_true, Bool.or_false, Bool.true_and, Bool.false_and, Bool.and_true, Bool.and_false, Bool.not_true, Bool.not_false, cond_true, cond_false]) ?_
                              exact hk
                            · have b38 : (rb_4 != 0) = true := bne_iff_ne.mpr c37
                              refine N_env [(3, .pointer (some (Addr.mk b 0 none))), (4, .int .i64 ra), (6, .int .i32 ra_2), (8, .int .i64 ra_3), (10, .int .i64 ra_4), (11, .int .i64 rb_4), (12, .int .u64 rc), (107, .bool false), (110, .bool true), (117, .bool true)] (by simp only [b38, Bool.not_true, Bool.not_false]) ?_
                              refine N_run 5 [(3, .pointer (some (Addr.mk b 0 none))), (4, .int .i64 ra), (6, .int .i32 ra_2), (8, .int .i64 ra_3), (10, .int .i64 ra_4), (11, .int .i64 rb_4), (12, .int .u64 rc), (122, .bool true)] (fun w => by kernel_rfl) ?_
                              refine N_end (by kernel_rfl) ?_
                              refine S_env [(3, .pointer (some (Addr.mk b 0 none))), (4, .int .i64 ra), (6, .int .i32 ra_2), (8, .int .i64 ra_3), (10, .int .i64 ra_4), (11, .int .i64 rb_4), (12, .int .u64 rc), (122, .bool (((((!rb) && (ra != 0)) || ((!rb_2) && (ra_2 != 0))) || ((!rb_3) && (ra_3 != 0))) || ((!rd) && (((ra_4 != 0) || (rb_4 != 0)) || (rc != 0)))))] (by simp only [b28, b30, b32, b34, b36, b38, Bool.true_or, Bool.false_or, Bool.or_true, Bool.or_false, Bool.true_and, Bool.false_and, Bool.and_true, Bool.and_false, Bool.not_true, Bool.not_false, cond_true, cond_false]) ?_
                              exact hk
                          · have b36 : (ra_4 != 0) = true := bne_iff_ne.mpr c35
                            refine N_env [(3, .pointer (some (Addr.mk b 0 none))), (4, .int .i64 ra), (6, .int .i32 ra_2), (8, .int .i64 ra_3), (10, .int .i64 ra_4), (11, .int .i64 rb_4), (12, .int .u64 rc), (107, .bool false), (110, .bool true), (113, .bool true)] (by simp only [b36, Bool.not_true, Bool.not_false]) ?_
                            refine N_run 9 [(3, .pointer (some (Addr.mk b 0 none))), (4, .int .i64 ra), (6, .int .i32 ra_2), (8, .int .i64 ra_3), (10, .int .i64 ra_4), (11, .int .i64 rb_4), (12, .int .u64 rc), (122, .bool true)] (fun w => by kernel_rfl) ?_
                            refine N_end (by kernel_rfl) ?_
                            refine S_env [(3, .pointer (some (Addr.mk b 0 none))), (4, .int .i64 ra), (6, .int .i32 ra_2), (8, .int .i64 ra_3), (10, .int .i64 ra_4), (11, .int .i64 rb_4), (12, .int .u64 rc), (122, .bool (((((!rb) && (ra != 0)) || ((!rb_2) && (ra_2 != 0))) || ((!rb_3) && (ra_3 != 0))) || ((!rd) && (((ra_4 != 0) || (rb_4 != 0)) || (rc != 0)))))] (by simp only [b28, b30, b32, b34, b36, Bool.true_or, Bool.false_or, Bool.or_true, Bool.or_false, Bool.true_and, Bool.false_and, Bool.and_true, Bool.and_false, Bool.not_true, Bool.not_false, cond_true, cond_false]) ?_
                            exact hk
                      · have b32 : (!rb_3) = true := congrArg Bool.not (eq_false_of_ne_true c31)
                        refine N_env [(3, .pointer (some (Addr.mk b 0 none))), (4, .int .i64 ra), (6, .int .i32 ra_2), (8, .int .i64 ra_3), (10, .int .i64 ra_4), (11, .int .i64 rb_4), (12, .int .u64 rc), (13, .bool rd), (99, .bool false), (102, .bool true)] (by simp only [b32, Bool.not_true, Bool.not_false]) ?_
                        refine N_run 5 [(3, .pointer (some (Addr.mk b 0 none))), (4, .int .i64 ra), (6, .int .i32 ra_2), (8, .int .i64 ra_3), (10, .int .i64 ra_4), (11, .int .i64 rb_4), (12, .int .u64 rc), (13, .bool rd), (107, .bool (ra_3 != 0))] (fun w => by kernel_rfl) ?_
                        by_cases c39 : ra_3 = 0
                        · have b40 : (ra_3 != 0) = false := bne_eq_false_iff_eq.mpr c39
                          refine N_env [(3, .pointer (some (Addr.mk b 0 none))), (4, .int .i64 ra), (6, .int .i32 ra_2), (8, .int .i64 ra_3), (10, .int .i64 ra_4), (11, .int .i64 rb_4), (12, .int .u64 rc), (13, .bool rd), (107, .bool false)] (by simp only [b40, Bool.not_true, Bool.not_false]) ?_
                          refine N_run 3 [(3, .pointer (some (Addr.mk b 0 none))), (4, .int .i64 ra), (6, .int .i32 ra_2), (8, .int .i64 ra_3), (10, .int .i64 ra_4), (11, .int .i64 rb_4), (12, .int .u64 rc), (107, .bool false), (110, .bool (!rd))] (fun w => by kernel_rfl) ?_
                          by_cases c41 : rd = true
                          · have b42 : (!rd) = false := congrArg Bool.not (c41)
                            refine N_env [(3, .pointer (some (Addr.mk b 0 none))), (4, .int .i64 ra), (6, .int .i32 ra_2), (8, .int .i64 ra_3), (10, .int .i64 ra_4), (11, .int .i64 rb_4), (12, .int .u64 rc), (107, .bool false), (110, .bool false)] (by simp only [b42, Bool.not_true, Bool.not_false]) ?_
                            refine N_run 12 [(3, .pointer (some (Addr.mk b 0 none))), (4, .int .i64 ra), (6, .int .i32 ra_2), (8, .int .i64 ra_3), (10, .int .i64 ra_4), (11, .int .i64 rb_4), (12, .int .u64 rc), (122, .bool false)] (fun w => by kernel_rfl) ?_
                            refine N_end (by kernel_rfl) ?_
                            refine S_env [(3, .pointer (some (Addr.mk b 0 none))), (4, .int .i64 ra), (6, .int .i32 ra_2), (8, .int .i64 ra_3), (10, .int .i64 ra_4), (11, .int .i64 rb_4), (12, .int .u64 rc), (122, .bool (((((!rb) && (ra != 0)) || ((!rb_2) && (ra_2 != 0))) || ((!rb_3) && (ra_3 != 0))) || ((!rd) && (((ra_4 != 0) || (rb_4 != 0)) || (rc != 0)))))] (by simp only [b28, b30, b32, b40, b42, Bool.true_or, Bool.false_or, Bool.or_true, Bool.or_false, Bool.true_and, Bool.false_and, Bool.and_true, Bool.and_false, Bool.not_true, Bool.not_false, cond_true, cond_false]) ?_
                            exact hk
                          · have b42 : (!rd) = true := congrArg Bool.not (eq_false_of_ne_true c41)
                            refine N_env [(3, .pointer (some (Addr.mk b 0 none))), (4, .int .i64 ra), (6, .int .i32 ra_2), (8, .int .i64 ra_3), (10, .int .i64 ra_4), (11, .int .i64 rb_4), (12, .int .u64 rc), (107, .bool false), (110, .bool true)] (by simp only [b42, Bool.not_true, Bool.not_false]) ?_
                            refine N_run 3 [(3, .pointer (some (Addr.mk b 0 none))), (4, .int .i64 ra), (6, .int .i32 ra_2), (8, .int .i64 ra_3), (10, .int .i64 ra_4), (11, .int .i64 rb_4), (12, .int .u64 rc), (107, .bool false), (110, .bool true), (113, .bool (ra_4 != 0))] (fun w => by kernel_rfl) ?_
                            by_cases c43 : ra_4 = 0
                            · have b44 : (ra_4 != 0) = false := bne_eq_false_iff_eq.mpr c43
                              refine N_env [(3, .pointer (some (Addr.mk b 0 none))), (4, .int .i64 ra), (6, .int .i32 ra_2), (8, .int .i64 ra_3), (10, .int .i64 ra_4), (11, .int .i64 rb_4), (12, .int .u64 rc), (107, .bool false), (110, .bool true), (113, .bool false)] (by simp only [b44, Bool.not_true, Bool.not_false]) ?_
                              refine N_run 4 [(3, .pointer (some (Addr.mk b 0 none))), (4, .int .i64 ra), (6, .int .i32 ra_2), (8, .int .i64 ra_3), (10, .int .i64 ra_4), (11, .int .i64 rb_4), (12, .int .u64 rc), (107, .bool false), (110, .bool true), (117, .bool (rb_4 != 0))] (fun w => by kernel_rfl) ?_
                              by_cases c45 : rb_4 = 0
                              · have b46 : (rb_4 != 0) = false := bne_eq_false_iff_eq.mpr c45
                                refine N_env [(3, .pointer (some (Addr.mk b 0 none))), (4, .int .i64 ra), (6, .int .i32 ra_2), (8, .int .i64 ra_3), (10, .int .i64 ra_4), (11, .int .i64 rb_4), (12, .int .u64 rc), (107, .bool false), (110, .bool true), (117, .bool false)] (by simp only [b46, Bool.not_true, Bool.not_false]) ?_
                                refine N_run 5 [(3, .pointer (some (Addr.mk b 0 none))), (4, .int .i64 ra), (6, .int .i32 ra_2), (8, .int .i64 ra_3), (10, .int .i64 ra_4), (11, .int .i64 rb_4), (12, .int .u64 rc), (122, .bool (rc != 0))] (fun w => by kernel_rfl) ?_
                                refine N_end (by kernel_rfl) ?_
                                refine S_env [(3, .pointer (some (Addr.mk b 0 none))), (4, .int .i64 ra), (6, .int .i32 ra_2), (8, .int .i64 ra_3), (10, .int .i64 ra_4), (11, .int .i64 rb_4), (12, .int .u64 rc), (122, .bool (((((!rb) && (ra != 0)) || ((!rb_2) && (ra_2 != 0))) || ((!rb_3) && (ra_3 != 0))) || ((!rd) && (((ra_4 != 0) || (rb_4 != 0)) || (rc != 0)))))] (by simp only [b28, b30, b32, b40, b42, b44, b46, Bool.true_or, Bool.false_or, Bool.or_true, Bool.or_false, Bool.true_and, Bool.false_and, Bool.and_true, Bool.and_false, Bool.not_true, Bool.not_false, cond_true, cond_false]) ?_
                                exact hk
                              · have b46 : (rb_4 != 0) = true := bne_iff_ne.mpr c45
                                refine N_env [(3, .pointer (some (Addr.mk b 0 none))), (4, .int .i64 ra), (6, .int .i32 ra_2), (8, .int .i64 ra_3), (10, .int .i64 ra_4), (11, .int .i64 rb_4), (12, .int .u64 rc), (107, .bool false), (110, .bool true), (117, .bool true)] (by simp only [b46, Bool.not_true, Bool.not_false]) ?_
                                refine N_run 5 [(3, .pointer (some (Addr.mk b 0 none))), (4, .int .i64 ra), (6, .int .i32 ra_2), (8, .int .i64 ra_3), (10, .int .i64 ra_4), (11, .int .i64 rb_4), (12, .int .u64 rc), (122, .bool true)] (fun w => by kernel_rfl) ?_
                                refine N_end (by kernel_rfl) ?_
                                refine S_env [(3, .pointer (some (Addr.mk b 0 none))), (4, .int .i64 ra), (6, .int .i32 ra_2), (8, .int .i64 ra_3), (10, .int .i64 ra_4), (11, .int .i64 rb_4), (12, .int .u64 rc), (122, .bool (((((!rb) && (ra != 0)) || ((!rb_2) && (ra_2 != 0))) || ((!rb_3) && (ra_3 != 0))) || ((!rd) && (((ra_4 != 0) || (rb_4 != 0)) || (rc != 0)))))] (by simp only [b28, b30, b32, b40, b42, b44, b46, Bool.true_or, Bool.false_or, Bool.or_true, Bool.or_false, Bool.true_and, Bool.false_and, Bool.and_true, Bool.and_false, Bool.not_true, Bool.not_false, cond_true, cond_false]) ?_
                                exact hk
                            · have b44 : (ra_4 != 0) = true := bne_iff_ne.mpr c43
                              refine N_env [(3, .pointer (some (Addr.mk b 0 none))), (4, .int .i64 ra), (6, .int .i32 ra_2), (8, .int .i64 ra_3), (10, .int .i64 ra_4), (11, .int .i64 rb_4), (12, .int .u64 rc), (107, .bool false), (110, .bool true), (113, .bool true)] (by simp only [b44, Bool.not_true, Bool.not_false]) ?_
                              refine N_run 9 [(3, .pointer (some (Addr.mk b 0 none))), (4, .int .i64 ra), (6, .int .i32 ra_2), (8, .int .i64 ra_3), (10, .int .i64 ra_4), (11, .int .i64 rb_4), (12, .int .u64 rc), (122, .bool true)] (fun w => by kernel_rfl) ?_
                              refine N_end (by kernel_rfl) ?_
                              refine S_env [(3, .pointer (some (Addr.mk b 0 none))), (4, .int .i64 ra), (6, .int .i32 ra_2), (8, .int .i64 ra_3), (10, .int .i64 ra_4), (11, .int .i64 rb_4), (12, .int .u64 rc), (122, .bool (((((!rb) && (ra != 0)) || ((!rb_2) && (ra_2 != 0))) || ((!rb_3) && (ra_3 != 0))) || ((!rd) && (((ra_4 != 0) || (rb_4 != 0)) || (rc != 0)))))] (by simp only [b28, b30, b32, b40, b42, b44, Bool.true_or, Bool.false_or, Bool.or_true, Bool.or_false, Bool.true_and, Bool.false_and, Bool.and_true, Bool.and_false, Bool.not_true, Bool.not_false, cond_true, cond_false]) ?_
                              exact hk
                        · have b40 : (ra_3 != 0) = true := bne_iff_ne.mpr c39
                          refine N_env [(3, .pointer (some (Addr.mk b 0 none))), (4, .int .i64 ra), (6, .int .i32 ra_2), (8, .int .i64 ra_3), (10, .int .i64 ra_4), (11, .int .i64 rb_4), (12, .int .u64 rc), (13, .bool rd), (107, .bool true)] (by simp only [b40, Bool.not_true, Bool.not_false]) ?_
                          refine N_run 15 [(3, .pointer (some (Addr.mk b 0 none))), (4, .int .i64 ra), (6, .int .i32 ra_2), (8, .int .i64 ra_3), (10, .int .i64 ra_4), (11, .int .i64 rb_4), (12, .int .u64 rc), (122, .bool true)] (fun w => by kernel_rfl) ?_
                          refine N_end (by kernel_rfl) ?_
                          refine S_env [(3, .pointer (some (Addr.mk b 0 none))), (4, .int .i64 ra), (6, .int .i32 ra_2), (8, .int .i64 ra_3), (10, .int .i64 ra_4), (11, .int .i64 rb_4), (12, .int .u64 rc), (122, .bool (((((!rb) && (ra != 0)) || ((!rb_2) && (ra_2 != 0))) || ((!rb_3) && (ra_3 != 0))) || ((!rd) && (((ra_4 != 0) || (rb_4 != 0)) || (rc != 0)))))] (by simp only [b28, b30, b32, b40, Bool.true_or, Bool.false_or, Bool.or_true, Bool.or_false, Bool.true_and, Bool.false_and, Bool.and_true, Bool.and_false, Bool.not_true, Bool.not_false, cond_true, cond_false]) ?_
                          exact hk
                    · have b30 : (!rb_2) = true := congrArg Bool.not (eq_false_of_ne_true c29)
                      refine N_env [(3, .pointer (some (Addr.mk b 0 none))), (4, .int .i64 ra), (6, .int .i32 ra_2), (8, .int .i64 ra_3), (9, .bool rb_3), (10, .int .i64 ra_4), (11, .int .i64 rb_4), (12, .int .u64 rc), (13, .bool rd), (91, .bool false), (94, .bool true)] (by simp only [b30, Bool.not_true, Bool.not_false]) ?_
                      refine N_run 5 [(3, .pointer (some (Addr.mk b 0 none))), (4, .int .i64 ra), (6, .int .i32 ra_2), (8, .int .i64 ra_3), (9, .bool rb_3), (10, .int .i64 ra_4), (11, .int .i64 rb_4), (12, .int .u64 rc), (13, .bool rd), (99, .bool (ra_2 != 0))] (fun w => by kernel_rfl) ?_
                      by_cases c47 : ra_2 = 0
                      · have b48 : (ra_2 != 0) = false := bne_eq_false_iff_eq.mpr c47
                        refine N_env [(3, .pointer (some (Addr.mk b 0 none))), (4, .int .i64 ra), (6, .int .i32 ra_2), (8, .int .i64 ra_3), (9, .bool rb_3), (10, .int .i64 ra_4), (11, .int .i64 rb_4), (12, .int .u64 rc), (13, .bool rd), (99, .bool false)] (by simp only [b48, Bool.not_true, Bool.not_false]) ?_
                        refine N_run 3 [(3, .pointer (some (Addr.mk b 0 none))), (4, .int .i64 ra), (6, .int .i32 ra_2), (8, .int .i64 ra_3), (10, .int .i64 ra_4), (11, .int .i64 rb_4), (12, .int .u64 rc), (13, .bool rd), (99, .bool false), (102, .bool (!rb_3))] (fun w => by kernel_rfl) ?_
                        by_cases c49 : rb_3 = true
                        · have b50 : (!rb_3) = false := congrArg Bool.not (c49)
                          refine N_env [(3, .pointer (some (Addr.mk b 0 none))), (4, .int .i64 ra), (6, .int .i32 ra_2), (8, .int .i64 ra_3), (10, .int .i64 ra_4), (11, .int .i64 rb_4), (12, .int .u64 rc), (13, .bool rd), (99, .bool false), (102, .bool false)] (by simp only [b50, Bool.not_true, Bool.not_false]) ?_
                          refine N_run 8 [(3, .pointer (some (Addr.mk b 0 none))), (4, .int .i64 ra), (6, .int .i32 ra_2), (8, .int .i64 ra_3), (10, .int .i64 ra_4), (11, .int .i64 rb_4), (12, .int .u64 rc), (107, .bool false), (110, .bool (!rd))] (fun w => by kernel_rfl) ?_
                          by_cases c51 : rd = true
                          · have b52 : (!rd) = false := congrArg Bool.not (c51)
                            refine N_env [(3, .pointer (some (Addr.mk b 0 none))), (4, .int .i64 ra), (6, .int .i32 ra_2), (8, .int .i64 ra_3), (10, .int .i64 ra_4), (11, .int .i64 rb_4), (12, .int .u64 rc), (107, .bool false), (110, .bool false)] (by simp only [b52, Bool.not_true, Bool.not_false]) ?_
                            refine N_run 12 [(3, .pointer (some (Addr.mk b 0 none))), (4, .int .i64 ra), (6, .int .i32 ra_2), (8, .int .i64 ra_3), (10, .int .i64 ra_4), (11, .int .i64 rb_4), (12, .int .u64 rc), (122, .bool false)] (fun w => by kernel_rfl) ?_
                            refine N_end (by kernel_rfl) ?_
                            refine S_env [(3, .pointer (some (Addr.mk b 0 none))), (4, .int .i64 ra), (6, .int .i32 ra_2), (8, .int .i64 ra_3), (10, .int .i64 ra_4), (11, .int .i64 rb_4), (12, .int .u64 rc), (122, .bool (((((!rb) && (ra != 0)) || ((!rb_2) && (ra_2 != 0))) || ((!rb_3) && (ra_3 != 0))) || ((!rd) && (((ra_4 != 0) || (rb_4 != 0)) || (rc != 0)))))] (by simp only [b28, b30, b48, b50, b52, Bool.true_or, Bool.false_or, Bool.or_true, Bool.or_false, Bool.true_and, Bool.false_and, Bool.and_true, Bool.and_false, Bool.not_true, Bool.not_false, cond_true, cond_false]) ?_
                            exact hk
                          · have b52 : (!rd) = true := congrArg Bool.not (eq_false_of_ne_true c51)
                            refine N_env [(3, .pointer (some (Addr.mk b 0 none))), (4, .int .i64 ra), (6, .int .i32 ra_2), (8, .int .i64 ra_3), (10, .int .i64 ra_4), (11, .int .i64 rb_4), (12, .int .u64 rc), (107, .bool false), (110, .bool true)] (by simp only [b52, Bool.not_true, Bool.not_false]) ?_
                            refine N_run 3 [(3, .pointer (some (Addr.mk b 0 none))), (4, .int .i64 ra), (6, .int .i32 ra_2), (8, .int .i64 ra_3), (10, .int .i64 ra_4), (11, .int .i64 rb_4), (12, .int .u64 rc), (107, .bool false), (110, .bool true), (113, .bool (ra_4 != 0))] (fun w => by kernel_rfl) ?_
                            by_cases c53 : ra_4 = 0
                            · have b54 : (ra_4 != 0) = false := bne_eq_false_iff_eq.mpr c53
                              refine N_env [(3, .pointer (some (Addr.mk b 0 none))), (4, .int .i64 ra), (6, .int .i32 ra_2), (8, .int .i64 ra_3), (10, .int .i64 ra_4), (11, .int .i64 rb_4), (12, .int .u64 rc), (107, .bool false), (110, .bool true), (113, .bool false)] (by simp only [b54, Bool.not_true, Bool.not_false]) ?_
                              refine N_run 4 [(3, .pointer (some (Addr.mk b 0 none))), (4, .int .i64 ra), (6, .int .i32 ra_2), (8, .int .i64 ra_3), (10, .int .i64 ra_4), (11, .int .i64 rb_4), (12, .int .u64 rc), (107, .bool false), (110, .bool true), (117, .bool (rb_4 != 0))] (fun w => by kernel_rfl) ?_
                              by_cases c55 : rb_4 = 0
                              · have b56 : (rb_4 != 0) = false := bne_eq_false_iff_eq.mpr c55
                                refine N_env [(3, .pointer (some (Addr.mk b 0 none))), (4, .int .i64 ra), (6, .int .i32 ra_2), (8, .int .i64 ra_3), (10, .int .i64 ra_4), (11, .int .i64 rb_4), (12, .int .u64 rc), (107, .bool false), (110, .bool true), (117, .bool false)] (by simp only [b56, Bool.not_true, Bool.not_false]) ?_
                                refine N_run 5 [(3, .pointer (some (Addr.mk b 0 none))), (4, .int .i64 ra), (6, .int .i32 ra_2), (8, .int .i64 ra_3), (10, .int .i64 ra_4), (11, .int .i64 rb_4), (12, .int .u64 rc), (122, .bool (rc != 0))] (fun w => by kernel_rfl) ?_
                                refine N_end (by kernel_rfl) ?_
                                refine S_env [(3, .pointer (some (Addr.mk b 0 none))), (4, .int .i64 ra), (6, .int .i32 ra_2), (8, .int .i64 ra_3), (10, .int .i64 ra_4), (11, .int .i64 rb_4), (12, .int .u64 rc), (122, .bool (((((!rb) && (ra != 0)) || ((!rb_2) && (ra_2 != 0))) || ((!rb_3) && (ra_3 != 0))) || ((!rd) && (((ra_4 != 0) || (rb_4 != 0)) || (rc != 0)))))] (by simp only [b28, b30, b48, b50, b52, b54, b56, Bool.true_or, Bool.false_or, Bool.or_true, Bool.or_false, Bool.true_and, Bool.false_and, Bool.and_true, Bool.and_false, Bool.not_true, Bool.not_false, cond_true, cond_false]) ?_
                                exact hk
                              · have b56 : (rb_4 != 0) = true := bne_iff_ne.mpr c55
                                refine N_env [(3, .pointer (some (Addr.mk b 0 none))), (4, .int .i64 ra), (6, .int .i32 ra_2), (8, .int .i64 ra_3), (10, .int .i64 ra_4), (11, .int .i64 rb_4), (12, .int .u64 rc), (107, .bool false), (110, .bool true), (117, .bool true)] (by simp only [b56, Bool.not_true, Bool.not_false]) ?_
                                refine N_run 5 [(3, .pointer (some (Addr.mk b 0 none))), (4, .int .i64 ra), (6, .int .i32 ra_2), (8, .int .i64 ra_3), (10, .int .i64 ra_4), (11, .int .i64 rb_4), (12, .int .u64 rc), (122, .bool true)] (fun w => by kernel_rfl) ?_
                                refine N_end (by kernel_rfl) ?_
                                refine S_env [(3, .pointer (some (Addr.mk b 0 none))), (4, .int .i64 ra), (6, .int .i32 ra_2), (8, .int .i64 ra_3), (10, .int .i64 ra_4), (11, .int .i64 rb_4), (12, .int .u64 rc), (122, .bool (((((!rb) && (ra != 0)) || ((!rb_2) && (ra_2 != 0))) || ((!rb_3) && (ra_3 != 0))) || ((!rd) && (((ra_4 != 0) || (rb_4 != 0)) || (rc != 0)))))] (by simp only [b28, b30, b48, b50, b52, b54, b56, Bool.true_or, Bool.false_or, Bool.or_true, Bool.or_false, Bool.true_and, Bool.false_and, Bool.and_true, Bool.and_false, Bool.not_true, Bool.not_false, cond_true, cond_false]) ?_
                                exact hk
                            · have b54 : (ra_4 != 0) = true := bne_iff_ne.mpr c53
                              refine N_env [(3, .pointer (some (Addr.mk b 0 none))), (4, .int .i64 ra), (6, .int .i32 ra_2), (8, .int .i64 ra_3), (10, .int .i64 ra_4), (11, .int .i64 rb_4), (12, .int .u64 rc), (107, .bool false), (110, .bool true), (113, .bool true)] (by simp only [b54, Bool.not_true, Bool.not_false]) ?_
                              refine N_run 9 [(3, .pointer (some (Addr.mk b 0 none))), (4, .int .i64 ra), (6, .int .i32 ra_2), (8, .int .i64 ra_3), (10, .int .i64 ra_4), (11, .int .i64 rb_4), (12, .int .u64 rc), (122, .bool true)] (fun w => by kernel_rfl) ?_
                              refine N_end (by kernel_rfl) ?_
                              refine S_env [(3, .pointer (some (Addr.mk b 0 none))), (4, .int .i64 ra), (6, .int .i32 ra_2), (8, .int .i64 ra_3), (10, .int .i64 ra_4), (11, .int .i64 rb_4), (12, .int .u64 rc), (122, .bool (((((!rb) && (ra != 0)) || ((!rb_2) && (ra_2 != 0))) || ((!rb_3) && (ra_3 != 0))) || ((!rd) && (((ra_4 != 0) || (rb_4 != 0)) || (rc != 0)))))] (by simp only [b28, b30, b48, b50, b52, b54, Bool.true_or, Bool.false_or, Bool.or_true, Bool.or_false, Bool.true_and, Bool.false_and, Bool.and_true, Bool.and_false, Bool.not_true, Bool.not_false, cond_true, cond_false]) ?_
                              exact hk
                        · have b50 : (!rb_3) = true := congrArg Bool.not (eq_false_of_ne_true c49)
                          refine N_env [(3, .pointer (some (Addr.mk b 0 none))), (4, .int .i64 ra), (6, .int .i32 ra_2), (8, .int .i64 ra_3), (10, .int .i64 ra_4), (11, .int .i64 rb_4), (12, .int .u64 rc), (13, .bool rd), (99, .bool false), (102, .bool true)] (by simp only [b50, Bool.not_true, Bool.not_false]) ?_
                          refine N_run 5 [(3, .pointer (some (Addr.mk b 0 none))), (4, .int .i64 ra), (6, .int .i32 ra_2), (8, .int .i64 ra_3), (10, .int .i64 ra_4), (11, .int .i64 rb_4), (12, .int .u64 rc), (13, .bool rd), (107, .bool (ra_3 != 0))] (fun w => by kernel_rfl) ?_
                          by_cases c57 : ra_3 = 0
                          · have b58 : (ra_3 != 0) = false := bne_eq_false_iff_eq.mpr c57
                            refine N_env [(3, .pointer (some (Addr.mk b 0 none))), (4, .int .i64 ra), (6, .int .i32 ra_2), (8, .int .i64 ra_3), (10, .int .i64 ra_4), (11, .int .i64 rb_4), (12, .int .u64 rc), (13, .bool rd), (107, .bool false)] (by simp only [b58, Bool.not_true, Bool.not_false]) ?_
                            refine N_run 3 [(3, .pointer (some (Addr.mk b 0 none))), (4, .int .i64 ra), (6, .int .i32 ra_2), (8, .int .i64 ra_3), (10, .int .i64 ra_4), (11, .int .i64 rb_4), (12, .int .u64 rc), (107, .bool false), (110, .bool (!rd))] (fun w => by kernel_rfl) ?_
                            by_cases c59 : rd = true
                            · have b60 : (!rd) = false := congrArg Bool.not (c59)
                              refine N_env [(3, .pointer (some (Addr.mk b 0 none))), (4, .int .i64 ra), (6, .int .i32 ra_2), (8, .int .i64 ra_3), (10, .int .i64 ra_4), (11, .int .i64 rb_4), (12, .int .u64 rc), (107, .bool false), (110, .bool false)] (by simp only [b60, Bool.not_true, Bool.not_false]) ?_
                              refine N_run 12 [(3, .pointer (some (Addr.mk b 0 none))), (4, .int .i64 ra), (6, .int .i32 ra_2), (8, .int .i64 ra_3), (10, .int .i64 ra_4), (11, .int .i64 rb_4), (12, .int .u64 rc), (122, .bool false)] (fun w => by kernel_rfl) ?_
                              refine N_end (by kernel_rfl) ?_
                              refine S_env [(3, .pointer (some (Addr.mk b 0 none))), (4, .int .i64 ra), (6, .int .i32 ra_2), (8, .int .i64 ra_3), (10, .int .i64 ra_4), (11, .int .i64 rb_4), (12, .int .u64 rc), (122, .bool (((((!rb) && (ra != 0)) || ((!rb_2) && (ra_2 != 0))) || ((!rb_3) && (ra_3 != 0))) || ((!rd) && (((ra_4 != 0) || (rb_4 != 0)) || (rc != 0)))))] (by simp only [b28, b30, b48, b50, b58, b60, Bool.true_or, Bool.false_or, Bool.or_true, Bool.or_false, Bool.true_and, Bool.false_and, Bool.and_true, Bool.and_false, Bool.not_true, Bool.not_false, cond_true, cond_false]) ?_
                              exact hk
                            · have b60 : (!rd) = true := congrArg Bool.not (eq_false_of_ne_true c59)
                              refine N_env [(3, .pointer (some (Addr.mk b 0 none))), (4, .int .i64 ra), (6, .int .i32 ra_2), (8, .int .i64 ra_3), (10, .int .i64 ra_4), (11, .int .i64 rb_4), (12, .int .u64 rc), (107, .bool false), (110, .bool true)] (by simp only [b60, Bool.not_true, Bool.not_false]) ?_
                              refine N_run 3 [(3, .pointer (some (Addr.mk b 0 none))), (4, .int .i64 ra), (6, .int .i32 ra_2), (8, .int .i64 ra_3), (10, .int .i64 ra_4), (11, .int .i64 rb_4), (12, .int .u64 rc), (107, .bool false), (110, .bool true), (113, .bool (ra_4 != 0))] (fun w => by kernel_rfl) ?_
                              by_cases c61 : ra_4 = 0
                              · have b62 : (ra_4 != 0) = false := bne_eq_false_iff_eq.mpr c61
                                refine N_env [(3, .pointer (some (Addr.mk b 0 none))), (4, .int .i64 ra), (6, .int .i32 ra_2), (8, .int .i64 ra_3), (10, .int .i64 ra_4), (11, .int .i64 rb_4), (12, .int .u64 rc), (107, .bool false), (110, .bool true), (113, .bool false)] (by simp only [b62, Bool.not_true, Bool.not_false]) ?_
                                refine N_run 4 [(3, .pointer (some (Addr.mk b 0 none))), (4, .int .i64 ra), (6, .int .i32 ra_2), (8, .int .i64 ra_3), (10, .int .i64 ra_4), (11, .int .i64 rb_4), (12, .int .u64 rc), (107, .bool false), (110, .bool true), (117, .bool (rb_4 != 0))] (fun w => by kernel_rfl) ?_
                                by_cases c63 : rb_4 = 0
                                · have b64 : (rb_4 != 0) = false := bne_eq_false_iff_eq.mpr c63
                                  refine N_env [(3, .pointer (some (Addr.mk b 0 none))), (4, .int .i64 ra), (6, .int .i32 ra_2), (8, .int .i64 ra_3), (10, .int .i64 ra_4), (11, .int .i64 rb_4), (12, .int .u64 rc), (107, .bool false), (110, .bool true), (117, .bool false)] (by simp only [b64, Bool.not_true, Bool.not_false]) ?_
                                  refine N_run 5 [(3, .pointer (some (Addr.mk b 0 none))), (4, .int .i64 ra), (6, .int .i32 ra_2), (8, .int .i64 ra_3), (10, .int .i64 ra_4), (11, .int .i64 rb_4), (12, .int .u64 rc), (122, .bool (rc != 0))] (fun w => by kernel_rfl) ?_
                                  refine N_end (by kernel_rfl) ?_
                                  refine S_env [(3, .pointer (some (Addr.mk b 0 none))), (4, .int .i64 ra), (6, .int .i32 ra_2), (8, .int .i64 ra_3), (10, .int .i64 ra_4), (11, .int .i64 rb_4), (12, .int .u64 rc), (122, .bool (((((!rb) && (ra != 0)) || ((!rb_2) && (ra_2 != 0))) || ((!rb_3) && (ra_3 != 0))) || ((!rd) && (((ra_4 != 0) || (rb_4 != 0)) || (rc != 0)))))] (by simp only [b28, b30, b48, b50, b58, b60, b62, b64, Bool.true_or, Bool.false_or, Bool.or_true, Bool.or_false, Bool.true_and, Bool.false_and, Bool.and_true, Bool.and_false, Bool.not_true, Bool.not_false, cond_true, cond_false]) ?_
                                  exact hk
                                · have b64 : (rb_4 != 0) = true := bne_iff_ne.mpr c63
                                  refine N_env [(3, .pointer (some (Addr.mk b 0 none))), (4, .int .i64 ra), (6, .int .i32 ra_2), (8, .int .i64 ra_3), (10, .int .i64 ra_4), (11, .int .i64 rb_4), (12, .int .u64 rc), (107, .bool false), (110, .bool true), (117, .bool true)] (by simp only [b64, Bool.not_true, Bool.not_false]) ?_
                                  refine N_run 5 [(3, .pointer (some (Addr.mk b 0 none))), (4, .int .i64 ra), (6, .int .i32 ra_2), (8, .int .i64 ra_3), (10, .int .i64 ra_4), (11, .int .i64 rb_4), (12, .int .u64 rc), (122, .bool true)] (fun w => by kernel_rfl) ?_
                                  refine N_end (by kernel_rfl) ?_
                                  refine S_env [(3, .pointer (some (Addr.mk b 0 none))), (4, .int .i64 ra), (6, .int .i32 ra_2), (8, .int .i64 ra_3), (10, .int .i64 ra_4), (11, .int .i64 rb_4), (12, .int .u64 rc), (122, .bool (((((!rb) && (ra != 0)) || ((!rb_2) && (ra_2 != 0))) || ((!rb_3) && (ra_3 != 0))) || ((!rd) && (((ra_4 != 0) || (rb_4 != 0)) || (rc != 0)))))] (by simp only [b28, b30, b48, b50, b58, b60, b62, b64, Bool.true_or, Bool.false_or, Bool.or_true, Bool.or_false, Bool.true_and, Bool.false_and, Bool.and_true, Bool.and_false, Bool.not_true, Bool.not_false, cond_true, cond_false]) ?_
                                  exact hk
                              · have b62 : (ra_4 != 0) = true := bne_iff_ne.mpr c61
                                refine N_env [(3, .pointer (some (Addr.mk b 0 none))), (4, .int .i64 ra), (6, .int .i32 ra_2), (8, .int .i64 ra_3), (10, .int .i64 ra_4), (11, .int .i64 rb_4), (12, .int .u64 rc), (107, .bool false), (110, .bool true), (113, .bool true)] (by simp only [b62, Bool.not_true, Bool.not_false]) ?_
                                refine N_run 9 [(3, .pointer (some (Addr.mk b 0 none))), (4, .int .i64 ra), (6, .int .i32 ra_2), (8, .int .i64 ra_3), (10, .int .i64 ra_4), (11, .int .i64 rb_4), (12, .int .u64 rc), (122, .bool true)] (fun w => by kernel_rfl) ?_
                                refine N_end (by kernel_rfl) ?_
                                refine S_env [(3, .pointer (some (Addr.mk b 0 none))), (4, .int .i64 ra), (6, .int .i32 ra_2), (8, .int .i64 ra_3), (10, .int .i64 ra_4), (11, .int .i64 rb_4), (12, .int .u64 rc), (122, .bool (((((!rb) && (ra != 0)) || ((!rb_2) && (ra_2 != 0))) || ((!rb_3) && (ra_3 != 0))) || ((!rd) && (((ra_4 != 0) || (rb_4 != 0)) || (rc != 0)))))] (by simp only [b28, b30, b48, b50, b58, b60, b62, Bool.true_or, Bool.false_or, Bool.or_true, Bool.or_false, Bool.true_and, Bool.false_and, Bool.and_true, Bool.and_false, Bool.not_true, Bool.not_false, cond_true, cond_false]) ?_
                                exact hk
                          · have b58 : (ra_3 != 0) = true := bne_iff_ne.mpr c57
                            refine N_env [(3, .pointer (some (Addr.mk b 0 none))), (4, .int .i64 ra), (6, .int .i32 ra_2), (8, .int .i64 ra_3), (10, .int .i64 ra_4), (11, .int .i64 rb_4), (12, .int .u64 rc), (13, .bool rd), (107, .bool true)] (by simp only [b58, Bool.not_true, Bool.not_false]) ?_
                            refine N_run 15 [(3, .pointer (some (Addr.mk b 0 none))), (4, .int .i64 ra), (6, .int .i32 ra_2), (8, .int .i64 ra_3), (10, .int .i64 ra_4), (11, .int .i64 rb_4), (12, .int .u64 rc), (122, .bool true)] (fun w => by kernel_rfl) ?_
                            refine N_end (by kernel_rfl) ?_
                            refine S_env [(3, .pointer (some (Addr.mk b 0 none))), (4, .int .i64 ra), (6, .int .i32 ra_2), (8, .int .i64 ra_3), (10, .int .i64 ra_4), (11, .int .i64 rb_4), (12, .int .u64 rc), (122, .bool (((((!rb) && (ra != 0)) || ((!rb_2) && (ra_2 != 0))) || ((!rb_3) && (ra_3 != 0))) || ((!rd) && (((ra_4 != 0) || (rb_4 != 0)) || (rc != 0)))))] (by simp only [b28, b30, b48, b50, b58, Bool.true_or, Bool.false_or, Bool.or_true, Bool.or_false, Bool.true_and, Bool.false_and, Bool.and_true, Bool.and_false, Bool.not_true, Bool.not_false, cond_true, cond_false]) ?_
                            exact hk
                      · have b48 : (ra_2 != 0) = true := bne_iff_ne.mpr c47
                        refine N_env [(3, .pointer (some (Addr.mk b 0 none))), (4, .int .i64 ra), (6, .int .i32 ra_2), (8, .int .i64 ra_3), (9, .bool rb_3), (10, .int .i64 ra_4), (11, .int .i64 rb_4), (12, .int .u64 rc), (13, .bool rd), (99, .bool true)] (by simp only [b48, Bool.not_true, Bool.not_false]) ?_
                        refine N_run 23 [(3, .pointer (some (Addr.mk b 0 none))), (4, .int .i64 ra), (6, .int .i32 ra_2), (8, .int .i64 ra_3), (10, .int .i64 ra_4), (11, .int .i64 rb_4), (12, .int .u64 rc), (122, .bool true)] (fun w => by kernel_rfl) ?_
                        refine N_end (by kernel_rfl) ?_
                        refine S_env [(3, .pointer (some (Addr.mk b 0 none))), (4, .int .i64 ra), (6, .int .i32 ra_2), (8, .int .i64 ra_3), (10, .int .i64 ra_4), (11, .int .i64 rb_4), (12, .int .u64 rc), (122, .bool (((((!rb) && (ra != 0)) || ((!rb_2) && (ra_2 != 0))) || ((!rb_3) && (ra_3 != 0))) || ((!rd) && (((ra_4 != 0) || (rb_4 != 0)) || (rc != 0)))))] (by simp only [b28, b30, b48, Bool.true_or, Bool.false_or, Bool.or_true, Bool.or_false, Bool.true_and, Bool.false_and, Bool.and_true, Bool.and_false, Bool.not_true, Bool.not_false, cond_true, cond_false]) ?_
                        exact hk
                  · have b28 : (!rb) = true := congrArg Bool.not (eq_false_of_ne_true c27)
                    refine N_env [(3, .pointer (some (Addr.mk b 0 none))), (4, .int .i64 ra), (6, .int .i32 ra_2), (7, .bool rb_2), (8, .int .i64 ra_3), (9, .bool rb_3), (10, .int .i64 ra_4), (11, .int .i64 rb_4), (12, .int .u64 rc), (13, .bool rd), (87, .bool true)] (by simp only [b28, Bool.not_true, Bool.not_false]) ?_
                    refine N_run 4 [(3, .pointer (some (Addr.mk b 0 none))), (4, .int .i64 ra), (6, .int .i32 ra_2), (7, .bool rb_2), (8, .int .i64 ra_3), (9, .bool rb_3), (10, .int .i64 ra_4), (11, .int .i64 rb_4), (12, .int .u64 rc), (13, .bool rd), (91, .bool (ra != 0))] (fun w => by kernel_rfl) ?_
                    by_cases c65 : ra = 0
                    · have b66 : (ra != 0) = false := bne_eq_false_iff_eq.mpr c65
                      refine N_env [(3, .pointer (some (Addr.mk b 0 none))), (4, .int .i64 ra), (6, .int .i32 ra_2), (7, .bool rb_2), (8, .int .i64 ra_3), (9, .bool rb_3), (10, .int .i64 ra_4), (11, .int .i64 rb_4), (12, .int .u64 rc), (13, .bool rd), (91, .bool false)] (by simp only [b66, Bool.not_true, Bool.not_false]) ?_
                      refine N_run 3 [(3, .pointer (some (Addr.mk b 0 none))), (4, .int .i64 ra), (6, .int .i32 ra_2), (8, .int .i64 ra_3), (9, .bool rb_3), (10, .int .i64 ra_4), (11, .int .i64 rb_4), (12, .int .u64 rc), (13, .bool rd), (91, .bool false), (94, .bool (!rb_2))] (fun w => by kernel_rfl) ?_
                      by_cases c67 : rb_2 = true
                      · have b68 : (!rb_2) = false := congrArg Bool.not (c67)
                        refine N_env [(3, .pointer (some (Addr.mk b 0 none))), (4, .int .i64 ra), (6, .int .i32 ra_2), (8, .int .i64 ra_3), (9, .bool rb_3), (10, .int .i64 ra_4), (11, .int .i64 rb_4), (12, .int .u64 rc), (13, .bool rd), (91, .bool false), (94, .bool false)] (by simp only [b68, Bool.not_true, Bool.not_false]) ?_
                        refine N_run 8 [(3, .pointer (some (Addr.mk b 0 none))), (4, .int .i64 ra), (6, .int .i32 ra_2), (8, .int .i64 ra_3), (10, .int .i64 ra_4), (11, .int .i64 rb_4), (12, .int .u64 rc), (13, .bool rd), (99, .bool false), (102, .bool (!rb_3))] (fun w => by kernel_rfl) ?_
                        by_cases c69 : rb_3 = true
                        · have b70 : (!rb_3) = false := congrArg Bool.not (c69)
                          refine N_env [(3, .pointer (some (Addr.mk b 0 none))), (4, .int .i64 ra), (6, .int .i32 ra_2), (8, .int .i64 ra_3), (10, .int .i64 ra_4), (11, .int .i64 rb_4), (12, .int .u64 rc), (13, .bool rd), (99, .bool false), (102, .bool false)] (by simp only [b70, Bool.not_true, Bool.not_false]) ?_
                          refine N_run 8 [(3, .pointer (some (Addr.mk b 0 none))), (4, .int .i64 ra), (6, .int .i32 ra_2), (8, .int .i64 ra_3), (10, .int .i64 ra_4), (11, .int .i64 rb_4), (12, .int .u64 rc), (107, .bool false), (110, .bool (!rd))] (fun w => by kernel_rfl) ?_
                          by_cases c71 : rd = true
                          · have b72 : (!rd) = false := congrArg Bool.not (c71)
                            refine N_env [(3, .pointer (some (Addr.mk b 0 none))), (4, .int .i64 ra), (6, .int .i32 ra_2), (8, .int .i64 ra_3), (10, .int .i64 ra_4), (11, .int .i64 rb_4), (12, .int .u64 rc), (107, .bool false), (110, .bool false)] (by simp only [b72, Bool.not_true, Bool.not_false]) ?_
                            refine N_run 12 [(3, .pointer (some (Addr.mk b 0 none))), (4, .int .i64 ra), (6, .int .i32 ra_2), (8, .int .i64 ra_3), (10, .int .i64 ra_4), (11, .int .i64 rb_4), (12, .int .u64 rc), (122, .bool false)] (fun w => by kernel_rfl) ?_
                            refine N_end (by kernel_rfl) ?_
                            refine S_env [(3, .pointer (some (Addr.mk b 0 none))), (4, .int .i64 ra), (6, .int .i32 ra_2), (8, .int .i64 ra_3), (10, .int .i64 ra_4), (11, .int .i64 rb_4), (12, .int .u64 rc), (122, .bool (((((!rb) && (ra != 0)) || ((!rb_2) && (ra_2 != 0))) || ((!rb_3) && (ra_3 != 0))) || ((!rd) && (((ra_4 != 0) || (rb_4 != 0)) || (rc != 0)))))] (by simp only [b28, b66, b68, b70, b72, Bool.true_or, Bool.false_or, Bool.or_true, Bool.or_false, Bool.true_and, Bool.false_and, Bool.and_true, Bool.and_false, Bool.not_true, Bool.not_false, cond_true, cond_false]) ?_
                            exact hk
                          · have b72 : (!rd) = true := congrArg Bool.not (eq_false_of_ne_true c71)
                            refine N_env [(3, .pointer (some (Addr.mk b 0 none))), (4, .int .i64 ra), (6, .int .i32 ra_2), (8, .int .i64 ra_3), (10, .int .i64 ra_4), (11, .int .i64 rb_4), (12, .int .u64 rc), (107, .bool false), (110, .bool true)] (by simp only [b72, Bool.not_true, Bool.not_false]) ?_
                            refine N_run 3 [(3, .pointer (some (Addr.mk b 0 none))), (4, .int .i64 ra), (6, .int .i32 ra_2), (8, .int .i64 ra_3), (10, .int .i64 ra_4), (11, .int .i64 rb_4), (12, .int .u64 rc), (107, .bool false), (110, .bool true), (113, .bool (ra_4 != 0))] (fun w => by kernel_rfl) ?_
                            by_cases c73 : ra_4 = 0
                            · have b74 : (ra_4 != 0) = false := bne_eq_false_iff_eq.mpr c73
                              refine N_env [(3, .pointer (some (Addr.mk b 0 none))), (4, .int .i64 ra), (6, .int .i32 ra_2), (8, .int .i64 ra_3), (10, .int .i64 ra_4), (11, .int .i64 rb_4), (12, .int .u64 rc), (107, .bool false), (110, .bool true), (113, .bool false)] (by simp only [b74, Bool.not_true, Bool.not_false]) ?_
                              refine N_run 4 [(3, .pointer (some (Addr.mk b 0 none))), (4, .int .i64 ra), (6, .int .i32 ra_2), (8, .int .i64 ra_3), (10, .int .i64 ra_4), (11, .int .i64 rb_4), (12, .int .u64 rc), (107, .bool false), (110, .bool true), (117, .bool (rb_4 != 0))] (fun w => by kernel_rfl) ?_
                              by_cases c75 : rb_4 = 0
                              · have b76 : (rb_4 != 0) = false := bne_eq_false_iff_eq.mpr c75
                                refine N_env [(3, .pointer (some (Addr.mk b 0 none))), (4, .int .i64 ra), (6, .int .i32 ra_2), (8, .int .i64 ra_3), (10, .int .i64 ra_4), (11, .int .i64 rb_4), (12, .int .u64 rc), (107, .bool false), (110, .bool true), (117, .bool false)] (by simp only [b76, Bool.not_true, Bool.not_false]) ?_
                                refine N_run 5 [(3, .pointer (some (Addr.mk b 0 none))), (4, .int .i64 ra), (6, .int .i32 ra_2), (8, .int .i64 ra_3), (10, .int .i64 ra_4), (11, .int .i64 rb_4), (12, .int .u64 rc), (122, .bool (rc != 0))] (fun w => by kernel_rfl) ?_
                                refine N_end (by kernel_rfl) ?_
                                refine S_env [(3, .pointer (some (Addr.mk b 0 none))), (4, .int .i64 ra), (6, .int .i32 ra_2), (8, .int .i64 ra_3), (10, .int .i64 ra_4), (11, .int .i64 rb_4), (12, .int .u64 rc), (122, .bool (((((!rb) && (ra != 0)) || ((!rb_2) && (ra_2 != 0))) || ((!rb_3) && (ra_3 != 0))) || ((!rd) && (((ra_4 != 0) || (rb_4 != 0)) || (rc != 0)))))] (by simp only [b28, b66, b68, b70, b72, b74, b76, Bool.true_or, Bool.false_or, Bool.or_true, Bool.or_false, Bool.true_and, Bool.false_and, Bool.and_true, Bool.and_false, Bool.not_true, Bool.not_false, cond_true, cond_false]) ?_
                                exact hk
                              · have b76 : (rb_4 != 0) = true := bne_iff_ne.mpr c75
                                refine N_env [(3, .pointer (some (Addr.mk b 0 none))), (4, .int .i64 ra), (6, .int .i32 ra_2), (8, .int .i64 ra_3), (10, .int .i64 ra_4), (11, .int .i64 rb_4), (12, .int .u64 rc), (107, .bool false), (110, .bool true), (117, .bool true)] (by simp only [b76, Bool.not_true, Bool.not_false]) ?_
                                refine N_run 5 [(3, .pointer (some (Addr.mk b 0 none))), (4, .int .i64 ra), (6, .int .i32 ra_2), (8, .int .i64 ra_3), (10, .int .i64 ra_4), (11, .int .i64 rb_4), (12, .int .u64 rc), (122, .bool true)] (fun w => by kernel_rfl) ?_
                                refine N_end (by kernel_rfl) ?_
                                refine S_env [(3, .pointer (some (Addr.mk b 0 none))), (4, .int .i64 ra), (6, .int .i32 ra_2), (8, .int .i64 ra_3), (10, .int .i64 ra_4), (11, .int .i64 rb_4), (12, .int .u64 rc), (122, .bool (((((!rb) && (ra != 0)) || ((!rb_2) && (ra_2 != 0))) || ((!rb_3) && (ra_3 != 0))) || ((!rd) && (((ra_4 != 0) || (rb_4 != 0)) || (rc != 0)))))] (by simp only [b28, b66, b68, b70, b72, b74, b76, Bool.true_or, Bool.false_or, Bool.or_true, Bool.or_false, Bool.true_and, Bool.false_and, Bool.and_true, Bool.and_false, Bool.not_true, Bool.not_false, cond_true, cond_false]) ?_
                                exact hk
                            · have b74 : (ra_4 != 0) = true := bne_iff_ne.mpr c73
                              refine N_env [(3, .pointer (some (Addr.mk b 0 none))), (4, .int .i64 ra), (6, .int .i32 ra_2), (8, .int .i64 ra_3), (10, .int .i64 ra_4), (11, .int .i64 rb_4), (12, .int .u64 rc), (107, .bool false), (110, .bool true), (113, .bool true)] (by simp only [b74, Bool.not_true, Bool.not_false]) ?_
                              refine N_run 9 [(3, .pointer (some (Addr.mk b 0 none))), (4, .int .i64 ra), (6, .int .i32 ra_2), (8, .int .i64 ra_3), (10, .int .i64 ra_4), (11, .int .i64 rb_4), (12, .int .u64 rc), (122, .bool true)] (fun w => by kernel_rfl) ?_
                              refine N_end (by kernel_rfl) ?_
                              refine S_env [(3, .pointer (some (Addr.mk b 0 none))), (4, .int .i64 ra), (6, .int .i32 ra_2), (8, .int .i64 ra_3), (10, .int .i64 ra_4), (11, .int .i64 rb_4), (12, .int .u64 rc), (122, .bool (((((!rb) && (ra != 0)) || ((!rb_2) && (ra_2 != 0))) || ((!rb_3) && (ra_3 != 0))) || ((!rd) && (((ra_4 != 0) || (rb_4 != 0)) || (rc != 0)))))] (by simp only [b28, b66, b68, b70, b72, b74, Bool.true_or, Bool.false_or, Bool.or_true, Bool.or_false, Bool.true_and, Bool.false_and, Bool.and_true, Bool.and_false, Bool.not_true, Bool.not_false, cond_true, cond_false]) ?_
                              exact hk
                        · have b70 : (!rb_3) = true := congrArg Bool.not (eq_false_of_ne_true c69)
                          refine N_env [(3, .pointer (some (Addr.mk b 0 none))), (4, .int .i64 ra), (6, .int .i32 ra_2), (8, .int .i64 ra_3), (10, .int .i64 ra_4), (11, .int .i64 rb_4), (12, .int .u64 rc), (13, .bool rd), (99, .bool false), (102, .bool true)] (by simp only [b70, Bool.not_true, Bool.not_false]) ?_
                          refine N_run 5 [(3, .pointer (some (Addr.mk b 0 none))), (4, .int .i64 ra), (6, .int .i32 ra_2), (8, .int .i64 ra_3), (10, .int .i64 ra_4), (11, .int .i64 rb_4), (12, .int .u64 rc), (13, .bool rd), (107, .bool (ra_3 != 0))] (fun w => by kernel_rfl) ?_
                          by_cases c77 : ra_3 = 0
                          · have b78 : (ra_3 != 0) = false := bne_eq_false_iff_eq.mpr c77
                            refine N_env [(3, .pointer (some (Addr.mk b 0 none))), (4, .int .i64 ra), (6, .int .i32 ra_2), (8, .int .i64 ra_3), (10, .int .i64 ra_4), (11, .int .i64 rb_4), (12, .int .u64 rc), (13, .bool rd), (107, .bool false)] (by simp only [b78, Bool.not_true, Bool.not_false]) ?_
                            refine N_run 3 [(3, .pointer (some (Addr.mk b 0 none))), (4, .int .i64 ra), (6, .int .i32 ra_2), (8, .int .i64 ra_3), (10, .int .i64 ra_4), (11, .int .i64 rb_4), (12, .int .u64 rc), (107, .bool false), (110, .bool (!rd))] (fun w => by kernel_rfl) ?_
                            by_cases c79 : rd = true
                            · have b80 : (!rd) = false := congrArg Bool.not (c79)
                              refine N_env [(3, .pointer (some (Addr.mk b 0 none))), (4, .int .i64 ra), (6, .int .i32 ra_2), (8, .int .i64 ra_3), (10, .int .i64 ra_4), (11, .int .i64 rb_4), (12, .int .u64 rc), (107, .bool false), (110, .bool false)] (by simp only [b80, Bool.not_true, Bool.not_false]) ?_
                              refine N_run 12 [(3, .pointer (some (Addr.mk b 0 none))), (4, .int .i64 ra), (6, .int .i32 ra_2), (8, .int .i64 ra_3), (10, .int .i64 ra_4), (11, .int .i64 rb_4), (12, .int .u64 rc), (122, .bool false)] (fun w => by kernel_rfl) ?_
                              refine N_end (by kernel_rfl) ?_
                              refine S_env [(3, .pointer (some (Addr.mk b 0 none))), (4, .int .i64 ra), (6, .int .i32 ra_2), (8, .int .i64 ra_3), (10, .int .i64 ra_4), (11, .int .i64 rb_4), (12, .int .u64 rc), (122, .bool (((((!rb) && (ra != 0)) || ((!rb_2) && (ra_2 != 0))) || ((!rb_3) && (ra_3 != 0))) || ((!rd) && (((ra_4 != 0) || (rb_4 != 0)) || (rc != 0)))))] (by simp only [b28, b66, b68, b70, b78, b80, Bool.true_or, Bool.false_or, Bool.or_true, Bool.or_false, Bool.true_and, Bool.false_and, Bool.and_true, Bool.and_false, Bool.not_true, Bool.not_false, cond_true, cond_false]) ?_
                              exact hk
                            · have b80 : (!rd) = true := congrArg Bool.not (eq_false_of_ne_true c79)
                              refine N_env [(3, .pointer (some (Addr.mk b 0 none))), (4, .int .i64 ra), (6, .int .i32 ra_2), (8, .int .i64 ra_3), (10, .int .i64 ra_4), (11, .int .i64 rb_4), (12, .int .u64 rc), (107, .bool false), (110, .bool true)] (by simp only [b80, Bool.not_true, Bool.not_false]) ?_
                              refine N_run 3 [(3, .pointer (some (Addr.mk b 0 none))), (4, .int .i64 ra), (6, .int .i32 ra_2), (8, .int .i64 ra_3), (10, .int .i64 ra_4), (11, .int .i64 rb_4), (12, .int .u64 rc), (107, .bool false), (110, .bool true), (113, .bool (ra_4 != 0))] (fun w => by kernel_rfl) ?_
                              by_cases c81 : ra_4 = 0
                              · have b82 : (ra_4 != 0) = false := bne_eq_false_iff_eq.mpr c81
                                refine N_env [(3, .pointer (some (Addr.mk b 0 none))), (4, .int .i64 ra), (6, .int .i32 ra_2), (8, .int .i64 ra_3), (10, .int .i64 ra_4), (11, .int .i64 rb_4), (12, .int .u64 rc), (107, .bool false), (110, .bool true), (113, .bool false)] (by simp only [b82, Bool.not_true, Bool.not_false]) ?_
                                refine N_run 4 [(3, .pointer (some (Addr.mk b 0 none))), (4, .int .i64 ra), (6, .int .i32 ra_2), (8, .int .i64 ra_3), (10, .int .i64 ra_4), (11, .int .i64 rb_4), (12, .int .u64 rc), (107, .bool false), (110, .bool true), (117, .bool (rb_4 != 0))] (fun w => by kernel_rfl) ?_
                                by_cases c83 : rb_4 = 0
                                · have b84 : (rb_4 != 0) = false := bne_eq_false_iff_eq.mpr c83
                                  refine N_env [(3, .pointer (some (Addr.mk b 0 none))), (4, .int .i64 ra), (6, .int .i32 ra_2), (8, .int .i64 ra_3), (10, .int .i64 ra_4), (11, .int .i64 rb_4), (12, .int .u64 rc), (107, .bool false), (110, .bool true), (117, .bool false)] (by simp only [b84, Bool.not_true, Bool.not_false]) ?_
                                  refine N_run 5 [(3, .pointer (some (Addr.mk b 0 none))), (4, .int .i64 ra), (6, .int .i32 ra_2), (8, .int .i64 ra_3), (10, .int .i64 ra_4), (11, .int .i64 rb_4), (12, .int .u64 rc), (122, .bool (rc != 0))] (fun w => by kernel_rfl) ?_
                                  refine N_end (by kernel_rfl) ?_
                                  refine S_env [(3, .pointer (some (Addr.mk b 0 none))), (4, .int .i64 ra), (6, .int .i32 ra_2), (8, .int .i64 ra_3), (10, .int .i64 ra_4), (11, .int .i64 rb_4), (12, .int .u64 rc), (122, .bool (((((!rb) && (ra != 0)) || ((!rb_2) && (ra_2 != 0))) || ((!rb_3) && (ra_3 != 0))) || ((!rd) && (((ra_4 != 0) || (rb_4 != 0)) || (rc != 0)))))] (by simp only [b28, b66, b68, b70, b78, b80, b82, b84, Bool.true_or, Bool.false_or, Bool.or_true, Bool.or_false, Bool.true_and, Bool.false_and, Bool.and_true, Bool.and_false, Bool.not_true, Bool.not_false, cond_true, cond_false]) ?_
                                  exact hk
                                · have b84 : (rb_4 != 0) = true := bne_iff_ne.mpr c83
                                  refine N_env [(3, .pointer (some (Addr.mk b 0 none))), (4, .int .i64 ra), (6, .int .i32 ra_2), (8, .int .i64 ra_3), (10, .int .i64 ra_4), (11, .int .i64 rb_4), (12, .int .u64 rc), (107, .bool false), (110, .bool true), (117, .bool true)] (by simp only [b84, Bool.not_true, Bool.not_false]) ?_
                                  refine N_run 5 [(3, .pointer (some (Addr.mk b 0 none))), (4, .int .i64 ra), (6, .int .i32 ra_2), (8, .int .i64 ra_3), (10, .int .i64 ra_4), (11, .int .i64 rb_4), (12, .int .u64 rc), (122, .bool true)] (fun w => by kernel_rfl) ?_
                                  refine N_end (by kernel_rfl) ?_
                                  refine S_env [(3, .pointer (some (Addr.mk b 0 none))), (4, .int .i64 ra), (6, .int .i32 ra_2), (8, .int .i64 ra_3), (10, .int .i64 ra_4), (11, .int .i64 rb_4), (12, .int .u64 rc), (122, .bool (((((!rb) && (ra != 0)) || ((!rb_2) && (ra_2 != 0))) || ((!rb_3) && (ra_3 != 0))) || ((!rd) && (((ra_4 != 0) || (rb_4 != 0)) || (rc != 0)))))] (by simp only [b28, b66, b68, b70, b78, b80, b82, b84, Bool.true_or, Bool.false_or, Bool.or_true, Bool.or_false, Bool.true_and, Bool.false_and, Bool.and_true, Bool.and_false, Bool.not_true, Bool.not_false, cond_true, cond_false]) ?_
                                  exact hk
                              · have b82 : (ra_4 != 0) = true := bne_iff_ne.mpr c81
                                refine N_env [(3, .pointer (some (Addr.mk b 0 none))), (4, .int .i64 ra), (6, .int .i32 ra_2), (8, .int .i64 ra_3), (10, .int .i64 ra_4), (11, .int .i64 rb_4), (12, .int .u64 rc), (107, .bool false), (110, .bool true), (113, .bool true)] (by simp only [b82, Bool.not_true, Bool.not_false]) ?_
                                refine N_run 9 [(3, .pointer (some (Addr.mk b 0 none))), (4, .int .i64 ra), (6, .int .i32 ra_2), (8, .int .i64 ra_3), (10, .int .i64 ra_4), (11, .int .i64 rb_4), (12, .int .u64 rc), (122, .bool true)] (fun w => by kernel_rfl) ?_
                                refine N_end (by kernel_rfl) ?_
                                refine S_env [(3, .pointer (some (Addr.mk b 0 none))), (4, .int .i64 ra), (6, .int .i32 ra_2), (8, .int .i64 ra_3), (10, .int .i64 ra_4), (11, .int .i64 rb_4), (12, .int .u64 rc), (122, .bool (((((!rb) && (ra != 0)) || ((!rb_2) && (ra_2 != 0))) || ((!rb_3) && (ra_3 != 0))) || ((!rd) && (((ra_4 != 0) || (rb_4 != 0)) || (rc != 0)))))] (by simp only [b28, b66, b68, b70, b78, b80, b82, Bool.true_or, Bool.false_or, Bool.or_true, Bool.or_false, Bool.true_and, Bool.false_and, Bool.and_true, Bool.and_false, Bool.not_true, Bool.not_false, cond_true, cond_false]) ?_
                                exact hk
                          · have b78 : (ra_3 != 0) = true := bne_iff_ne.mpr c77
                            refine N_env [(3, .pointer (some (Addr.mk b 0 none))), (4, .int .i64 ra), (6, .int .i32 ra_2), (8, .int .i64 ra_3), (10, .int .i64 ra_4), (11, .int .i64 rb_4), (12, .int .u64 rc), (13, .bool rd), (107, .bool true)] (by simp only [b78, Bool.not_true, Bool.not_false]) ?_
                            refine N_run 15 [(3, .pointer (some (Addr.mk b 0 none))), (4, .int .i64 ra), (6, .int .i32 ra_2), (8, .int .i64 ra_3), (10, .int .i64 ra_4), (11, .int .i64 rb_4), (12, .int .u64 rc), (122, .bool true)] (fun w => by kernel_rfl) ?_
                            refine N_end (by kernel_rfl) ?_
                            refine S_env [(3, .pointer (some (Addr.mk b 0 none))), (4, .int .i64 ra), (6, .int .i32 ra_2), (8, .int .i64 ra_3), (10, .int .i64 ra_4), (11, .int .i64 rb_4), (12, .int .u64 rc), (122, .bool (((((!rb) && (ra != 0)) || ((!rb_2) && (ra_2 != 0))) || ((!rb_3) && (ra_3 != 0))) || ((!rd) && (((ra_4 != 0) || (rb_4 != 0)) || (rc != 0)))))] (by simp only [b28, b66, b68, b70, b78, Bool.true_or, Bool.false_or, Bool.or_true, Bool.or_false, Bool.true_and, Bool.false_and, Bool.and_true, Bool.and_false, Bool.not_true, Bool.not_false, cond_true, cond_false]) ?_
                            exact hk
                      · have b68 : (!rb_2) = true := congrArg Bool.not (eq_false_of_ne_true c67)
                        refine N_env [(3, .pointer (some (Addr.mk b 0 none))), (4, .int .i64 ra), (6, .int .i32 ra_2), (8, .int .i64 ra_3), (9, .bool rb_3), (10, .int .i64 ra_4), (11, .int .i64 rb_4), (12, .int .u64 rc), (13, .bool rd), (91, .bool false), (94, .bool true)] (by simp only [b68, Bool.not_true, Bool.not_false]) ?_
                        refine N_run 5 [(3, .pointer (some (Addr.mk b 0 none))), (4, .int .i64 ra), (6, .int .i32 ra_2), (8, .int .i64 ra_3), (9, .bool rb_3), (10, .int .i64 ra_4), (11, .int .i64 rb_4), (12, .int .u64 rc), (13, .bool rd), (99, .bool (ra_2 != 0))] (fun w => by kernel_rfl) ?_
                        by_cases c85 : ra_2 = 0
                        · have b86 : (ra_2 != 0) = false := bne_eq_false_iff_eq.mpr c85
                          refine N_env [(3, .pointer (some (Addr.mk b 0 none))), (4, .int .i64 ra), (6, .int .i32 ra_2), (8, .int .i64 ra_3), (9, .bool rb_3), (10, .int .i64 ra_4), (11, .int .i64 rb_4), (12, .int .u64 rc), (13, .bool rd), (99, .bool false)] (by simp only [b86, Bool.not_true, Bool.not_false]) ?_
                          refine N_run 3 [(3, .pointer (some (Addr.mk b 0 none))), (4, .int .i64 ra), (6, .int .i32 ra_2), (8, .int .i64 ra_3), (10, .int .i64 ra_4), (11, .int .i64 rb_4), (12, .int .u64 rc), (13, .bool rd), (99, .bool false), (102, .bool (!rb_3))] (fun w => by kernel_rfl) ?_
                          by_cases c87 : rb_3 = true
                          · have b88 : (!rb_3) = false := congrArg Bool.not (c87)
                            refine N_env [(3, .pointer (some (Addr.mk b 0 none))), (4, .int .i64 ra), (6, .int .i32 ra_2), (8, .int .i64 ra_3), (10, .int .i64 ra_4), (11, .int .i64 rb_4), (12, .int .u64 rc), (13, .bool rd), (99, .bool false), (102, .bool false)] (by simp only [b88, Bool.not_true, Bool.not_false]) ?_
                            refine N_run 8 [(3, .pointer (some (Addr.mk b 0 none))), (4, .int .i64 ra), (6, .int .i32 ra_2), (8, .int .i64 ra_3), (10, .int .i64 ra_4), (11, .int .i64 rb_4), (12, .int .u64 rc), (107, .bool false), (110, .bool (!rd))] (fun w => by kernel_rfl) ?_
                            by_cases c89 : rd = true
                            · have b90 : (!rd) = false := congrArg Bool.not (c89)
                              refine N_env [(3, .pointer (some (Addr.mk b 0 none))), (4, .int .i64 ra), (6, .int .i32 ra_2), (8, .int .i64 ra_3), (10, .int .i64 ra_4), (11, .int .i64 rb_4), (12, .int .u64 rc), (107, .bool false), (110, .bool false)] (by simp only [b90, Bool.not_true, Bool.not_false]) ?_
                              refine N_run 12 [(3, .pointer (some (Addr.mk b 0 none))), (4, .int .i64 ra), (6, .int .i32 ra_2), (8, .int .i64 ra_3), (10, .int .i64 ra_4), (11, .int .i64 rb_4), (12, .int .u64 rc), (122, .bool false)] (fun w => by kernel_rfl) ?_
                              refine N_end (by kernel_rfl) ?_
                              refine S_env [(3, .pointer (some (Addr.mk b 0 none))), (4, .int .i64 ra), (6, .int .i32 ra_2), (8, .int .i64 ra_3), (10, .int .i64 ra_4), (11, .int .i64 rb_4), (12, .int .u64 rc), (122, .bool (((((!rb) && (ra != 0)) || ((!rb_2) && (ra_2 != 0))) || ((!rb_3) && (ra_3 != 0))) || ((!rd) && (((ra_4 != 0) || (rb_4 != 0)) || (rc != 0)))))] (by simp only [b28, b66, b68, b86, b88, b90, Bool.true_or, Bool.false_or, Bool.or_true, Bool.or_false, Bool.true_and, Bool.false_and, Bool.and_true, Bool.and_false, Bool.not_true, Bool.not_false, cond_true, cond_false]) ?_
                              exact hk
                            · have b90 : (!rd) = true := congrArg Bool.not (eq_false_of_ne_true c89)
                              refine N_env [(3, .pointer (some (Addr.mk b 0 none))), (4, .int .i64 ra), (6, .int .i32 ra_2), (8, .int .i64 ra_3), (10, .int .i64 ra_4), (11, .int .i64 rb_4), (12, .int .u64 rc), (107, .bool false), (110, .bool true)] (by simp only [b90, Bool.not_true, Bool.not_false]) ?_
                              refine N_run 3 [(3, .pointer (some (Addr.mk b 0 none))), (4, .int .i64 ra), (6, .int .i32 ra_2), (8, .int .i64 ra_3), (10, .int .i64 ra_4), (11, .int .i64 rb_4), (12, .int .u64 rc), (107, .bool false), (110, .bool true), (113, .bool (ra_4 != 0))] (fun w => by kernel_rfl) ?_
                              by_cases c91 : ra_4 = 0
                              · have b92 : (ra_4 != 0) = false := bne_eq_false_iff_eq.mpr c91
                                refine N_env [(3, .pointer (some (Addr.mk b 0 none))), (4, .int .i64 ra), (6, .int .i32 ra_2), (8, .int .i64 ra_3), (10, .int .i64 ra_4), (11, .int .i64 rb_4), (12, .int .u64 rc), (107, .bool false), (110, .bool true), (113, .bool false)] (by simp only [b92, Bool.not_true, Bool.not_false]) ?_
                                refine N_run 4 [(3, .pointer (some (Addr.mk b 0 none))), (4, .int .i64 ra), (6, .int .i32 ra_2), (8, .int .i64 ra_3), (10, .int .i64 ra_4), (11, .int .i64 rb_4), (12, .int .u64 rc), (107, .bool false), (110, .bool true), (117, .bool (rb_4 != 0))] (fun w => by kernel_rfl) ?_
                                by_cases c93 : rb_4 = 0
                                · have b94 : (rb_4 != 0) = false := bne_eq_false_iff_eq.mpr c93
                                  refine N_env [(3, .pointer (some (Addr.mk b 0 none))), (4, .int .i64 ra), (6, .int .i32 ra_2), (8, .int .i64 ra_3), (10, .int .i64 ra_4), (11, .int .i64 rb_4), (12, .int .u64 rc), (107, .bool false), (110, .bool true), (117, .bool false)] (by simp only [b94, Bool.not_true, Bool.not_false]) ?_
                                  refine N_run 5 [(3, .pointer (some (Addr.mk b 0 none))), (4, .int .i64 ra), (6, .int .i32 ra_2), (8, .int .i64 ra_3), (10, .int .i64 ra_4), (11, .int .i64 rb_4), (12, .int .u64 rc), (122, .bool (rc != 0))] (fun w => by kernel_rfl) ?_
                                  refine N_end (by kernel_rfl) ?_
                                  refine S_env [(3, .pointer (some (Addr.mk b 0 none))), (4, .int .i64 ra), (6, .int .i32 ra_2), (8, .int .i64 ra_3), (10, .int .i64 ra_4), (11, .int .i64 rb_4), (12, .int .u64 rc), (122, .bool (((((!rb) && (ra != 0)) || ((!rb_2) && (ra_2 != 0))) || ((!rb_3) && (ra_3 != 0))) || ((!rd) && (((ra_4 != 0) || (rb_4 != 0)) || (rc != 0)))))] (by simp only [b28, b66, b68, b86, b88, b90, b92, b94, Bool.true_or, Bool.false_or, Bool.or_true, Bool.or_false, Bool.true_and, Bool.false_and, Bool.and_true, Bool.and_false, Bool.not_true, Bool.not_false, cond_true, cond_false]) ?_
                                  exact hk
                                · have b94 : (rb_4 != 0) = true := bne_iff_ne.mpr c93
                                  refine N_env [(3, .pointer (some (Addr.mk b 0 none))), (4, .int .i64 ra), (6, .int .i32 ra_2), (8, .int .i64 ra_3), (10, .int .i64 ra_4), (11, .int .i64 rb_4), (12, .int .u64 rc), (107, .bool false), (110, .bool true), (117, .bool true)] (by simp only [b94, Bool.not_true, Bool.not_false]) ?_
                                  refine N_run 5 [(3, .pointer (some (Addr.mk b 0 none))), (4, .int .i64 ra), (6, .int .i32 ra_2), (8, .int .i64 ra_3), (10, .int .i64 ra_4), (11, .int .i64 rb_4), (12, .int .u64 rc), (122, .bool true)] (fun w => by kernel_rfl) ?_
                                  refine N_end (by kernel_rfl) ?_
                                  refine S_env [(3, .pointer (some (Addr.mk b 0 none))), (4, .int .i64 ra), (6, .int .i32 ra_2), (8, .int .i64 ra_3), (10, .int .i64 ra_4), (11, .int .i64 rb_4), (12, .int .u64 rc), (122, .bool (((((!rb) && (ra != 0)) || ((!rb_2) && (ra_2 != 0))) || ((!rb_3) && (ra_3 != 0))) || ((!rd) && (((ra_4 != 0) || (rb_4 != 0)) || (rc != 0)))))] (by simp only [b28, b66, b68, b86, b88, b90, b92, b94, Bool.true_or, Bool.false_or, Bool.or_true, Bool.or_false, Bool.true_and, Bool.false_and, Bool.and_true, Bool.and_false, Bool.not_true, Bool.not_false, cond_true, cond_false]) ?_
                                  exact hk
                              · have b92 : (ra_4 != 0) = true := bne_iff_ne.mpr c91
                                refine N_env [(3, .pointer (some (Addr.mk b 0 none))), (4, .int .i64 ra), (6, .int .i32 ra_2), (8, .int .i64 ra_3), (10, .int .i64 ra_4), (11, .int .i64 rb_4), (12, .int .u64 rc), (107, .bool false), (110, .bool true), (113, .bool true)] (by simp only [b92, Bool.not_true, Bool.not_false]) ?_
                                refine N_run 9 [(3, .pointer (some (Addr.mk b 0 none))), (4, .int .i64 ra), (6, .int .i32 ra_2), (8, .int .i64 ra_3), (10, .int .i64 ra_4), (11, .int .i64 rb_4), (12, .int .u64 rc), (122, .bool true)] (fun w => by kernel_rfl) ?_
                                refine N_end (by kernel_rfl) ?_
                                refine S_env [(3, .pointer (some (Addr.mk b 0 none))), (4, .int .i64 ra), (6, .int .i32 ra_2), (8, .int .i64 ra_3), (10, .int .i64 ra_4), (11, .int .i64 rb_4), (12, .int .u64 rc), (122, .bool (((((!rb) && (ra != 0)) || ((!rb_2) && (ra_2 != 0))) || ((!rb_3) && (ra_3 != 0))) || ((!rd) && (((ra_4 != 0) || (rb_4 != 0)) || (rc != 0)))))] (by simp only [b28, b66, b68, b86, b88, b90, b92, Bool.true_or, Bool.false_or, Bool.or_true, Bool.or_false, Bool.true_and, Bool.false_and, Bool.and_true, Bool.and_false, Bool.not_true, Bool.not_false, cond_true, cond_false]) ?_
                                exact hk
                          · have b88 : (!rb_3) = true := congrArg Bool.not (eq_false_of_ne_true c87)
                            refine N_env [(3, .pointer (some (Addr.mk b 0 none))), (4, .int .i64 ra), (6, .int .i32 ra_2), (8, .int .i64 ra_3), (10, .int .i64 ra_4), (11, .int .i64 rb_4), (12, .int .u64 rc), (13, .bool rd), (99, .bool false), (102, .bool true)] (by simp only [b88, Bool.not_true, Bool.not_false]) ?_
                            refine N_run 5 [(3, .pointer (some (Addr.mk b 0 none))), (4, .int .i64 ra), (6, .int .i32 ra_2), (8, .int .i64 ra_3), (10, .int .i64 ra_4), (11, .int .i64 rb_4), (12, .int .u64 rc), (13, .bool rd), (107, .bool (ra_3 != 0))] (fun w => by kernel_rfl) ?_
                            by_cases c95 : ra_3 = 0
                            · have b96 : (ra_3 != 0) = false := bne_eq_false_iff_eq.mpr c95
                              refine N_env [(3, .pointer (some (Addr.mk b 0 none))), (4, .int .i64 ra), (6, .int .i32 ra_2), (8, .int .i64 ra_3), (10, .int .i64 ra_4), (11, .int .i64 rb_4), (12, .int .u64 rc), (13, .bool rd), (107, .bool false)] (by simp only [b96, Bool.not_true, Bool.not_false]) ?_
                              refine N_run 3 [(3, .pointer (some (Addr.mk b 0 none))), (4, .int .i64 ra), (6, .int .i32 ra_2), (8, .int .i64 ra_3), (10, .int .i64 ra_4), (11, .int .i64 rb_4), (12, .int .u64 rc), (107, .bool false), (110, .bool (!rd))] (fun w => by kernel_rfl) ?_
                              by_cases c97 : rd = true
                              · have b98 : (!rd) = false := congrArg Bool.not (c97)
                                refine N_env [(3, .pointer (some (Addr.mk b 0 none))), (4, .int .i64 ra), (6, .int .i32 ra_2), (8, .int .i64 ra_3), (10, .int .i64 ra_4), (11, .int .i64 rb_4), (12, .int .u64 rc), (107, .bool false), (110, .bool false)] (by simp only [b98, Bool.not_true, Bool.not_false]) ?_
                                refine N_run 12 [(3, .pointer (some (Addr.mk b 0 none))), (4, .int .i64 ra), (6, .int .i32 ra_2), (8, .int .i64 ra_3), (10, .int .i64 ra_4), (11, .int .i64 rb_4), (12, .int .u64 rc), (122, .bool false)] (fun w => by kernel_rfl) ?_
                                refine N_end (by kernel_rfl) ?_
                                refine S_env [(3, .pointer (some (Addr.mk b 0 none))), (4, .int .i64 ra), (6, .int .i32 ra_2), (8, .int .i64 ra_3), (10, .int .i64 ra_4), (11, .int .i64 rb_4), (12, .int .u64 rc), (122, .bool (((((!rb) && (ra != 0)) || ((!rb_2) && (ra_2 != 0))) || ((!rb_3) && (ra_3 != 0))) || ((!rd) && (((ra_4 != 0) || (rb_4 != 0)) || (rc != 0)))))] (by simp only [b28, b66, b68, b86, b88, b96, b98, Bool.true_or, Bool.false_or, Bool.or_true, Bool.or_false, Bool.true_and, Bool.false_and, Bool.and_true, Bool.and_false, Bool.not_true, Bool.not_false, cond_true, cond_false]) ?_
                                exact hk
                              · have b98 : (!rd) = true := congrArg Bool.not (eq_false_of_ne_true c97)
                                refine N_env [(3, .pointer (some (Addr.mk b 0 none))), (4, .int .i64 ra), (6, .int .i32 ra_2), (8, .int .i64 ra_3), (10, .int .i64 ra_4), (11, .int .i64 rb_4), (12, .int .u64 rc), (107, .bool false), (110, .bool true)] (by simp only [b98, Bool.not_true, Bool.not_false]) ?_
                                refine N_run 3 [(3, .pointer (some (Addr.mk b 0 none))), (4, .int .i64 ra), (6, .int .i32 ra_2), (8, .int .i64 ra_3), (10, .int .i64 ra_4), (11, .int .i64 rb_4), (12, .int .u64 rc), (107, .bool false), (110, .bool true), (113, .bool (ra_4 != 0))] (fun w => by kernel_rfl) ?_
                                by_cases c99 : ra_4 = 0
                                · have b100 : (ra_4 != 0) = false := bne_eq_false_iff_eq.mpr c99
                                  refine N_env [(3, .pointer (some (Addr.mk b 0 none))), (4, .int .i64 ra), (6, .int .i32 ra_2), (8, .int .i64 ra_3), (10, .int .i64 ra_4), (11, .int .i64 rb_4), (12, .int .u64 rc), (107, .bool false), (110, .bool true), (113, .bool false)] (by simp only [b100, Bool.not_true, Bool.not_false]) ?_
                                  refine N_run 4 [(3, .pointer (some (Addr.mk b 0 none))), (4, .int .i64 ra), (6, .int .i32 ra_2), (8, .int .i64 ra_3), (10, .int .i64 ra_4), (11, .int .i64 rb_4), (12, .int .u64 rc), (107, .bool false), (110, .bool true), (117, .bool (rb_4 != 0))] (fun w => by kernel_rfl) ?_
                                  by_cases c101 : rb_4 = 0
                                  · have b102 : (rb_4 != 0) = false := bne_eq_false_iff_eq.mpr c101
                                    refine N_env [(3, .pointer (some (Addr.mk b 0 none))), (4, .int .i64 ra), (6, .int .i32 ra_2), (8, .int .i64 ra_3), (10, .int .i64 ra_4), (11, .int .i64 rb_4), (12, .int .u64 rc), (107, .bool false), (110, .bool true), (117, .bool false)] (by simp only [b102, Bool.not_true, Bool.not_false]) ?_
                                    refine N_run 5 [(3, .pointer (some (Addr.mk b 0 none))), (4, .int .i64 ra), (6, .int .i32 ra_2), (8, .int .i64 ra_3), (10, .int .i64 ra_4), (11, .int .i64 rb_4), (12, .int .u64 rc), (122, .bool (rc != 0))] (fun w => by kernel_rfl) ?_
                                    refine N_end (by kernel_rfl) ?_
                                    refine S_env [(3, .pointer (some (Addr.mk b 0 none))), (4, .int .i64 ra), (6, .int .i32 ra_2), (8, .int .i64 ra_3), (10, .int .i64 ra_4), (11, .int .i64 rb_4), (12, .int .u64 rc), (122, .bool (((((!rb) && (ra != 0)) || ((!rb_2) && (ra_2 != 0))) || ((!rb_3) && (ra_3 != 0))) || ((!rd) && (((ra_4 != 0) || (rb_4 != 0)) || (rc != 0)))))] (by simp only [b28, b66, b68, b86, b88, b96, b98, b100, b102, Bool.true_or, Bool.false_or, Bool.or_true, Bool.or_false, Bool.true_and, Bool.false_and, Bool.and_true, Bool.and_false, Bool.not_true, Bool.not_false, cond_true, cond_false]) ?_
                                    exact hk
                                  · have b102 : (rb_4 != 0) = true := bne_iff_ne.mpr c101
                                    refine N_env [(3, .pointer (some (Addr.mk b 0 none))), (4, .int .i64 ra), (6, .int .i32 ra_2), (8, .int .i64 ra_3), (10, .int .i64 ra_4), (11, .int .i64 rb_4), (12, .int .u64 rc), (107, .bool false), (110, .bool true), (117, .bool true)] (by simp only [b102, Bool.not_true, Bool.not_false]) ?_
                                    refine N_run 5 [(3, .pointer (some (Addr.mk b 0 none))), (4, .int .i64 ra), (6, .int .i32 ra_2), (8, .int .i64 ra_3), (10, .int .i64 ra_4), (11, .int .i64 rb_4), (12, .int .u64 rc), (122, .bool true)] (fun w => by kernel_rfl) ?_
                                    refine N_end (by kernel_rfl) ?_
                                    refine S_env [(3, .pointer (some (Addr.mk b 0 none))), (4, .int .i64 ra), (6, .int .i32 ra_2), (8, .int .i64 ra_3), (10, .int .i64 ra_4), (11, .int .i64 rb_4), (12, .int .u64 rc), (122, .bool (((((!rb) && (ra != 0)) || ((!rb_2) && (ra_2 != 0))) || ((!rb_3) && (ra_3 != 0))) || ((!rd) && (((ra_4 != 0) || (rb_4 != 0)) || (rc != 0)))))] (by simp only [b28, b66, b68, b86, b88, b96, b98, b100, b102, Bool.true_or, Bool.false_or, Bool.or_true, Bool.or_false, Bool.true_and, Bool.false_and, Bool.and_true, Bool.and_false, Bool.not_true, Bool.not_false, cond_true, cond_false]) ?_
                                    exact hk
                                · have b100 : (ra_4 != 0) = true := bne_iff_ne.mpr c99
                                  refine N_env [(3, .pointer (some (Addr.mk b 0 none))), (4, .int .i64 ra), (6, .int .i32 ra_2), (8, .int .i64 ra_3), (10, .int .i64 ra_4), (11, .int .i64 rb_4), (12, .int .u64 rc), (107, .bool false), (110, .bool true), (113, .bool true)] (by simp only [b100, Bool.not_true, Bool.not_false]) ?_
                                  refine N_run 9 [(3, .pointer (some (Addr.mk b 0 none))), (4, .int .i64 ra), (6, .int .i32 ra_2), (8, .int .i64 ra_3), (10, .int .i64 ra_4), (11, .int .i64 rb_4), (12, .int .u64 rc), (122, .bool true)] (fun w => by kernel_rfl) ?_
                                  refine N_end (by kernel_rfl) ?_
                                  refine S_env [(3, .pointer (some (Addr.mk b 0 none))), (4, .int .i64 ra), (6, .int .i32 ra_2), (8, .int .i64 ra_3), (10, .int .i64 ra_4), (11, .int .i64 rb_4), (12, .int .u64 rc), (122, .bool (((((!rb) && (ra != 0)) || ((!rb_2) && (ra_2 != 0))) || ((!rb_3) && (ra_3 != 0))) || ((!rd) && (((ra_4 != 0) || (rb_4 != 0)) || (rc != 0)))))] (by simp only [b28, b66, b68, b86, b88, b96, b98, b100, Bool.true_or, Bool.false_or, Bool.or_true, Bool.or_false, Bool.true_and, Bool.false_and, Bool.and_true, Bool.and_false, Bool.not_true, Bool.not_false, cond_true, cond_false]) ?_
                                  exact hk
                            · have b96 : (ra_3 != 0) = true := bne_iff_ne.mpr c95
                              refine N_env [(3, .pointer (some (Addr.mk b 0 none))), (4, .int .i64 ra), (6, .int .i32 ra_2), (8, .int .i64 ra_3), (10, .int .i64 ra_4), (11, .int .i64 rb_4), (12, .int .u64 rc), (13, .bool rd), (107, .bool true)] (by simp only [b96, Bool.not_true, Bool.not_false]) ?_
                              refine N_run 15 [(3, .pointer (some (Addr.mk b 0 none))), (4, .int .i64 ra), (6, .int .i32 ra_2), (8, .int .i64 ra_3), (10, .int .i64 ra_4), (11, .int .i64 rb_4), (12, .int .u64 rc), (122, .bool true)] (fun w => by kernel_rfl) ?_
                              refine N_end (by kernel_rfl) ?_
                              refine S_env [(3, .pointer (some (Addr.mk b 0 none))), (4, .int .i64 ra), (6, .int .i32 ra_2), (8, .int .i64 ra_3), (10, .int .i64 ra_4), (11, .int .i64 rb_4), (12, .int .u64 rc), (122, .bool (((((!rb) && (ra != 0)) || ((!rb_2) && (ra_2 != 0))) || ((!rb_3) && (ra_3 != 0))) || ((!rd) && (((ra_4 != 0) || (rb_4 != 0)) || (rc != 0)))))] (by simp only [b28, b66, b68, b86, b88, b96, Bool.true_or, Bool.false_or, Bool.or_true, Bool.or_false, Bool.true_and, Bool.false_and, Bool.and_true, Bool.and_false, Bool.not_true, Bool.not_false, cond_true, cond_false]) ?_
                              exact hk
                        · have b86 : (ra_2 != 0) = true := bne_iff_ne.mpr c85
                          refine N_env [(3, .pointer (some (Addr.mk b 0 none))), (4, .int .i64 ra), (6, .int .i32 ra_2), (8, .int .i64 ra_3), (9, .bool rb_3), (10, .int .i64 ra_4), (11, .int .i64 rb_4), (12, .int .u64 rc), (13, .bool rd), (99, .bool true)] (by simp only [b86, Bool.not_true, Bool.not_false]) ?_
                          refine N_run 23 [(3, .pointer (some (Addr.mk b 0 none))), (4, .int .i64 ra), (6, .int .i32 ra_2), (8, .int .i64 ra_3), (10, .int .i64 ra_4), (11, .int .i64 rb_4), (12, .int .u64 rc), (122, .bool true)] (fun w => by kernel_rfl) ?_
                          refine N_end (by kernel_rfl) ?_
                          refine S_env [(3, .pointer (some (Addr.mk b 0 none))), (4, .int .i64 ra), (6, .int .i32 ra_2), (8, .int .i64 ra_3), (10, .int .i64 ra_4), (11, .int .i64 rb_4), (12, .int .u64 rc), (122, .bool (((((!rb) && (ra != 0)) || ((!rb_2) && (ra_2 != 0))) || ((!rb_3) && (ra_3 != 0))) || ((!rd) && (((ra_4 != 0) || (rb_4 != 0)) || (rc != 0)))))] (by simp only [b28, b66, b68, b86, Bool.true_or, Bool.false_or, Bool.or_true, Bool.or_false, Bool.true_and, Bool.false_and, Bool.and_true, Bool.and_false, Bool.not_true, Bool.not_false, cond_true, cond_false]) ?_
                          exact hk
                    · have b66 : (ra != 0) = true := bne_iff_ne.mpr c65
                      refine N_env [(3, .pointer (some (Addr.mk b 0 none))), (4, .int .i64 ra), (6, .int .i32 ra_2), (7, .bool rb_2), (8, .int .i64 ra_3), (9, .bool rb_3), (10, .int .i64 ra_4), (11, .int .i64 rb_4), (12, .int .u64 rc), (13, .bool rd), (91, .bool true)] (by simp only [b66, Bool.not_true, Bool.not_false]) ?_
                      refine N_run 31 [(3, .pointer (some (Addr.mk b 0 none))), (4, .int .i64 ra), (6, .int .i32 ra_2), (8, .int .i64 ra_3), (10, .int .i64 ra_4), (11, .int .i64 rb_4), (12, .int .u64 rc), (122, .bool true)] (fun w => by kernel_rfl) ?_
                      refine N_end (by kernel_rfl) ?_
                      refine S_env [(3, .pointer (some (Addr.mk b 0 none))), (4, .int .i64 ra), (6, .int .i32 ra_2), (8, .int .i64 ra_3), (10, .int .i64 ra_4), (11, .int .i64 rb_4), (12, .int .u64 rc), (122, .bool (((((!rb) && (ra != 0)) || ((!rb_2) && (ra_2 != 0))) || ((!rb_3) && (ra_3 != 0))) || ((!rd) && (((ra_4 != 0) || (rb_4 != 0)) || (rc != 0)))))] (by simp only [b28, b66, Bool.true_or, Bool.false_or, Bool.or_true, Bool.or_false, Bool.true_and, Bool.false_and, Bool.and_true, Bool.and_false, Bool.not_true, Bool.not_false, cond_true, cond_false]) ?_
                      exact hk
              · rw [if_neg c25] at h
                have b26 : (!(rd == (x_8 == 5))) = true := congrArg Bool.not (beq_eq_false_iff_ne.mpr c25)
                refine S_env [(3, .pointer (some (Addr.mk b 0 none))), (4, .int .i64 ra), (5, .bool rb), (6, .int .i32 ra_2), (7, .bool rb_2), (8, .int .i64 ra_3), (9, .bool rb_3), (10, .int .i64 ra_4), (11, .int .i64 rb_4), (12, .int .u64 rc), (13, .bool rd), (84, .bool true)] (by simp only [b26, Bool.not_true, Bool.not_false]) ?_
                clear b26
                refine S_condT (.tmp 84) morainelaw01_WordTells.k23 morainelaw01_WordTells.k24 (by kernel_rfl) (by kernel_rfl) ?_
                refine S_seq morainelaw01_WordTells.k64 morainelaw01_WordTells.k65 (by kernel_rfl) ?_
                refine S_region 9 (Code.ops morainelaw01_WordTells.k64) (by kernel_rfl) ?_
                refine N_run 1 [(2, .bool false)] (fun w => by kernel_rfl) ?_
                refine N_end (by kernel_rfl) ?_
                refine S_then ?_
                refine S_ret (by kernel_rfl) ?_
                show At _ _ _ _ (Q .ret)
                exact S_done (fn := Try.f7) [.bool false] hQ (show ResOK _ _ _ [.tmp 2] _ from .tmp (by kernel_rfl) (.nil)) h
            · rw [if_neg c22] at h
              have b23 : (!(rb_3 == (x_7 == 2))) = true := congrArg Bool.not (beq_eq_false_iff_ne.mpr c22)
              refine N_env [(3, .pointer (some (Addr.mk b 0 none))), (4, .int .i64 ra), (5, .bool rb), (6, .int .i32 ra_2), (7, .bool rb_2), (8, .int .i64 ra_3), (9, .bool rb_3), (10, .int .i64 ra_4), (11, .int .i64 rb_4), (12, .int .u64 rc), (13, .bool rd), (78, .bool true)] (by simp only [b23, Bool.not_true, Bool.not_false]) ?_
              clear b23
              refine N_run 6 [(3, .pointer (some (Addr.mk b 0 none))), (4, .int .i64 ra), (5, .bool rb), (6, .int .i32 ra_2), (7, .bool rb_2), (8, .int .i64 ra_3), (9, .bool rb_3), (10, .int .i64 ra_4), (11, .int .i64 rb_4), (12, .int .u64 rc), (13, .bool rd), (84, .bool true)] (fun w => by kernel_rfl) ?_
              refine N_end (by kernel_rfl) ?_
              refine S_then ?_
              refine S_condT (.tmp 84) morainelaw01_WordTells.k23 morainelaw01_WordTells.k24 (by kernel_rfl) (by kernel_rfl) ?_
              refine S_seq morainelaw01_WordTells.k64 morainelaw01_WordTells.k65 (by kernel_rfl) ?_
              refine S_region 9 (Code.ops morainelaw01_WordTells.k64) (by kernel_rfl) ?_
              refine N_run 1 [(2, .bool false)] (fun w => by kernel_rfl) ?_
              refine N_end (by kernel_rfl) ?_
              refine S_then ?_
              refine S_ret (by kernel_rfl) ?_
              show At _ _ _ _ (Q .ret)
              exact S_done (fn := Try.f7) [.bool false] hQ (show ResOK _ _ _ [.tmp 2] _ from .tmp (by kernel_rfl) (.nil)) h
          · rw [if_neg c19] at h
            have b20 : (!(rb_2 == (x_6 == 4))) = true := congrArg Bool.not (beq_eq_false_iff_ne.mpr c19)
            refine N_env [(3, .pointer (some (Addr.mk b 0 none))), (4, .int .i64 ra), (5, .bool rb), (6, .int .i32 ra_2), (7, .bool rb_2), (8, .int .i64 ra_3), (9, .bool rb_3), (10, .int .i64 ra_4), (11, .int .i64 rb_4), (12, .int .u64 rc), (13, .bool rd), (71, .bool true)] (by simp only [b20, Bool.not_true, Bool.not_false]) ?_
            clear b20
            refine N_run 13 [(3, .pointer (some (Addr.mk b 0 none))), (4, .int .i64 ra), (5, .bool rb), (6, .int .i32 ra_2), (7, .bool rb_2), (8, .int .i64 ra_3), (9, .bool rb_3), (10, .int .i64 ra_4), (11, .int .i64 rb_4), (12, .int .u64 rc), (13, .bool rd), (84, .bool true)] (fun w => by kernel_rfl) ?_
            refine N_end (by kernel_rfl) ?_
            refine S_then ?_
            refine S_condT (.tmp 84) morainelaw01_WordTells.k23 morainelaw01_WordTells.k24 (by kernel_rfl) (by kernel_rfl) ?_
            refine S_seq morainelaw01_WordTells.k64 morainelaw01_WordTells.k65 (by kernel_rfl) ?_
            refine S_region 9 (Code.ops morainelaw01_WordTells.k64) (by kernel_rfl) ?_
            refine N_run 1 [(2, .bool false)] (fun w => by kernel_rfl) ?_
            refine N_end (by kernel_rfl) ?_
            refine S_then ?_
            refine S_ret (by kernel_rfl) ?_
            show At _ _ _ _ (Q .ret)
            exact S_done (fn := Try.f7) [.bool false] hQ (show ResOK _ _ _ [.tmp 2] _ from .tmp (by kernel_rfl) (.nil)) h
        · rw [if_neg c16] at h
          have b17 : (!(rb == (x_5 == 1))) = true := congrArg Bool.not (beq_eq_false_iff_ne.mpr c16)
          refine N_env [(3, .pointer (some (Addr.mk b 0 none))), (4, .int .i64 ra), (5, .bool rb), (6, .int .i32 ra_2), (7, .bool rb_2), (8, .int .i64 ra_3), (9, .bool rb_3), (10, .int .i64 ra_4), (11, .int .i64 rb_4), (12, .int .u64 rc), (13, .bool rd), (64, .bool true)] (by simp only [b17, Bool.not_true, Bool.not_false]) ?_
          clear b17
          refine N_run 20 [(3, .pointer (some (Addr.mk b 0 none))), (4, .int .i64 ra), (5, .bool rb), (6, .int .i32 ra_2), (7, .bool rb_2), (8, .int .i64 ra_3), (9, .bool rb_3), (10, .int .i64 ra_4), (11, .int .i64 rb_4), (12, .int .u64 rc), (13, .bool rd), (84, .bool true)] (fun w => by kernel_rfl) ?_
          refine N_end (by kernel_rfl) ?_
          refine S_then ?_
          refine S_condT (.tmp 84) morainelaw01_WordTells.k23 morainelaw01_WordTells.k24 (by kernel_rfl) (by kernel_rfl) ?_
          refine S_seq morainelaw01_WordTells.k64 morainelaw01_WordTells.k65 (by kernel_rfl) ?_
          refine S_region 9 (Code.ops morainelaw01_WordTells.k64) (by kernel_rfl) ?_
          refine N_run 1 [(2, .bool false)] (fun w => by kernel_rfl) ?_
          refine N_end (by kernel_rfl) ?_
          refine S_then ?_
          refine S_ret (by kernel_rfl) ?_
          show At _ _ _ _ (Q .ret)
          exact S_done (fn := Try.f7) [.bool false] hQ (show ResOK _ _ _ [.tmp 2] _ from .tmp (by kernel_rfl) (.nil)) h
      · rw [if_neg c13] at h
        have b14 : (!(x_4 == (wv != 4))) = true := congrArg Bool.not (beq_eq_false_iff_ne.mpr c13)
        refine S_env [(3, .pointer (some (Addr.mk b 0 none))), (4, .int .i64 ra), (5, .bool rb), (6, .int .i32 ra_2), (7, .bool rb_2), (8, .int .i64 ra_3), (9, .bool rb_3), (10, .int .i64 ra_4), (11, .int .i64 rb_4), (12, .int .u64 rc), (13, .bool rd), (58, .bool true)] (by simp only [b14, Bool.not_true, Bool.not_false]) ?_
        clear b14
        refine S_condT (.tmp 58) morainelaw01_WordTells.k17 morainelaw01_WordTells.k18 (by kernel_rfl) (by kernel_rfl) ?_
        refine S_seq morainelaw01_WordTells.k66 morainelaw01_WordTells.k67 (by kernel_rfl) ?_
        refine S_region 7 (Code.ops morainelaw01_WordTells.k66) (by kernel_rfl) ?_
        refine N_run 1 [(2, .bool false)] (fun w => by kernel_rfl) ?_
        refine N_end (by kernel_rfl) ?_
        refine S_then ?_
        refine S_ret (by kernel_rfl) ?_
        show At _ _ _ _ (Q .ret)
        exact S_done (fn := Try.f7) [.bool false] hQ (show ResOK _ _ _ [.tmp 2] _ from .tmp (by kernel_rfl) (.nil)) h
    · rw [if_neg c10] at h
      have b11 : (x_3 != (IntKind.wrap .i64 (Int.tmod wv 8))) = true := bne_iff_ne.mpr c10
      refine G_env [(0, .int .u64 wv), (3, .pointer (some (Addr.mk b 0 none))), (4, .int .i64 ra), (5, .bool rb), (6, .int .i32 ra_2), (7, .bool rb_2), (8, .int .i64 ra_3), (9, .bool rb_3), (10, .int .i64 ra_4), (11, .int .i64 rb_4), (12, .int .u64 rc), (13, .bool rd), (52, .bool true)] (by simp only [b11, Bool.not_true, Bool.not_false]) ?_
      clear b11
      refine G_pass 15 (some 53) #[true, true, true, true, true, true, true, true, true, true, true, true, true, true, true, true, false, false, false, false, false] [(0, .int .u64 wv), (3, .pointer (some (Addr.mk b 0 none))), (4, .int .i64 ra), (5, .bool rb), (6, .int .i32 ra_2), (7, .bool rb_2), (8, .int .i64 ra_3), (9, .bool rb_3), (10, .int .i64 ra_4), (11, .int .i64 rb_4), (12, .int .u64 rc), (13, .bool rd), (52, .bool true), (53, undef)] (by kernel_rfl) (by kernel_rfl) (by kernel_rfl) (by kernel_rfl) (by kernel_rfl) (by kernel_rfl) (ps (by kernel_rfl)) ?_
      refine G_pass 16 (some 54) #[true, true, true, true, true, true, true, true, true, true, true, true, true, true, true, true, true, false, false, false, false] [(0, .int .u64 wv), (3, .pointer (some (Addr.mk b 0 none))), (4, .int .i64 ra), (5, .bool rb), (6, .int .i32 ra_2), (7, .bool rb_2), (8, .int .i64 ra_3), (9, .bool rb_3), (10, .int .i64 ra_4), (11, .int .i64 rb_4), (12, .int .u64 rc), (13, .bool rd), (52, .bool true), (54, undef)] (by kernel_rfl) (by kernel_rfl) (by kernel_rfl) (by kernel_rfl) (by kernel_rfl) (by kernel_rfl) (ps (by kernel_rfl)) ?_
      refine G_pass 17 (some 55) #[true, true, true, true, true, true, true, true, true, true, true, true, true, true, true, true, true, true, false, false, false] [(3, .pointer (some (Addr.mk b 0 none))), (4, .int .i64 ra), (5, .bool rb), (6, .int .i32 ra_2), (7, .bool rb_2), (8, .int .i64 ra_3), (9, .bool rb_3), (10, .int .i64 ra_4), (11, .int .i64 rb_4), (12, .int .u64 rc), (13, .bool rd), (52, .bool true), (54, undef), (55, undef)] (by kernel_rfl) (by kernel_rfl) (by kernel_rfl) (by kernel_rfl) (by kernel_rfl) (by kernel_rfl) (ps (by kernel_rfl)) ?_
      refine G_pass 18 (some 56) #[true, true, true, true, true, true, true, true, true, true, true, true, true, true, true, true, true, true, true, false, false] [(3, .pointer (some (Addr.mk b 0 none))), (4, .int .i64 ra), (5, .bool rb), (6, .int .i32 ra_2), (7, .bool rb_2), (8, .int .i64 ra_3), (9, .bool rb_3), (10, .int .i64 ra_4), (11, .int .i64 rb_4), (12, .int .u64 rc), (13, .bool rd), (52, .bool true), (54, undef), (56, undef)] (by kernel_rfl) (by kernel_rfl) (by kernel_rfl) (by kernel_rfl) (by kernel_rfl) (by kernel_rfl) (ps (by kernel_rfl)) ?_
      refine G_pass 19 (some 57) #[true, true, true, true, true, true, true, true, true, true, true, true, true, true, true, true, true, true, true, true, false] [(3, .pointer (some (Addr.mk b 0 none))), (4, .int .i64 ra), (5, .bool rb), (6, .int .i32 ra_2), (7, .bool rb_2), (8, .int .i64 ra_3), (9, .bool rb_3), (10, .int .i64 ra_4), (11, .int .i64 rb_4), (12, .int .u64 rc), (13, .bool rd), (52, .bool true), (57, undef)] (by kernel_rfl) (by kernel_rfl) (by kernel_rfl) (by kernel_rfl) (by kernel_rfl) (by kernel_rfl) (ps (by kernel_rfl)) ?_
      refine G_take 20 (some 58) (.bool true) #[true, true, true, true, true, true, true, true, true, true, true, true, true, true, true, true, true, true, true, true, true] [(3, .pointer (some (Addr.mk b 0 none))), (4, .int .i64 ra), (5, .bool rb), (6, .int .i32 ra_2), (7, .bool rb_2), (8, .int .i64 ra_3), (9, .bool rb_3), (10, .int .i64 ra_4), (11, .int .i64 rb_4), (12, .int .u64 rc), (13, .bool rd), (58, .bool true)] (pure (.value (.bool true)) : Sem Next) (fun w => by kernel_rfl) (fun _ _ _ _ _ => rfl) (by kernel_rfl) (by kernel_rfl) (by kernel_rfl) (by kernel_rfl) (by kernel_rfl) (ps (by kernel_rfl)) ?_
      refine G_sub [(3, .pointer (some (Addr.mk b 0 none))), (4, .int .i64 ra), (5, .bool rb), (6, .int .i32 ra_2), (7, .bool rb_2), (8, .int .i64 ra_3), (9, .bool rb_3), (10, .int .i64 ra_4), (11, .int .i64 rb_4), (12, .int .u64 rc), (13, .bool rd), (58, .bool true)] (sb (by kernel_rfl)) ?_
      refine G_end (by kernel_rfl) ?_
      refine S_then ?_
      refine S_condT (.tmp 58) morainelaw01_WordTells.k17 morainelaw01_WordTells.k18 (by kernel_rfl) (by kernel_rfl) ?_
      refine S_seq morainelaw01_WordTells.k66 morainelaw01_WordTells.k67 (by kernel_rfl) ?_
      refine S_region 7 (Code.ops morainelaw01_WordTells.k66) (by kernel_rfl) ?_
      refine N_run 1 [(2, .bool false)] (fun w => by kernel_rfl) ?_
      refine N_end (by kernel_rfl) ?_
      refine S_then ?_
      refine S_ret (by kernel_rfl) ?_
      show At _ _ _ _ (Q .ret)
      exact S_done (fn := Try.f7) [.bool false] hQ (show ResOK _ _ _ [.tmp 2] _ from .tmp (by kernel_rfl) (.nil)) h
  · rw [if_neg c7] at h
    have b8 : (!(x_2 == (x != 0))) = true := congrArg Bool.not (beq_eq_false_iff_ne.mpr c7)
    refine G_env [(0, .int .u64 wv), (3, .pointer (some (Addr.mk b 0 none))), (4, .int .i64 ra), (5, .bool rb), (6, .int .i32 ra_2), (7, .bool rb_2), (8, .int .i64 ra_3), (9, .bool rb_3), (10, .int .i64 ra_4), (11, .int .i64 rb_4), (12, .int .u64 rc), (13, .bool rd), (44, .bool true)] (by simp only [b8, Bool.not_true, Bool.not_false]) ?_
    clear b8
    refine G_pass 7 (some 45) #[true, true, true, true, true, true, true, true, false, false, false, false, false, false, false, false, false, false, false, false, false] [(0, .int .u64 wv), (3, .pointer (some (Addr.mk b 0 none))), (4, .int .i64 ra), (5, .bool rb), (6, .int .i32 ra_2), (7, .bool rb_2), (8, .int .i64 ra_3), (9, .bool rb_3), (10, .int .i64 ra_4), (11, .int .i64 rb_4), (12, .int .u64 rc), (13, .bool rd), (44, .bool true), (45, undef)] (by kernel_rfl) (by kernel_rfl) (by kernel_rfl) (by kernel_rfl) (by kernel_rfl) (by kernel_rfl) (ps (by kernel_rfl)) ?_
    refine G_pass 8 (some 46) #[true, true, true, true, true, true, true, true, true, false, false, false, false, false, false, false, false, false, false, false, false] [(0, .int .u64 wv), (3, .pointer (some (Addr.mk b 0 none))), (4, .int .i64 ra), (5, .bool rb), (6, .int .i32 ra_2), (7, .bool rb_2), (8, .int .i64 ra_3), (9, .bool rb_3), (10, .int .i64 ra_4), (11, .int .i64 rb_4), (12, .int .u64 rc), (13, .bool rd), (44, .bool true), (46, undef)] (by kernel_rfl) (by kernel_rfl) (by kernel_rfl) (by kernel_rfl) (by kernel_rfl) (by kernel_rfl) (ps (by kernel_rfl)) ?_
    refine G_pass 9 (some 47) #[true, true, true, true, true, true, true, true, true, true, false, false, false, false, false, false, false, false, false, false, false] [(0, .int .u64 wv), (3, .pointer (some (Addr.mk b 0 none))), (4, .int .i64 ra), (5, .bool rb), (6, .int .i32 ra_2), (7, .bool rb_2), (8, .int .i64 ra_3), (9, .bool rb_3), (10, .int .i64 ra_4), (11, .int .i64 rb_4), (12, .int .u64 rc), (13, .bool rd), (44, .bool true), (46, undef), (47, undef)] (by kernel_rfl) (by kernel_rfl) (by kernel_rfl) (by kernel_rfl) (by kernel_rfl) (by kernel_rfl) (ps (by kernel_rfl)) ?_
    refine G_pass 10 (some 48) #[true, true, true, true, true, true, true, true, true, true, true, false, false, false, false, false, false, false, false, false, false] [(0, .int .u64 wv), (3, .pointer (some (Addr.mk b 0 none))), (4, .int .i64 ra), (5, .bool rb), (6, .int .i32 ra_2), (7, .bool rb_2), (8, .int .i64 ra_3), (9, .bool rb_3), (10, .int .i64 ra_4), (11, .int .i64 rb_4), (12, .int .u64 rc), (13, .bool rd), (44, .bool true), (46, undef), (48, undef)] (by kernel_rfl) (by kernel_rfl) (by kernel_rfl) (by kernel_rfl) (by kernel_rfl) (by kernel_rfl) (ps (by kernel_rfl)) ?_
    refine G_pass 11 (some 49) #[true, true, true, true, true, true, true, true, true, true, true, true, false, false, false, false, false, false, false, false, false] [(0, .int .u64 wv), (3, .pointer (some (Addr.mk b 0 none))), (4, .int .i64 ra), (5, .bool rb), (6, .int .i32 ra_2), (7, .bool rb_2), (8, .int .i64 ra_3), (9, .bool rb_3), (10, .int .i64 ra_4), (11, .int .i64 rb_4), (12, .int .u64 rc), (13, .bool rd), (44, .bool true), (46, undef), (49, undef)] (by kernel_rfl) (by kernel_rfl) (by kernel_rfl) (by kernel_rfl) (by kernel_rfl) (by kernel_rfl) (ps (by kernel_rfl)) ?_
    refine G_pass 12 (some 50) #[true, true, true, true, true, true, true, true, true, true, true, true, true, false, false, false, false, false, false, false, false] [(0, .int .u64 wv), (3, .pointer (some (Addr.mk b 0 none))), (4, .int .i64 ra), (5, .bool rb), (6, .int .i32 ra_2), (7, .bool rb_2), (8, .int .i64 ra_3), (9, .bool rb_3), (10, .int .i64 ra_4), (11, .int .i64 rb_4), (12, .int .u64 rc), (13, .bool rd), (44, .bool true), (50, undef)] (by kernel_rfl) (by kernel_rfl) (by kernel_rfl) (by kernel_rfl) (by kernel_rfl) (by kernel_rfl) (ps (by kernel_rfl)) ?_
    refine G_take 13 (some 51) (.bool true) #[true, true, true, true, true, true, true, true, true, true, true, true, true, true, false, false, false, false, false, false, false] [(0, .int .u64 wv), (3, .pointer (some (Addr.mk b 0 none))), (4, .int .i64 ra), (5, .bool rb), (6, .int .i32 ra_2), (7, .bool rb_2), (8, .int .i64 ra_3), (9, .bool rb_3), (10, .int .i64 ra_4), (11, .int .i64 rb_4), (12, .int .u64 rc), (13, .bool rd), (51, .bool true)] (pure (.value (.bool true)) : Sem Next) (fun w => by kernel_rfl) (fun _ _ _ _ _ => rfl) (by kernel_rfl) (by kernel_rfl) (by kernel_rfl) (by kernel_rfl) (by kernel_rfl) (ps (by kernel_rfl)) ?_
    refine G_take 14 (some 52) (.bool true) #[true, true, true, true, true, true, true, true, true, true, true, true, true, true, true, false, false, false, false, false, false] [(0, .int .u64 wv), (3, .pointer (some (Addr.mk b 0 none))), (4, .int .i64 ra), (5, .bool rb), (6, .int .i32 ra_2), (7, .bool rb_2), (8, .int .i64 ra_3), (9, .bool rb_3), (10, .int .i64 ra_4), (11, .int .i64 rb_4), (12, .int .u64 rc), (13, .bool rd), (52, .bool true)] (pure (.value (.bool true)) : Sem Next) (fun w => by kernel_rfl) (fun _ _ _ _ _ => rfl) (by kernel_rfl) (by kernel_rfl) (by kernel_rfl) (by kernel_rfl) (by kernel_rfl) (ps (by kernel_rfl)) ?_
    refine G_pass 15 (some 53) #[true, true, true, true, true, true, true, true, true, true, true, true, true, true, true, true, false, false, false, false, false] [(0, .int .u64 wv), (3, .pointer (some (Addr.mk b 0 none))), (4, .int .i64 ra), (5, .bool rb), (6, .int .i32 ra_2), (7, .bool rb_2), (8, .int .i64 ra_3), (9, .bool rb_3), (10, .int .i64 ra_4), (11, .int .i64 rb_4), (12, .int .u64 rc), (13, .bool rd), (52, .bool true), (53, undef)] (by kernel_rfl) (by kernel_rfl) (by kernel_rfl) (by kernel_rfl) (by kernel_rfl) (by kernel_rfl) (ps (by kernel_rfl)) ?_
    refine G_pass 16 (some 54) #[true, true, true, true, true, true, true, true, true, true, true, true, true, true, true, true, true, false, false, false, false] [(0, .int .u64 wv), (3, .pointer (some (Addr.mk b 0 none))), (4, .int .i64 ra), (5, .bool rb), (6, .int .i32 ra_2), (7, .bool rb_2), (8, .int .i64 ra_3), (9, .bool rb_3), (10, .int .i64 ra_4), (11, .int .i64 rb_4), (12, .int .u64 rc), (13, .bool rd), (52, .bool true), (54, undef)] (by kernel_rfl) (by kernel_rfl) (by kernel_rfl) (by kernel_rfl) (by kernel_rfl) (by kernel_rfl) (ps (by kernel_rfl)) ?_
    refine G_pass 17 (some 55) #[true, true, true, true, true, true, true, true, true, true, true, true, true, true, true, true, true, true, false, false, false] [(3, .pointer (some (Addr.mk b 0 none))), (4, .int .i64 ra), (5, .bool rb), (6, .int .i32 ra_2), (7, .bool rb_2), (8, .int .i64 ra_3), (9, .bool rb_3), (10, .int .i64 ra_4), (11, .int .i64 rb_4), (12, .int .u64 rc), (13, .bool rd), (52, .bool true), (54, undef), (55, undef)] (by kernel_rfl) (by kernel_rfl) (by kernel_rfl) (by kernel_rfl) (by kernel_rfl) (by kernel_rfl) (ps (by kernel_rfl)) ?_
    refine G_pass 18 (some 56) #[true, true, true, true, true, true, true, true, true, true, true, true, true, true, true, true, true, true, true, false, false] [(3, .pointer (some (Addr.mk b 0 none))), (4, .int .i64 ra), (5, .bool rb), (6, .int .i32 ra_2), (7, .bool rb_2), (8, .int .i64 ra_3), (9, .bool rb_3), (10, .int .i64 ra_4), (11, .int .i64 rb_4), (12, .int .u64 rc), (13, .bool rd), (52, .bool true), (54, undef), (56, undef)] (by kernel_rfl) (by kernel_rfl) (by kernel_rfl) (by kernel_rfl) (by kernel_rfl) (by kernel_rfl) (ps (by kernel_rfl)) ?_
    refine G_pass 19 (some 57) #[true, true, true, true, true, true, true, true, true, true, true, true, true, true, true, true, true, true, true, true, false] [(3, .pointer (some (Addr.mk b 0 none))), (4, .int .i64 ra), (5, .bool rb), (6, .int .i32 ra_2), (7, .bool rb_2), (8, .int .i64 ra_3), (9, .bool rb_3), (10, .int .i64 ra_4), (11, .int .i64 rb_4), (12, .int .u64 rc), (13, .bool rd), (52, .bool true), (57, undef)] (by kernel_rfl) (by kernel_rfl) (by kernel_rfl) (by kernel_rfl) (by kernel_rfl) (by kernel_rfl) (ps (by kernel_rfl)) ?_
    refine G_take 20 (some 58) (.bool true) #[true, true, true, true, true, true, true, true, true, true, true, true, true, true, true, true, true, true, true, true, true] [(3, .pointer (some (Addr.mk b 0 none))), (4, .int .i64 ra), (5, .bool rb), (6, .int .i32 ra_2), (7, .bool rb_2), (8, .int .i64 ra_3), (9, .bool rb_3), (10, .int .i64 ra_4), (11, .int .i64 rb_4), (12, .int .u64 rc), (13, .bool rd), (58, .bool true)] (pure (.value (.bool true)) : Sem Next) (fun w => by kernel_rfl) (fun _ _ _ _ _ => rfl) (by kernel_rfl) (by kernel_rfl) (by kernel_rfl) (by kernel_rfl) (by kernel_rfl) (ps (by kernel_rfl)) ?_
    refine G_sub [(3, .pointer (some (Addr.mk b 0 none))), (4, .int .i64 ra), (5, .bool rb), (6, .int .i32 ra_2), (7, .bool rb_2), (8, .int .i64 ra_3), (9, .bool rb_3), (10, .int .i64 ra_4), (11, .int .i64 rb_4), (12, .int .u64 rc), (13, .bool rd), (58, .bool true)] (sb (by kernel_rfl)) ?_
    refine G_end (by kernel_rfl) ?_
    refine S_then ?_
    refine S_condT (.tmp 58) morainelaw01_WordTells.k17 morainelaw01_WordTells.k18 (by kernel_rfl) (by kernel_rfl) ?_
    refine S_seq morainelaw01_WordTells.k66 morainelaw01_WordTells.k67 (by kernel_rfl) ?_
    refine S_region 7 (Code.ops morainelaw01_WordTells.k66) (by kernel_rfl) ?_
    refine N_run 1 [(2, .bool false)] (fun w => by kernel_rfl) ?_
    refine N_end (by kernel_rfl) ?_
    refine S_then ?_
    refine S_ret (by kernel_rfl) ?_
    show At _ _ _ _ (Q .ret)
    exact S_done (fn := Try.f7) [.bool false] hQ (show ResOK _ _ _ [.tmp 2] _ from .tmp (by kernel_rfl) (.nil)) h

end Go.Proofs.Ytgofbcapgikboaa
