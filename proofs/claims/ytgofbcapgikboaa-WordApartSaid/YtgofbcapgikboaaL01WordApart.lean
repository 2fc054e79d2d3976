/-
  Written by a program of mine (gen.py): for functions of this translation a predicate transformer over heaps (.pt), and the proof that it is sound for the call (.link).
-/
import Derived.Test.YtgofbcapgikboaaFnsC
set_option linter.unusedSimpArgs false
set_option linter.unusedVariables false
namespace Go.Proofs.Ytgofbcapgikboaa
open Go
/-! moraine/morainelaw01.WordApart -/
noncomputable def morainelaw01_WordApart.k0 : Code := Func.code Try.f6
noncomputable def morainelaw01_WordApart.k1 : Code := Code.fa morainelaw01_WordApart.k0
noncomputable def morainelaw01_WordApart.k2 : Code := Code.fb morainelaw01_WordApart.k0
noncomputable def morainelaw01_WordApart.k3 : Code := Code.fa morainelaw01_WordApart.k2
noncomputable def morainelaw01_WordApart.k4 : Code := Code.fb morainelaw01_WordApart.k2
noncomputable def morainelaw01_WordApart.k5 : Code := Code.fa morainelaw01_WordApart.k4
noncomputable def morainelaw01_WordApart.k6 : Code := Code.fb morainelaw01_WordApart.k4
noncomputable def morainelaw01_WordApart.k7 : Code := Code.fa morainelaw01_WordApart.k6
noncomputable def morainelaw01_WordApart.k8 : Code := Code.fb morainelaw01_WordApart.k6
noncomputable def morainelaw01_WordApart.k9 : Code := Code.fa morainelaw01_WordApart.k7
noncomputable def morainelaw01_WordApart.k10 : Code := Code.fb morainelaw01_WordApart.k7
noncomputable def morainelaw01_WordApart.k11 : Code := Code.fa morainelaw01_WordApart.k10
noncomputable def morainelaw01_WordApart.k12 : Code := Code.fb morainelaw01_WordApart.k10
noncomputable def morainelaw01_WordApart.k13 : Code := Code.fa morainelaw01_WordApart.k8
noncomputable def morainelaw01_WordApart.k14 : Code := Code.fb morainelaw01_WordApart.k8
noncomputable def morainelaw01_WordApart.k15 : Code := Code.fa morainelaw01_WordApart.k14
noncomputable def morainelaw01_WordApart.k16 : Code := Code.fb morainelaw01_WordApart.k14
noncomputable def morainelaw01_WordApart.k17 : Code := Code.fa morainelaw01_WordApart.k16
noncomputable def morainelaw01_WordApart.k18 : Code := Code.fb morainelaw01_WordApart.k16
noncomputable def morainelaw01_WordApart.k19 : Code := Code.fa morainelaw01_WordApart.k17
noncomputable def morainelaw01_WordApart.k20 : Code := Code.fb morainelaw01_WordApart.k17
noncomputable def morainelaw01_WordApart.k21 : Code := Code.fa morainelaw01_WordApart.k20
noncomputable def morainelaw01_WordApart.k22 : Code := Code.fb morainelaw01_WordApart.k20
noncomputable def morainelaw01_WordApart.k23 : Code := Code.fa morainelaw01_WordApart.k18
noncomputable def morainelaw01_WordApart.k24 : Code := Code.fb morainelaw01_WordApart.k18
noncomputable def morainelaw01_WordApart.k25 : Code := Code.fa morainelaw01_WordApart.k24
noncomputable def morainelaw01_WordApart.k26 : Code := Code.fb morainelaw01_WordApart.k24
noncomputable def morainelaw01_WordApart.k27 : Code := Code.fa morainelaw01_WordApart.k26
noncomputable def morainelaw01_WordApart.k28 : Code := Code.fb morainelaw01_WordApart.k26
noncomputable def morainelaw01_WordApart.k29 : Code := Code.fa morainelaw01_WordApart.k27
noncomputable def morainelaw01_WordApart.k30 : Code := Code.fb morainelaw01_WordApart.k27
noncomputable def morainelaw01_WordApart.k31 : Code := Code.fa morainelaw01_WordApart.k30
noncomputable def morainelaw01_WordApart.k32 : Code := Code.fb morainelaw01_WordApart.k30
noncomputable def morainelaw01_WordApart.k33 : Code := Code.fa morainelaw01_WordApart.k28
noncomputable def morainelaw01_WordApart.k34 : Code := Code.fb morainelaw01_WordApart.k28
noncomputable def morainelaw01_WordApart.k35 : Code := Code.fa morainelaw01_WordApart.k34
noncomputable def morainelaw01_WordApart.k36 : Code := Code.fb morainelaw01_WordApart.k34
noncomputable def morainelaw01_WordApart.k37 : Code := Code.fa morainelaw01_WordApart.k36
noncomputable def morainelaw01_WordApart.k38 : Code := Code.fb morainelaw01_WordApart.k36
noncomputable def morainelaw01_WordApart.k39 : Code := Code.fa morainelaw01_WordApart.k38
noncomputable def morainelaw01_WordApart.k40 : Code := Code.fb morainelaw01_WordApart.k38
noncomputable def morainelaw01_WordApart.k41 : Code := Code.fa morainelaw01_WordApart.k39
noncomputable def morainelaw01_WordApart.k42 : Code := Code.fb morainelaw01_WordApart.k39
noncomputable def morainelaw01_WordApart.k43 : Code := Code.fa morainelaw01_WordApart.k42
noncomputable def morainelaw01_WordApart.k44 : Code := Code.fa morainelaw01_WordApart.k43
noncomputable def morainelaw01_WordApart.k45 : Code := Code.fa morainelaw01_WordApart.k44
noncomputable def morainelaw01_WordApart.k46 : Code := Code.fb morainelaw01_WordApart.k44
noncomputable def morainelaw01_WordApart.k47 : Code := Code.fa morainelaw01_WordApart.k45
noncomputable def morainelaw01_WordApart.k48 : Code := Code.fb morainelaw01_WordApart.k45
noncomputable def morainelaw01_WordApart.k49 : Code := Code.fa morainelaw01_WordApart.k48
noncomputable def morainelaw01_WordApart.k50 : Code := Code.fb morainelaw01_WordApart.k48
noncomputable def morainelaw01_WordApart.k51 : Code := Code.fa morainelaw01_WordApart.k46
noncomputable def morainelaw01_WordApart.k52 : Code := Code.fb morainelaw01_WordApart.k46
noncomputable def morainelaw01_WordApart.k53 : Code := Code.fa morainelaw01_WordApart.k51
noncomputable def morainelaw01_WordApart.k54 : Code := Code.fa morainelaw01_WordApart.k53
noncomputable def morainelaw01_WordApart.k55 : Code := Code.fb morainelaw01_WordApart.k53
noncomputable def morainelaw01_WordApart.k56 : Code := Code.fa morainelaw01_WordApart.k54
noncomputable def morainelaw01_WordApart.k57 : Code := Code.fb morainelaw01_WordApart.k54
noncomputable def morainelaw01_WordApart.k58 : Code := Code.fa morainelaw01_WordApart.k57
noncomputable def morainelaw01_WordApart.k59 : Code := Code.fb morainelaw01_WordApart.k57
noncomputable def morainelaw01_WordApart.k60 : Code := Code.fa morainelaw01_WordApart.k55
noncomputable def morainelaw01_WordApart.k61 : Code := Code.fb morainelaw01_WordApart.k55
noncomputable def morainelaw01_WordApart.k62 : Code := Code.fa morainelaw01_WordApart.k61
noncomputable def morainelaw01_WordApart.k63 : Code := Code.fa morainelaw01_WordApart.k62
noncomputable def morainelaw01_WordApart.k64 : Code := Code.fa morainelaw01_WordApart.k63
noncomputable def morainelaw01_WordApart.k65 : Code := Code.fb morainelaw01_WordApart.k63
noncomputable def morainelaw01_WordApart.k66 : Code := Code.fa morainelaw01_WordApart.k64
noncomputable def morainelaw01_WordApart.k67 : Code := Code.fb morainelaw01_WordApart.k64
noncomputable def morainelaw01_WordApart.k68 : Code := Code.fa morainelaw01_WordApart.k67
noncomputable def morainelaw01_WordApart.k69 : Code := Code.fb morainelaw01_WordApart.k67
noncomputable def morainelaw01_WordApart.k70 : Code := Code.fa morainelaw01_WordApart.k65
noncomputable def morainelaw01_WordApart.k71 : Code := Code.fb morainelaw01_WordApart.k65
noncomputable def morainelaw01_WordApart.k72 : Code := Code.fa morainelaw01_WordApart.k70
noncomputable def morainelaw01_WordApart.k73 : Code := Code.fa morainelaw01_WordApart.k72
noncomputable def morainelaw01_WordApart.k74 : Code := Code.fb morainelaw01_WordApart.k72
noncomputable def morainelaw01_WordApart.k75 : Code := Code.fa morainelaw01_WordApart.k74
noncomputable def morainelaw01_WordApart.k76 : Code := Code.fb morainelaw01_WordApart.k74
noncomputable def morainelaw01_WordApart.k77 : Code := Code.fa morainelaw01_WordApart.k75
noncomputable def morainelaw01_WordApart.k78 : Code := Code.fb morainelaw01_WordApart.k75
noncomputable def morainelaw01_WordApart.k79 : Code := Code.fa morainelaw01_WordApart.k58
noncomputable def morainelaw01_WordApart.k80 : Code := Code.fb morainelaw01_WordApart.k58
noncomputable def morainelaw01_WordApart.k81 : Code := Code.fa morainelaw01_WordApart.k40
noncomputable def morainelaw01_WordApart.k82 : Code := Code.fb morainelaw01_WordApart.k40
noncomputable def morainelaw01_WordApart.k83 : Code := Code.fa morainelaw01_WordApart.k31
noncomputable def morainelaw01_WordApart.k84 : Code := Code.fb morainelaw01_WordApart.k31
noncomputable def morainelaw01_WordApart.k85 : Code := Code.fa morainelaw01_WordApart.k21
noncomputable def morainelaw01_WordApart.k86 : Code := Code.fb morainelaw01_WordApart.k21
noncomputable def morainelaw01_WordApart.k87 : Code := Code.fa morainelaw01_WordApart.k11
noncomputable def morainelaw01_WordApart.k88 : Code := Code.fb morainelaw01_WordApart.k11
def morainelaw01_WordApart.pt (x : Int) (y : Int) (c : Int) (d : Int) (tag : Int) (addr : Int) (other : Int) (kind : Int) (nv : Int) (more : Int) (H : Array Obj) (R : Value → Array Obj → Prop) : Prop :=
 word_Fix.C x H (fun v H1 => ∃ ra : Int, ∃ rb : Int, v = .tuple #[.int .u64 ra, .int .i64 rb] ∧ 
  morainelaw01_good.C none 0 0 ra rb H1 (fun v_2 H2 => ∃ xB : Option Addr, ∃ xN : Nat, ∃ xC : Nat, v_2 = .slice xB xN xC ∧ 
   ∃ J : (Option Addr) → Nat → Nat → Array Obj → Prop, (
    if x = y then (
     J xB xN xC H2)
    else
    word_Fix.C y H2 (fun v_15 H22 => ∃ ra_7 : Int, ∃ rb_7 : Int, v_15 = .tuple #[.int .u64 ra_7, .int .i64 rb_7] ∧ 
     morainelaw01_good.C xB xN xC ra_7 rb_7 H22 (fun v_16 H23 => ∃ xB_7 : Option Addr, ∃ xN_7 : Nat, ∃ xC_7 : Nat, v_16 = .slice xB_7 xN_7 xC_7 ∧ 
      J xB_7 xN_7 xC_7 H23))) ∧ ∀ (lB : Option Addr) (lN : Nat) (lC : Nat) (H3 : Array Obj), J lB lN lC H3 →
   word_Char.C c H3 (fun v_3 H4 => ∃ ra_2 : Int, ∃ rb_2 : Int, v_3 = .tuple #[.int .u64 ra_2, .int .i64 rb_2] ∧ 
    morainelaw01_good.C lB lN lC ra_2 rb_2 H4 (fun v_4 H5 => ∃ xB_2 : Option Addr, ∃ xN_2 : Nat, ∃ xC_2 : Nat, v_4 = .slice xB_2 xN_2 xC_2 ∧ 
     ∃ J_2 : (Option Addr) → Nat → Nat → Array Obj → Prop, (
      if c = d then (
       J_2 xB_2 xN_2 xC_2 H5)
      else
      word_Char.C d H5 (fun v_13 H20 => ∃ ra_6 : Int, ∃ rb_6 : Int, v_13 = .tuple #[.int .u64 ra_6, .int .i64 rb_6] ∧ 
       morainelaw01_good.C xB_2 xN_2 xC_2 ra_6 rb_6 H20 (fun v_14 H21 => ∃ xB_6 : Option Addr, ∃ xN_6 : Nat, ∃ xC_6 : Nat, v_14 = .slice xB_6 xN_6 xC_6 ∧ 
        J_2 xB_6 xN_6 xC_6 H21))) ∧ ∀ (lB_2 : Option Addr) (lN_2 : Nat) (lC_2 : Nat) (H6 : Array Obj), J_2 lB_2 lN_2 lC_2 H6 →
     word_At.C tag addr H6 (fun v_5 H7 => ∃ ra_3 : Int, ∃ rb_3 : Int, v_5 = .tuple #[.int .u64 ra_3, .int .i64 rb_3] ∧ 
      morainelaw01_good.C lB_2 lN_2 lC_2 ra_3 rb_3 H7 (fun v_6 H8 => ∃ xB_3 : Option Addr, ∃ xN_3 : Nat, ∃ xC_3 : Nat, v_6 = .slice xB_3 xN_3 xC_3 ∧ 
       ∃ J_3 : (Option Addr) → Nat → Nat → Array Obj → Prop, (
        if addr = other then (
         J_3 xB_3 xN_3 xC_3 H8)
        else
        word_At.C tag other H8 (fun v_11 H18 => ∃ ra_5 : Int, ∃ rb_5 : Int, v_11 = .tuple #[.int .u64 ra_5, .int .i64 rb_5] ∧ 
         morainelaw01_good.C xB_3 xN_3 xC_3 ra_5 rb_5 H18 (fun v_12 H19 => ∃ xB_5 : Option Addr, ∃ xN_5 : Nat, ∃ xC_5 : Nat, v_12 = .slice xB_5 xN_5 xC_5 ∧ 
          J_3 xB_5 xN_5 xC_5 H19))) ∧ ∀ (lB_3 : Option Addr) (lN_3 : Nat) (lC_3 : Nat) (H9 : Array Obj), J_3 lB_3 lN_3 lC_3 H9 →
       word_Header.C kind nv more H9 (fun v_7 H10 => ∃ ra_4 : Int, ∃ rb_4 : Int, v_7 = .tuple #[.int .u64 ra_4, .int .i64 rb_4] ∧ 
        morainelaw01_good.C lB_3 lN_3 lC_3 ra_4 rb_4 H10 (fun v_8 H11 => ∃ xB_4 : Option Addr, ∃ xN_4 : Nat, ∃ xC_4 : Nat, v_8 = .slice xB_4 xN_4 xC_4 ∧ 
         ∀ (b : Nat) (H12 : Array Obj), b = H11.size → H12 = H11.push (.cells #[.int .u64 4, .int .u64 12, .int .u64 20, .int .u64 28, .int .u64 36, .int .u64 44, .int .u64 52] 23) →
         appendK 1 23 8 [.int .u64 0] xB_4 xN_4 xC_4 (some (Addr.mk b 0 none)) 7 H12 (fun ap apC H13 =>
          ∃ (I45 : Int → Array Obj → Prop) (m45 : Int → Array Obj → Nat), I45 0 H13 ∧ ∀ (i : Int) (H14 : Array Obj), I45 i H14 →
          if i < ((xN_4 + 7) : Int) then (
           ∃ apA : Addr, ap = some apA ∧
           (0 ≤ i ∧ i < ((xN_4 + 7) : Int)) ∧
           ∃ x_2 : Int, hat H14 (apA.add (Int.toNat i * 1)) = some (.int .u64 x_2) ∧
           word_May.C x_2 H14 (fun v_9 H15 => ∃ x_3 : Bool, v_9 = .bool x_3 ∧ 
            if x_3 = true then (
             ∃ (I64 : Int → Array Obj → Prop) (m64 : Int → Array Obj → Nat), I64 0 H15 ∧ ∀ (k : Int) (H16 : Array Obj), I64 k H16 →
             if k < i then (
              (0 ≤ k ∧ k < ((xN_4 + 7) : Int)) ∧
              ∃ x_4 : Int, hat H16 (apA.add (Int.toNat k * 1)) = some (.int .u64 x_4) ∧
              (0 ≤ i ∧ i < ((xN_4 + 7) : Int)) ∧
              ∃ x_5 : Int, hat H16 (apA.add (Int.toNat i * 1)) = some (.int .u64 x_5) ∧
              if x_4 = x_5 then (
               R (.bool false) H16)
              else
              (I64 (IntKind.wrap .i64 (k + 1)) H16 ∧ m64 (IntKind.wrap .i64 (k + 1)) H16 < m64 k H16))
             else
             (I45 (IntKind.wrap .i64 (i + 1)) H16 ∧ m45 (IntKind.wrap .i64 (i + 1)) H16 < m45 i H14))
            else
            R (.bool false) H15))
          else
          morainelaw01_awake.C  H14 (fun v_10 H17 => ∃ x_6 : Bool, v_10 = .bool x_6 ∧ 
           R (.bool x_6) H17))))))))))
set_option maxRecDepth 100000 in
theorem morainelaw01_WordApart.link {x : Int} {y : Int} {c : Int} {d : Int} {tag : Int} {addr : Int} {other : Int} {kind : Int} {nv : Int} {more : Int} {H : Array Obj} {R : Value → Array Obj → Prop} (h : morainelaw01_WordApart.pt x y c d tag addr other kind nv more H R) : morainelaw01_WordApart.C x y c d tag addr other kind nv more H R := by
  refine S_enter (fn := Try.f6) (c := morainelaw01_WordApart.k0) 131 Try.func6 (by kernel_rfl) (by kernel_rfl) (Nat.le_of_ble_eq_true (by kernel_rfl)) ?_
  intro w0 Q hQ
  unfold morainelaw01_WordApart.pt at h
  refine S_sub [(0, .int .i64 x), (1, .int .i64 y), (2, .int .i32 c), (3, .int .i32 d), (4, .int .i64 tag), (5, .int .i64 addr), (6, .int .i64 other), (7, .int .i64 kind), (8, .int .i64 nv), (9, .int .u64 more)] (sb (by kernel_rfl)) ?_
  refine S_seq morainelaw01_WordApart.k1 morainelaw01_WordApart.k2 (by kernel_rfl) ?_
  refine S_region 0 (Code.ops morainelaw01_WordApart.k1) (by kernel_rfl) ?_
  refine N_run 1 [(0, .int .i64 x), (1, .int .i64 y), (2, .int .i32 c), (3, .int .i32 d), (4, .int .i64 tag), (5, .int .i64 addr), (6, .int .i64 other), (7, .int .i64 kind), (8, .int .i64 nv), (9, .int .u64 more)] (fun w => by kernel_rfl) ?_
  refine N_end (by kernel_rfl) ?_
  refine S_then ?_
  refine S_seq morainelaw01_WordApart.k3 morainelaw01_WordApart.k4 (by kernel_rfl) ?_
  refine S_region 1 (Code.ops morainelaw01_WordApart.k3) (by kernel_rfl) ?_
  refine N_run 1 [(0, .int .i64 x), (1, .int .i64 y), (2, .int .i32 c), (3, .int .i32 d), (4, .int .i64 tag), (5, .int .i64 addr), (6, .int .i64 other), (7, .int .i64 kind), (8, .int .i64 nv), (9, .int .u64 more), (27, .int .i64 x)] (fun w => by kernel_rfl) ?_
  refine N_call (some 28) 9 #[.int .i64 x] (fun w => by kernel_rfl) h ?_
  rintro v H1 ⟨ra, rb, rfl, h⟩
  refine ⟨[(0, .int .i64 x), (1, .int .i64 y), (2, .int .i32 c), (3, .int .i32 d), (4, .int .i64 tag), (5, .int .i64 addr), (6, .int .i64 other), (7, .int .i64 kind), (8, .int .i64 nv), (9, .int .u64 more), (28, .tuple #[.int .u64 ra, .int .i64 rb])], ps (by kernel_rfl), ?_⟩
  refine N_run 5 [(0, .int .i64 x), (1, .int .i64 y), (2, .int .i32 c), (3, .int .i32 d), (4, .int .i64 tag), (5, .int .i64 addr), (6, .int .i64 other), (7, .int .i64 kind), (8, .int .i64 nv), (9, .int .u64 more), (21, .int .u64 ra), (22, .int .i64 rb)] (fun w => by kernel_rfl) ?_
  refine N_end (by kernel_rfl) ?_
  refine S_then ?_
  refine S_seq morainelaw01_WordApart.k5 morainelaw01_WordApart.k6 (by kernel_rfl) ?_
  refine S_region 2 (Code.ops morainelaw01_WordApart.k5) (by kernel_rfl) ?_
  refine N_run 2 [(0, .int .i64 x), (1, .int .i64 y), (2, .int .i32 c), (3, .int .i32 d), (4, .int .i64 tag), (5, .int .i64 addr), (6, .int .i64 other), (7, .int .i64 kind), (8, .int .i64 nv), (9, .int .u64 more), (31, .int .u64 ra), (32, .int .i64 rb)] (fun w => by kernel_rfl) ?_
  refine N_call (some 33) 17 #[.slice none 0 0, .int .u64 ra, .int .i64 rb] (fun w => by kernel_rfl) h ?_
  rintro v_2 H2 ⟨xB, xN, xC, rfl, h⟩
  refine ⟨[(0, .int .i64 x), (1, .int .i64 y), (2, .int .i32 c), (3, .int .i32 d), (4, .int .i64 tag), (5, .int .i64 addr), (6, .int .i64 other), (7, .int .i64 kind), (8, .int .i64 nv), (9, .int .u64 more), (33, .slice xB xN xC)], ps (by kernel_rfl), ?_⟩
  refine N_run 1 [(0, .int .i64 x), (1, .int .i64 y), (2, .int .i32 c), (3, .int .i32 d), (4, .int .i64 tag), (5, .int .i64 addr), (6, .int .i64 other), (7, .int .i64 kind), (8, .int .i64 nv), (9, .int .u64 more), (23, .slice xB xN xC)] (fun w => by kernel_rfl) ?_
  refine N_end (by kernel_rfl) ?_
  refine S_then ?_
  refine S_seq morainelaw01_WordApart.k7 morainelaw01_WordApart.k8 (by kernel_rfl) ?_
  refine S_seq morainelaw01_WordApart.k9 morainelaw01_WordApart.k10 (by kernel_rfl) ?_
  refine S_region 3 (Code.ops morainelaw01_WordApart.k9) (by kernel_rfl) ?_
  refine N_run 3 [(1, .int .i64 y), (2, .int .i32 c), (3, .int .i32 d), (4, .int .i64 tag), (5, .int .i64 addr), (6, .int .i64 other), (7, .int .i64 kind), (8, .int .i64 nv), (9, .int .u64 more), (23, .slice xB xN xC), (36, .bool (x != y))] (fun w => by kernel_rfl) ?_
  refine N_end (by kernel_rfl) ?_
  refine S_then ?_
  obtain ⟨J, h, j2⟩ := h
  refine S_join (σ := (Option Addr) × Nat × Nat) (fun s => [(2, .int .i32 c), (3, .int .i32 d), (4, .int .i64 tag), (5, .int .i64 addr), (6, .int .i64 other), (7, .int .i64 kind), (8, .int .i64 nv), (9, .int .u64 more), (23, .slice s.1 s.2.1 s.2.2)]) (fun s H => J s.1 s.2.1 s.2.2 H) ?_ ?_
  · rintro ⟨lB, lN, lC⟩ H3 j3
    replace h := j2 lB lN lC H3 j3
    refine S_sub [(2, .int .i32 c), (3, .int .i32 d), (4, .int .i64 tag), (5, .int .i64 addr), (6, .int .i64 other), (7, .int .i64 kind), (8, .int .i64 nv), (9, .int .u64 more), (23, .slice lB lN lC)] (sb (by kernel_rfl)) ?_
    refine S_then ?_
    refine S_seq morainelaw01_WordApart.k13 morainelaw01_WordApart.k14 (by kernel_rfl) ?_
    refine S_region 6 (Code.ops morainelaw01_WordApart.k13) (by kernel_rfl) ?_
    refine N_run 1 [(2, .int .i32 c), (3, .int .i32 d), (4, .int .i64 tag), (5, .int .i64 addr), (6, .int .i64 other), (7, .int .i64 kind), (8, .int .i64 nv), (9, .int .u64 more), (23, .slice lB lN lC), (47, .int .i32 c)] (fun w => by kernel_rfl) ?_
    refine N_call (some 48) 12 #[.int .i32 c] (fun w => by kernel_rfl) h ?_
    rintro v_3 H4 ⟨ra_2, rb_2, rfl, h⟩
    refine ⟨[(2, .int .i32 c), (3, .int .i32 d), (4, .int .i64 tag), (5, .int .i64 addr), (6, .int .i64 other), (7, .int .i64 kind), (8, .int .i64 nv), (9, .int .u64 more), (23, .slice lB lN lC), (48, .tuple #[.int .u64 ra_2, .int .i64 rb_2])], ps (by kernel_rfl), ?_⟩
    refine N_run 5 [(2, .int .i32 c), (3, .int .i32 d), (4, .int .i64 tag), (5, .int .i64 addr), (6, .int .i64 other), (7, .int .i64 kind), (8, .int .i64 nv), (9, .int .u64 more), (21, .int .u64 ra_2), (22, .int .i64 rb_2), (23, .slice lB lN lC)] (fun w => by kernel_rfl) ?_
    refine N_end (by kernel_rfl) ?_
    refine S_then ?_
    refine S_seq morainelaw01_WordApart.k15 morainelaw01_WordApart.k16 (by kernel_rfl) ?_
    refine S_region 7 (Code.ops morainelaw01_WordApart.k15) (by kernel_rfl) ?_
    refine N_run 3 [(2, .int .i32 c), (3, .int .i32 d), (4, .int .i64 tag), (5, .int .i64 addr), (6, .int .i64 other), (7, .int .i64 kind), (8, .int .i64 nv), (9, .int .u64 more), (51, .slice lB lN lC), (52, .int .u64 ra_2), (53, .int .i64 rb_2)] (fun w => by kernel_rfl) ?_
    refine N_call (some 54) 17 #[.slice lB lN lC, .int .u64 ra_2, .int .i64 rb_2] (fun w => by kernel_rfl) h ?_
    rintro v_4 H5 ⟨xB_2, xN_2, xC_2, rfl, h⟩
    refine ⟨[(2, .int .i32 c), (3, .int .i32 d), (4, .int .i64 tag), (5, .int .i64 addr), (6, .int .i64 other), (7, .int .i64 kind), (8, .int .i64 nv), (9, .int .u64 more), (54, .slice xB_2 xN_2 xC_2)], ps (by kernel_rfl), ?_⟩
    refine N_run 1 [(2, .int .i32 c), (3, .int .i32 d), (4, .int .i64 tag), (5, .int .i64 addr), (6, .int .i64 other), (7, .int .i64 kind), (8, .int .i64 nv), (9, .int .u64 more), (23, .slice xB_2 xN_2 xC_2)] (fun w => by kernel_rfl) ?_
    refine N_end (by kernel_rfl) ?_
    refine S_then ?_
    refine S_seq morainelaw01_WordApart.k17 morainelaw01_WordApart.k18 (by kernel_rfl) ?_
    refine S_seq morainelaw01_WordApart.k19 morainelaw01_WordApart.k20 (by kernel_rfl) ?_
    refine S_region 8 (Code.ops morainelaw01_WordApart.k19) (by kernel_rfl) ?_
    refine N_run 3 [(3, .int .i32 d), (4, .int .i64 tag), (5, .int .i64 addr), (6, .int .i64 other), (7, .int .i64 kind), (8, .int .i64 nv), (9, .int .u64 more), (23, .slice xB_2 xN_2 xC_2), (57, .bool (c != d))] (fun w => by kernel_rfl) ?_
    refine N_end (by kernel_rfl) ?_
    refine S_then ?_
    obtain ⟨J_2, h, j5⟩ := h
    refine S_join (σ := (Option Addr) × Nat × Nat) (fun s => [(4, .int .i64 tag), (5, .int .i64 addr), (6, .int .i64 other), (7, .int .i64 kind), (8, .int .i64 nv), (9, .int .u64 more), (23, .slice s.1 s.2.1 s.2.2)]) (fun s H => J_2 s.1 s.2.1 s.2.2 H) ?_ ?_
    · rintro ⟨lB_2, lN_2, lC_2⟩ H6 j6
      replace h := j5 lB_2 lN_2 lC_2 H6 j6
      refine S_sub [(4, .int .i64 tag), (5, .int .i64 addr), (6, .int .i64 other), (7, .int .i64 kind), (8, .int .i64 nv), (9, .int .u64 more), (23, .slice lB_2 lN_2 lC_2)] (sb (by kernel_rfl)) ?_
      refine S_then ?_
      refine S_seq morainelaw01_WordApart.k23 morainelaw01_WordApart.k24 (by kernel_rfl) ?_
      refine S_region 11 (Code.ops morainelaw01_WordApart.k23) (by kernel_rfl) ?_
      refine N_run 2 [(4, .int .i64 tag), (5, .int .i64 addr), (6, .int .i64 other), (7, .int .i64 kind), (8, .int .i64 nv), (9, .int .u64 more), (23, .slice lB_2 lN_2 lC_2), (68, .int .i64 tag), (69, .int .i64 addr)] (fun w => by kernel_rfl) ?_
      refine N_call (some 70) 15 #[.int .i64 tag, .int .i64 addr] (fun w => by kernel_rfl) h ?_
      rintro v_5 H7 ⟨ra_3, rb_3, rfl, h⟩
      refine ⟨[(4, .int .i64 tag), (5, .int .i64 addr), (6, .int .i64 other), (7, .int .i64 kind), (8, .int .i64 nv), (9, .int .u64 more), (23, .slice lB_2 lN_2 lC_2), (70, .tuple #[.int .u64 ra_3, .int .i64 rb_3])], ps (by kernel_rfl), ?_⟩
      refine N_run 5 [(4, .int .i64 tag), (5, .int .i64 addr), (6, .int .i64 other), (7, .int .i64 kind), (8, .int .i64 nv), (9, .int .u64 more), (21, .int .u64 ra_3), (22, .int .i64 rb_3), (23, .slice lB_2 lN_2 lC_2)] (fun w => by kernel_rfl) ?_
      refine N_end (by kernel_rfl) ?_
      refine S_then ?_
      refine S_seq morainelaw01_WordApart.k25 morainelaw01_WordApart.k26 (by kernel_rfl) ?_
      refine S_region 12 (Code.ops morainelaw01_WordApart.k25) (by kernel_rfl) ?_
      refine N_run 3 [(4, .int .i64 tag), (5, .int .i64 addr), (6, .int .i64 other), (7, .int .i64 kind), (8, .int .i64 nv), (9, .int .u64 more), (73, .slice lB_2 lN_2 lC_2), (74, .int .u64 ra_3), (75, .int .i64 rb_3)] (fun w => by kernel_rfl) ?_
      refine N_call (some 76) 17 #[.slice lB_2 lN_2 lC_2, .int .u64 ra_3, .int .i64 rb_3] (fun w => by kernel_rfl) h ?_
      rintro v_6 H8 ⟨xB_3, xN_3, xC_3, rfl, h⟩
      refine ⟨[(4, .int .i64 tag), (5, .int .i64 addr), (6, .int .i64 other), (7, .int .i64 kind), (8, .int .i64 nv), (9, .int .u64 more), (76, .slice xB_3 xN_3 xC_3)], ps (by kernel_rfl), ?_⟩
      refine N_run 1 [(4, .int .i64 tag), (5, .int .i64 addr), (6, .int .i64 other), (7, .int .i64 kind), (8, .int .i64 nv), (9, .int .u64 more), (23, .slice xB_3 xN_3 xC_3)] (fun w => by kernel_rfl) ?_
      refine N_end (by kernel_rfl) ?_
      refine S_then ?_
      refine S_seq morainelaw01_WordApart.k27 morainelaw01_WordApart.k28 (by kernel_rfl) ?_
      refine S_seq morainelaw01_WordApart.k29 morainelaw01_WordApart.k30 (by kernel_rfl) ?_
      refine S_region 13 (Code.ops morainelaw01_WordApart.k29) (by kernel_rfl) ?_
      refine N_run 3 [(4, .int .i64 tag), (6, .int .i64 other), (7, .int .i64 kind), (8, .int .i64 nv), (9, .int .u64 more), (23, .slice xB_3 xN_3 xC_3), (79, .bool (addr != other))] (fun w => by kernel_rfl) ?_
      refine N_end (by kernel_rfl) ?_
      refine S_then ?_
      obtain ⟨J_3, h, j8⟩ := h
      refine S_join (σ := (Option Addr) × Nat × Nat) (fun s => [(7, .int .i64 kind), (8, .int .i64 nv), (9, .int .u64 more), (23, .slice s.1 s.2.1 s.2.2)]) (fun s H => J_3 s.1 s.2.1 s.2.2 H) ?_ ?_
      · rintro ⟨lB_3, lN_3, lC_3⟩ H9 j9
        replace h := j8 lB_3 lN_3 lC_3 H9 j9
        refine S_sub [(7, .int .i64 kind), (8, .int .i64 nv), (9, .int .u64 more), (23, .slice lB_3 lN_3 lC_3)] (sb (by kernel_rfl)) ?_
        refine S_then ?_
        refine S_seq morainelaw01_WordApart.k33 morainelaw01_WordApart.k34 (by kernel_rfl) ?_
        refine S_region 16 (Code.ops morainelaw01_WordApart.k33) (by kernel_rfl) ?_
        refine N_run 3 [(23, .slice lB_3 lN_3 lC_3), (91, .int .i64 kind), (92, .int .i64 nv), (93, .int .u64 more)] (fun w => by kernel_rfl) ?_
        refine N_call (some 94) 16 #[.int .i64 kind, .int .i64 nv, .int .u64 more] (fun w => by kernel_rfl) h ?_
        rintro v_7 H10 ⟨ra_4, rb_4, rfl, h⟩
        refine ⟨[(23, .slice lB_3 lN_3 lC_3), (94, .tuple #[.int .u64 ra_4, .int .i64 rb_4])], ps (by kernel_rfl), ?_⟩
        refine N_run 5 [(21, .int .u64 ra_4), (22, .int .i64 rb_4), (23, .slice lB_3 lN_3 lC_3)] (fun w => by kernel_rfl) ?_
        refine N_end (by kernel_rfl) ?_
        refine S_then ?_
        refine S_seq morainelaw01_WordApart.k35 morainelaw01_WordApart.k36 (by kernel_rfl) ?_
        refine S_region 17 (Code.ops morainelaw01_WordApart.k35) (by kernel_rfl) ?_
        refine N_run 3 [(97, .slice lB_3 lN_3 lC_3), (98, .int .u64 ra_4), (99, .int .i64 rb_4)] (fun w => by kernel_rfl) ?_
        refine N_call (some 100) 17 #[.slice lB_3 lN_3 lC_3, .int .u64 ra_4, .int .i64 rb_4] (fun w => by kernel_rfl) h ?_
        rintro v_8 H11 ⟨xB_4, xN_4, xC_4, rfl, h⟩
        refine ⟨[(100, .slice xB_4 xN_4 xC_4)], ps (by kernel_rfl), ?_⟩
        refine N_run 1 [(23, .slice xB_4 xN_4 xC_4)] (fun w => by kernel_rfl) ?_
        refine N_end (by kernel_rfl) ?_
        refine S_then ?_
        refine S_seq morainelaw01_WordApart.k37 morainelaw01_WordApart.k38 (by kernel_rfl) ?_
        refine S_region 18 (Code.ops morainelaw01_WordApart.k37) (by kernel_rfl) ?_
        refine N_run 1 [(101, .slice xB_4 xN_4 xC_4)] (fun w => by kernel_rfl) ?_
        refine N_new (some 102) (fun b => .slice (some (Addr.mk b 0 none)) 7 7) (.cells #[.int .u64 4, .int .u64 12, .int .u64 20, .int .u64 28, .int .u64 36, .int .u64 44, .int .u64 52] 23) (fun w => by kernel_rfl) ?_
        intro b H12 e10 e11
        replace h := h b H12 e10 e11
        refine ⟨[(101, .slice xB_4 xN_4 xC_4), (102, .slice (some (Addr.mk b 0 none)) 7 7)], ps (by kernel_rfl), ?_⟩
        refine N_op (some 103) (appendN #[39, 39] 39 #[.slice xB_4 xN_4 xC_4, .slice (some (Addr.mk b 0 none)) 7 7]) _ (fun w => by kernel_rfl) (ss_append (T := 23) (sz := 1) (bytes := 8) (zero := .int .u64 0) Try.underlying39 Try.underlying39 rfl (show Try.prog.info? 23 = some Try.t23 from by kernel_rfl) (by kernel_rfl) (by kernel_rfl) (by decide) (by kernel_rfl) h) ?_
        rintro _ H13 ⟨ap, apC, rfl, h⟩
        refine ⟨[(103, .slice ap (xN_4 + 7) apC)], ps (by kernel_rfl), ?_⟩
        refine N_run 1 [(23, .slice ap (xN_4 + 7) apC)] (fun w => by kernel_rfl) ?_
        refine N_end (by kernel_rfl) ?_
        refine S_then ?_
        refine S_seq morainelaw01_WordApart.k39 morainelaw01_WordApart.k40 (by kernel_rfl) ?_
        refine S_seq morainelaw01_WordApart.k41 morainelaw01_WordApart.k42 (by kernel_rfl) ?_
        refine S_region 19 (Code.ops morainelaw01_WordApart.k41) (by kernel_rfl) ?_
        refine N_run 1 [(23, .slice ap (xN_4 + 7) apC), (24, .int .i64 0)] (fun w => by kernel_rfl) ?_
        refine N_end (by kernel_rfl) ?_
        refine S_then ?_
        refine S_block 0 morainelaw01_WordApart.k43 (by kernel_rfl) ?_
        obtain ⟨I45, m45, i12, i13⟩ := h
        refine S_loop (x := morainelaw01_WordApart.k44) (σ := Int) (fun s => [(23, .slice ap (xN_4 + 7) apC), (24, .int .i64 s)]) (fun s H => I45 s H) (fun s H => m45 s H) (0 : Int) (by kernel_rfl) i12 (sb (by kernel_rfl)) ?_
        rintro i H14 i14
        have h := i13 i H14 i14
        refine S_sub [(23, .slice ap (xN_4 + 7) apC), (24, .int .i64 i)] (sb (by kernel_rfl)) ?_
        refine S_seq morainelaw01_WordApart.k45 morainelaw01_WordApart.k46 (by kernel_rfl) ?_
        refine S_seq morainelaw01_WordApart.k47 morainelaw01_WordApart.k48 (by kernel_rfl) ?_
        refine S_region 20 (Code.ops morainelaw01_WordApart.k47) (by kernel_rfl) ?_
        refine N_run 4 [(23, .slice ap (xN_4 + 7) apC), (24, .int .i64 i), (107, .bool (decide (i < ((xN_4 + 7) : Int))))] (fun w => by kernel_rfl) ?_
        refine N_end (by kernel_rfl) ?_
        refine S_then ?_
        by_cases c15 : i < ((xN_4 + 7) : Int)
        · rw [if_pos c15] at h
          have b16 : (decide (i < ((xN_4 + 7) : Int))) = true := decide_eq_true c15
          refine S_env [(23, .slice ap (xN_4 + 7) apC), (24, .int .i64 i), (107, .bool true)] (by simp only [b16, Bool.not_true, Bool.not_false]) ?_
          clear b16
          refine S_condT (.tmp 107) morainelaw01_WordApart.k49 morainelaw01_WordApart.k50 (by kernel_rfl) (by kernel_rfl) ?_
          refine S_skip (by kernel_rfl) ?_
          refine S_then ?_
          refine S_seq morainelaw01_WordApart.k51 morainelaw01_WordApart.k52 (by kernel_rfl) ?_
          refine S_block 1 morainelaw01_WordApart.k53 (by kernel_rfl) ?_
          refine S_seq morainelaw01_WordApart.k54 morainelaw01_WordApart.k55 (by kernel_rfl) ?_
          refine S_seq morainelaw01_WordApart.k56 morainelaw01_WordApart.k57 (by kernel_rfl) ?_
          refine S_region 22 (Code.ops morainelaw01_WordApart.k56) (by kernel_rfl) ?_
          refine N_run 2 [(23, .slice ap (xN_4 + 7) apC), (24, .int .i64 i), (110, .slice ap (xN_4 + 7) apC), (111, .int .i64 i)] (fun w => by kernel_rfl) ?_
          obtain ⟨apA, rfl, h⟩ := h
          obtain ⟨q17, h⟩ := h
          refine N_val (some 112) (indexAtN 39 (.slice (some apA) (xN_4 + 7) apC) (.int .i64 i)) (.pointer (some (apA.add (Int.toNat i * 1)))) (fun w => by kernel_rfl) (fun w _ => indexAt_run (P := Try.prog) (t := 39) (elem := 23) (sz := 1) (a := apA) (len := (xN_4 + 7)) (cap := apC) (k := .i64) (i := i) Try.underlying39 (fun w => by kernel_rfl) q17.1 q17.2 w) [(23, .slice (some apA) (xN_4 + 7) apC), (24, .int .i64 i), (112, .pointer (some (apA.add (Int.toNat i * 1))))] (ps (by kernel_rfl)) ?_
          obtain ⟨x_2, q18, h⟩ := h
          refine N_val (some 113) (loadN 23 (.pointer (some (apA.add (Int.toNat i * 1))))) (.int .u64 x_2) (fun w => by kernel_rfl) (loadN_run (loadOK_one (fun w => by kernel_rfl) q18)) [(23, .slice (some apA) (xN_4 + 7) apC), (24, .int .i64 i), (113, .int .u64 x_2)] (ps (by kernel_rfl)) ?_
          refine N_call (some 114) 18 #[.int .u64 x_2] (fun w => by kernel_rfl) h ?_
          rintro v_9 H15 ⟨x_3, rfl, h⟩
          refine ⟨[(23, .slice (some apA) (xN_4 + 7) apC), (24, .int .i64 i), (114, .bool x_3)], ps (by kernel_rfl), ?_⟩
          refine N_run 1 [(23, .slice (some apA) (xN_4 + 7) apC), (24, .int .i64 i), (115, .bool (!x_3))] (fun w => by kernel_rfl) ?_
          refine N_end (by kernel_rfl) ?_
          refine S_then ?_
          by_cases c19 : x_3 = true
          · rw [if_pos c19] at h
            have b20 : (!x_3) = false := congrArg Bool.not (c19)
            refine S_env [(23, .slice (some apA) (xN_4 + 7) apC), (24, .int .i64 i), (115, .bool false)] (by simp only [b20, Bool.not_true, Bool.not_false]) ?_
            clear b20
            refine S_condF (.tmp 115) morainelaw01_WordApart.k58 morainelaw01_WordApart.k59 (by kernel_rfl) (by kernel_rfl) ?_
            refine S_skip (by kernel_rfl) ?_
            refine S_then ?_
            refine S_seq morainelaw01_WordApart.k60 morainelaw01_WordApart.k61 (by kernel_rfl) ?_
            refine S_region 24 (Code.ops morainelaw01_WordApart.k60) (by kernel_rfl) ?_
            refine N_run 1 [(23, .slice (some apA) (xN_4 + 7) apC), (24, .int .i64 i), (25, .int .i64 0)] (fun w => by kernel_rfl) ?_
            refine N_end (by kernel_rfl) ?_
            refine S_then ?_
            refine S_block 2 morainelaw01_WordApart.k62 (by kernel_rfl) ?_
            obtain ⟨I64, m64, i21, i22⟩ := h
            refine S_loop (x := morainelaw01_WordApart.k63) (σ := Int) (fun s => [(23, .slice (some apA) (xN_4 + 7) apC), (24, .int .i64 i), (25, .int .i64 s)]) (fun s H => I64 s H) (fun s H => m64 s H) (0 : Int) (by kernel_rfl) i21 (sb (by kernel_rfl)) ?_
            rintro k H16 i23
            have h := i22 k H16 i23
            refine S_sub [(23, .slice (some apA) (xN_4 + 7) apC), (24, .int .i64 i), (25, .int .i64 k)] (sb (by kernel_rfl)) ?_
            refine S_seq morainelaw01_WordApart.k64 morainelaw01_WordApart.k65 (by kernel_rfl) ?_
            refine S_seq morainelaw01_WordApart.k66 morainelaw01_WordApart.k67 (by kernel_rfl) ?_
            refine S_region 25 (Code.ops morainelaw01_WordApart.k66) (by kernel_rfl) ?_
            refine N_run 3 [(23, .slice (some apA) (xN_4 + 7) apC), (24, .int .i64 i), (25, .int .i64 k), (118, .bool (decide (k < i)))] (fun w => by kernel_rfl) ?_
            refine N_end (by kernel_rfl) ?_
            refine S_then ?_
            by_cases c24 : k < i
            · rw [if_pos c24] at h
              have b25 : (decide (k < i)) = true := decide_eq_true c24
              refine S_env [(23, .slice (some apA) (xN_4 + 7) apC), (24, .int .i64 i), (25, .int .i64 k), (118, .bool true)] (by simp only [b25, Bool.not_true, Bool.not_false]) ?_
              clear b25
              refine S_condT (.tmp 118) morainelaw01_WordApart.k68 morainelaw01_WordApart.k69 (by kernel_rfl) (by kernel_rfl) ?_
              refine S_skip (by kernel_rfl) ?_
              refine S_then ?_
              refine S_seq morainelaw01_WordApart.k70 morainelaw01_WordApart.k71 (by kernel_rfl) ?_
              refine S_block 3 morainelaw01_WordApart.k72 (by kernel_rfl) ?_
              refine S_seq morainelaw01_WordApart.k73 morainelaw01_WordApart.k74 (by kernel_rfl) ?_
              refine S_regionQ 27 (Code.ops morainelaw01_WordApart.k73) (by kernel_rfl) (by kernel_rfl) (by kernel_rfl) ?_
              refine Q_one (.slice (some apA) (xN_4 + 7) apC) [(23, .slice (some apA) (xN_4 + 7) apC), (24, .int .i64 i), (25, .int .i64 k), (121, .slice (some apA) (xN_4 + 7) apC)] (some 121) (by kernel_rfl) (fun w => by kernel_rfl) (ps (by kernel_rfl)) ?_
              refine Q_one (.int .i64 k) [(23, .slice (some apA) (xN_4 + 7) apC), (24, .int .i64 i), (25, .int .i64 k), (121, .slice (some apA) (xN_4 + 7) apC), (122, .int .i64 k)] (some 122) (by kernel_rfl) (fun w => by kernel_rfl) (ps (by kernel_rfl)) ?_
              obtain ⟨q26, h⟩ := h
              refine Q_op (some 123) (indexAtN 39 (.slice (some apA) (xN_4 + 7) apC) (.int .i64 k)) (.pointer (some (apA.add (Int.toNat k * 1)))) (fun w => by kernel_rfl) (fun w _ => indexAt_run (P := Try.prog) (t := 39) (elem := 23) (sz := 1) (a := apA) (len := (xN_4 + 7)) (cap := apC) (k := .i64) (i := k) Try.underlying39 (fun w => by kernel_rfl) q26.1 q26.2 w) [(23, .slice (some apA) (xN_4 + 7) apC), (24, .int .i64 i), (25, .int .i64 k), (123, .pointer (some (apA.add (Int.toNat k * 1))))] (ps (by kernel_rfl)) ?_
              obtain ⟨x_4, q27, h⟩ := h
              refine Q_op (some 124) (loadN 23 (.pointer (some (apA.add (Int.toNat k * 1))))) (.int .u64 x_4) (fun w => by kernel_rfl) (loadN_run (loadOK_one (fun w => by kernel_rfl) q27)) [(23, .slice (some apA) (xN_4 + 7) apC), (24, .int .i64 i), (25, .int .i64 k), (124, .int .u64 x_4)] (ps (by kernel_rfl)) ?_
              refine Q_one (.slice (some apA) (xN_4 + 7) apC) [(23, .slice (some apA) (xN_4 + 7) apC), (24, .int .i64 i), (25, .int .i64 k), (124, .int .u64 x_4), (125, .slice (some apA) (xN_4 + 7) apC)] (some 125) (by kernel_rfl) (fun w => by kernel_rfl) (ps (by kernel_rfl)) ?_
              refine Q_one (.int .i64 i) [(23, .slice (some apA) (xN_4 + 7) apC), (24, .int .i64 i), (25, .int .i64 k), (124, .int .u64 x_4), (125, .slice (some apA) (xN_4 + 7) apC), (126, .int .i64 i)] (some 126) (by kernel_rfl) (fun w => by kernel_rfl) (ps (by kernel_rfl)) ?_
              obtain ⟨q28, h⟩ := h
              refine Q_op (some 127) (indexAtN 39 (.slice (some apA) (xN_4 + 7) apC) (.int .i64 i)) (.pointer (some (apA.add (Int.toNat i * 1)))) (fun w => by kernel_rfl) (fun w _ => indexAt_run (P := Try.prog) (t := 39) (elem := 23) (sz := 1) (a := apA) (len := (xN_4 + 7)) (cap := apC) (k := .i64) (i := i) Try.underlying39 (fun w => by kernel_rfl) q28.1 q28.2 w) [(23, .slice (some apA) (xN_4 + 7) apC), (24, .int .i64 i), (25, .int .i64 k), (124, .int .u64 x_4), (127, .pointer (some (apA.add (Int.toNat i * 1))))] (ps (by kernel_rfl)) ?_
              obtain ⟨x_5, q29, h⟩ := h
              refine Q_op (some 128) (loadN 23 (.pointer (some (apA.add (Int.toNat i * 1))))) (.int .u64 x_5) (fun w => by kernel_rfl) (loadN_run (loadOK_one (fun w => by kernel_rfl) q29)) [(23, .slice (some apA) (xN_4 + 7) apC), (24, .int .i64 i), (25, .int .i64 k), (124, .int .u64 x_4), (128, .int .u64 x_5)] (ps (by kernel_rfl)) ?_
              refine Q_one (.bool (x_4 == x_5)) [(23, .slice (some apA) (xN_4 + 7) apC), (24, .int .i64 i), (25, .int .i64 k), (129, .bool (x_4 == x_5))] (some 129) (by kernel_rfl) (fun w => by kernel_rfl) (ps (by kernel_rfl)) ?_
              refine Q_sub [(23, .slice (some apA) (xN_4 + 7) apC), (24, .int .i64 i), (25, .int .i64 k), (129, .bool (x_4 == x_5))] (sb (by kernel_rfl)) ?_
              refine Q_end (by kernel_rfl) ?_
              refine S_then ?_
              by_cases c30 : x_4 = x_5
              · rw [if_pos c30] at h
                have b31 : (x_4 == x_5) = true := beq_iff_eq.mpr c30
                refine S_env [(23, .slice (some apA) (xN_4 + 7) apC), (24, .int .i64 i), (25, .int .i64 k), (129, .bool true)] (by simp only [b31, Bool.not_true, Bool.not_false]) ?_
                clear b31
                refine S_condT (.tmp 129) morainelaw01_WordApart.k75 morainelaw01_WordApart.k76 (by kernel_rfl) (by kernel_rfl) ?_
                refine S_seq morainelaw01_WordApart.k77 morainelaw01_WordApart.k78 (by kernel_rfl) ?_
                refine S_region 28 (Code.ops morainelaw01_WordApart.k77) (by kernel_rfl) ?_
                refine N_run 1 [(20, .bool false)] (fun w => by kernel_rfl) ?_
                refine N_end (by kernel_rfl) ?_
                refine S_then ?_
                refine S_ret (by kernel_rfl) ?_
                show At _ _ _ _ (Q .ret)
                exact S_done (fn := Try.f6) [.bool false] hQ (show ResOK _ _ _ [.tmp 20] _ from .tmp (by kernel_rfl) (.nil)) h
              · rw [if_neg c30] at h
                have b31 : (x_4 == x_5) = false := beq_eq_false_iff_ne.mpr c30
                refine S_env [(23, .slice (some apA) (xN_4 + 7) apC), (24, .int .i64 i), (25, .int .i64 k), (129, .bool false)] (by simp only [b31, Bool.not_true, Bool.not_false]) ?_
                clear b31
                refine S_condF (.tmp 129) morainelaw01_WordApart.k75 morainelaw01_WordApart.k76 (by kernel_rfl) (by kernel_rfl) ?_
                refine S_skip (by kernel_rfl) ?_
                refine S_blockEnd ?_
                refine S_then ?_
                refine S_region 26 (Code.ops morainelaw01_WordApart.k71) (by kernel_rfl) ?_
                refine N_run 3 [(23, .slice (some apA) (xN_4 + 7) apC), (24, .int .i64 i), (25, .int .i64 (IntKind.wrap .i64 (k + 1)))] (fun w => by kernel_rfl) ?_
                refine N_end (by kernel_rfl) ?_
                refine S_then ?_
                exact S_round ((IntKind.wrap .i64 (k + 1)) : Int) (sb (by kernel_rfl)) h
            · rw [if_neg c24] at h
              have b25 : (decide (k < i)) = false := decide_eq_false c24
              refine S_env [(23, .slice (some apA) (xN_4 + 7) apC), (24, .int .i64 i), (25, .int .i64 k), (118, .bool false)] (by simp only [b25, Bool.not_true, Bool.not_false]) ?_
              clear b25
              refine S_condF (.tmp 118) morainelaw01_WordApart.k68 morainelaw01_WordApart.k69 (by kernel_rfl) (by kernel_rfl) ?_
              refine S_exit 2 (by kernel_rfl) ?_
              refine S_exitThen ?_
              refine S_exitThen ?_
              refine S_exitHere ?_
              refine S_blockEnd ?_
              refine S_then ?_
              refine S_region 21 (Code.ops morainelaw01_WordApart.k52) (by kernel_rfl) ?_
              refine N_run 3 [(23, .slice (some apA) (xN_4 + 7) apC), (24, .int .i64 (IntKind.wrap .i64 (i + 1)))] (fun w => by kernel_rfl) ?_
              refine N_end (by kernel_rfl) ?_
              refine S_then ?_
              exact S_round ((IntKind.wrap .i64 (i + 1)) : Int) (sb (by kernel_rfl)) h
          · rw [if_neg c19] at h
            have b20 : (!x_3) = true := congrArg Bool.not (eq_false_of_ne_true c19)
            refine S_env [(23, .slice (some apA) (xN_4 + 7) apC), (24, .int .i64 i), (115, .bool true)] (by simp only [b20, Bool.not_true, Bool.not_false]) ?_
            clear b20
            refine S_condT (.tmp 115) morainelaw01_WordApart.k58 morainelaw01_WordApart.k59 (by kernel_rfl) (by kernel_rfl) ?_
            refine S_seq morainelaw01_WordApart.k79 morainelaw01_WordApart.k80 (by kernel_rfl) ?_
            refine S_region 23 (Code.ops morainelaw01_WordApart.k79) (by kernel_rfl) ?_
            refine N_run 1 [(20, .bool false)] (fun w => by kernel_rfl) ?_
            refine N_end (by kernel_rfl) ?_
            refine S_then ?_
            refine S_ret (by kernel_rfl) ?_
            show At _ _ _ _ (Q .ret)
            exact S_done (fn := Try.f6) [.bool false] hQ (show ResOK _ _ _ [.tmp 20] _ from .tmp (by kernel_rfl) (.nil)) h
        · rw [if_neg c15] at h
          have b16 : (decide (i < ((xN_4 + 7) : Int))) = false := decide_eq_false c15
          refine S_env [(23, .slice ap (xN_4 + 7) apC), (24, .int .i64 i), (107, .bool false)] (by simp only [b16, Bool.not_true, Bool.not_false]) ?_
          clear b16
          refine S_condF (.tmp 107) morainelaw01_WordApart.k49 morainelaw01_WordApart.k50 (by kernel_rfl) (by kernel_rfl) ?_
          refine S_exit 0 (by kernel_rfl) ?_
          refine S_exitThen ?_
          refine S_exitThen ?_
          refine S_exitHere ?_
          refine S_then ?_
          refine S_seq morainelaw01_WordApart.k81 morainelaw01_WordApart.k82 (by kernel_rfl) ?_
          refine S_region 29 (Code.ops morainelaw01_WordApart.k81) (by kernel_rfl) ?_
          refine N_sub [] (sb (by kernel_rfl)) ?_
          refine N_call (some 130) 14 #[] (fun w => by kernel_rfl) h ?_
          rintro v_10 H17 ⟨x_6, rfl, h⟩
          refine ⟨[(130, .bool x_6)], ps (by kernel_rfl), ?_⟩
          refine N_run 1 [(20, .bool x_6)] (fun w => by kernel_rfl) ?_
          refine N_end (by kernel_rfl) ?_
          refine S_then ?_
          refine S_ret (by kernel_rfl) ?_
          show At _ _ _ _ (Q .ret)
          exact S_done (fn := Try.f6) [.bool x_6] hQ (show ResOK _ _ _ [.tmp 20] _ from .tmp (by kernel_rfl) (.nil)) h
      · by_cases c32 : addr = other
        · rw [if_pos c32] at h
          have b33 : (addr != other) = false := bne_eq_false_iff_eq.mpr c32
          refine S_env [(4, .int .i64 tag), (6, .int .i64 other), (7, .int .i64 kind), (8, .int .i64 nv), (9, .int .u64 more), (23, .slice xB_3 xN_3 xC_3), (79, .bool false)] (by simp only [b33, Bool.not_true, Bool.not_false]) ?_
          clear b33
          refine S_condF (.tmp 79) morainelaw01_WordApart.k31 morainelaw01_WordApart.k32 (by kernel_rfl) (by kernel_rfl) ?_
          refine S_skip (by kernel_rfl) ?_
          refine S_then ?_
          exact S_meet ((xB_3, xN_3, xC_3) : (Option Addr) × Nat × Nat) (sb (by kernel_rfl)) h
        · rw [if_neg c32] at h
          have b33 : (addr != other) = true := bne_iff_ne.mpr c32
          refine S_env [(4, .int .i64 tag), (6, .int .i64 other), (7, .int .i64 kind), (8, .int .i64 nv), (9, .int .u64 more), (23, .slice xB_3 xN_3 xC_3), (79, .bool true)] (by simp only [b33, Bool.not_true, Bool.not_false]) ?_
          clear b33
          refine S_condT (.tmp 79) morainelaw01_WordApart.k31 morainelaw01_WordApart.k32 (by kernel_rfl) (by kernel_rfl) ?_
          refine S_seq morainelaw01_WordApart.k83 morainelaw01_WordApart.k84 (by kernel_rfl) ?_
          refine S_region 14 (Code.ops morainelaw01_WordApart.k83) (by kernel_rfl) ?_
          refine N_run 2 [(7, .int .i64 kind), (8, .int .i64 nv), (9, .int .u64 more), (23, .slice xB_3 xN_3 xC_3), (81, .int .i64 tag), (82, .int .i64 other)] (fun w => by kernel_rfl) ?_
          refine N_call (some 83) 15 #[.int .i64 tag, .int .i64 other] (fun w => by kernel_rfl) h ?_
          rintro v_11 H18 ⟨ra_5, rb_5, rfl, h⟩
          refine ⟨[(7, .int .i64 kind), (8, .int .i64 nv), (9, .int .u64 more), (23, .slice xB_3 xN_3 xC_3), (83, .tuple #[.int .u64 ra_5, .int .i64 rb_5])], ps (by kernel_rfl), ?_⟩
          refine N_run 5 [(7, .int .i64 kind), (8, .int .i64 nv), (9, .int .u64 more), (21, .int .u64 ra_5), (22, .int .i64 rb_5), (23, .slice xB_3 xN_3 xC_3)] (fun w => by kernel_rfl) ?_
          refine N_end (by kernel_rfl) ?_
          refine S_then ?_
          refine S_region 15 (Code.ops morainelaw01_WordApart.k84) (by kernel_rfl) ?_
          refine N_run 3 [(7, .int .i64 kind), (8, .int .i64 nv), (9, .int .u64 more), (86, .slice xB_3 xN_3 xC_3), (87, .int .u64 ra_5), (88, .int .i64 rb_5)] (fun w => by kernel_rfl) ?_
          refine N_call (some 89) 17 #[.slice xB_3 xN_3 xC_3, .int .u64 ra_5, .int .i64 rb_5] (fun w => by kernel_rfl) h ?_
          rintro v_12 H19 ⟨xB_5, xN_5, xC_5, rfl, h⟩
          refine ⟨[(7, .int .i64 kind), (8, .int .i64 nv), (9, .int .u64 more), (89, .slice xB_5 xN_5 xC_5)], ps (by kernel_rfl), ?_⟩
          refine N_run 1 [(7, .int .i64 kind), (8, .int .i64 nv), (9, .int .u64 more), (23, .slice xB_5 xN_5 xC_5)] (fun w => by kernel_rfl) ?_
          refine N_end (by kernel_rfl) ?_
          refine S_then ?_
          exact S_meet ((xB_5, xN_5, xC_5) : (Option Addr) × Nat × Nat) (sb (by kernel_rfl)) h
    · by_cases c34 : c = d
      · rw [if_pos c34] at h
        have b35 : (c != d) = false := bne_eq_false_iff_eq.mpr c34
        refine S_env [(3, .int .i32 d), (4, .int .i64 tag), (5, .int .i64 addr), (6, .int .i64 other), (7, .int .i64 kind), (8, .int .i64 nv), (9, .int .u64 more), (23, .slice xB_2 xN_2 xC_2), (57, .bool false)] (by simp only [b35, Bool.not_true, Bool.not_false]) ?_
        clear b35
        refine S_condF (.tmp 57) morainelaw01_WordApart.k21 morainelaw01_WordApart.k22 (by kernel_rfl) (by kernel_rfl) ?_
        refine S_skip (by kernel_rfl) ?_
        refine S_then ?_
        exact S_meet ((xB_2, xN_2, xC_2) : (Option Addr) × Nat × Nat) (sb (by kernel_rfl)) h
      · rw [if_neg c34] at h
        have b35 : (c != d) = true := bne_iff_ne.mpr c34
        refine S_env [(3, .int .i32 d), (4, .int .i64 tag), (5, .int .i64 addr), (6, .int .i64 other), (7, .int .i64 kind), (8, .int .i64 nv), (9, .int .u64 more), (23, .slice xB_2 xN_2 xC_2), (57, .bool true)] (by simp only [b35, Bool.not_true, Bool.not_false]) ?_
        clear b35
        refine S_condT (.tmp 57) morainelaw01_WordApart.k21 morainelaw01_WordApart.k22 (by kernel_rfl) (by kernel_rfl) ?_
        refine S_seq morainelaw01_WordApart.k85 morainelaw01_WordApart.k86 (by kernel_rfl) ?_
        refine S_region 9 (Code.ops morainelaw01_WordApart.k85) (by kernel_rfl) ?_
        refine N_run 1 [(4, .int .i64 tag), (5, .int .i64 addr), (6, .int .i64 other), (7, .int .i64 kind), (8, .int .i64 nv), (9, .int .u64 more), (23, .slice xB_2 xN_2 xC_2), (59, .int .i32 d)] (fun w => by kernel_rfl) ?_
        refine N_call (some 60) 12 #[.int .i32 d] (fun w => by kernel_rfl) h ?_
        rintro v_13 H20 ⟨ra_6, rb_6, rfl, h⟩
        refine ⟨[(4, .int .i64 tag), (5, .int .i64 addr), (6, .int .i64 other), (7, .int .i64 kind), (8, .int .i64 nv), (9, .int .u64 more), (23, .slice xB_2 xN_2 xC_2), (60, .tuple #[.int .u64 ra_6, .int .i64 rb_6])], ps (by kernel_rfl), ?_⟩
        refine N_run 5 [(4, .int .i64 tag), (5, .int .i64 addr), (6, .int .i64 other), (7, .int .i64 kind), (8, .int .i64 nv), (9, .int .u64 more), (21, .int .u64 ra_6), (22, .int .i64 rb_6), (23, .slice xB_2 xN_2 xC_2)] (fun w => by kernel_rfl) ?_
        refine N_end (by kernel_rfl) ?_
        refine S_then ?_
        refine S_region 10 (Code.ops morainelaw01_WordApart.k86) (by kernel_rfl) ?_
        refine N_run 3 [(4, .int .i64 tag), (5, .int .i64 addr), (6, .int .i64 other), (7, .int .i64 kind), (8, .int .i64 nv), (9, .int .u64 more), (63, .slice xB_2 xN_2 xC_2), (64, .int .u64 ra_6), (65, .int .i64 rb_6)] (fun w => by kernel_rfl) ?_
        refine N_call (some 66) 17 #[.slice xB_2 xN_2 xC_2, .int .u64 ra_6, .int .i64 rb_6] (fun w => by kernel_rfl) h ?_
        rintro v_14 H21 ⟨xB_6, xN_6, xC_6, rfl, h⟩
        refine ⟨[(4, .int .i64 tag), (5, .int .i64 addr), (6, .int .i64 other), (7, .int .i64 kind), (8, .int .i64 nv), (9, .int .u64 more), (66, .slice xB_6 xN_6 xC_6)], ps (by kernel_rfl), ?_⟩
        refine N_run 1 [(4, .int .i64 tag), (5, .int .i64 addr), (6, .int .i64 other), (7, .int .i64 kind), (8, .int .i64 nv), (9, .int .u64 more), (23, .slice xB_6 xN_6 xC_6)] (fun w => by kernel_rfl) ?_
        refine N_end (by kernel_rfl) ?_
        refine S_then ?_
        exact S_meet ((xB_6, xN_6, xC_6) : (Option Addr) × Nat × Nat) (sb (by kernel_rfl)) h
  · by_cases c36 : x = y
    · rw [if_pos c36] at h
      have b37 : (x != y) = false := bne_eq_false_iff_eq.mpr c36
      refine S_env [(1, .int .i64 y), (2, .int .i32 c), (3, .int .i32 d), (4, .int .i64 tag), (5, .int .i64 addr), (6, .int .i64 other), (7, .int .i64 kind), (8, .int .i64 nv), (9, .int .u64 more), (23, .slice xB xN xC), (36, .bool false)] (by simp only [b37, Bool.not_true, Bool.not_false]) ?_
      clear b37
      refine S_condF (.tmp 36) morainelaw01_WordApart.k11 morainelaw01_WordApart.k12 (by kernel_rfl) (by kernel_rfl) ?_
      refine S_skip (by kernel_rfl) ?_
      refine S_then ?_
      exact S_meet ((xB, xN, xC) : (Option Addr) × Nat × Nat) (sb (by kernel_rfl)) h
    · rw [if_neg c36] at h
      have b37 : (x != y) = true := bne_iff_ne.mpr c36
      refine S_env [(1, .int .i64 y), (2, .int .i32 c), (3, .int .i32 d), (4, .int .i64 tag), (5, .int .i64 addr), (6, .int .i64 other), (7, .int .i64 kind), (8, .int .i64 nv), (9, .int .u64 more), (23, .slice xB xN xC), (36, .bool true)] (by simp only [b37, Bool.not_true, Bool.not_false]) ?_
      clear b37
      refine S_condT (.tmp 36) morainelaw01_WordApart.k11 morainelaw01_WordApart.k12 (by kernel_rfl) (by kernel_rfl) ?_
      refine S_seq morainelaw01_WordApart.k87 morainelaw01_WordApart.k88 (by kernel_rfl) ?_
      refine S_region 4 (Code.ops morainelaw01_WordApart.k87) (by kernel_rfl) ?_
      refine N_run 1 [(2, .int .i32 c), (3, .int .i32 d), (4, .int .i64 tag), (5, .int .i64 addr), (6, .int .i64 other), (7, .int .i64 kind), (8, .int .i64 nv), (9, .int .u64 more), (23, .slice xB xN xC), (38, .int .i64 y)] (fun w => by kernel_rfl) ?_
      refine N_call (some 39) 9 #[.int .i64 y] (fun w => by kernel_rfl) h ?_
      rintro v_15 H22 ⟨ra_7, rb_7, rfl, h⟩
      refine ⟨[(2, .int .i32 c), (3, .int .i32 d), (4, .int .i64 tag), (5, .int .i64 addr), (6, .int .i64 other), (7, .int .i64 kind), (8, .int .i64 nv), (9, .int .u64 more), (23, .slice xB xN xC), (39, .tuple #[.int .u64 ra_7, .int .i64 rb_7])], ps (by kernel_rfl), ?_⟩
      refine N_run 5 [(2, .int .i32 c), (3, .int .i32 d), (4, .int .i64 tag), (5, .int .i64 addr), (6, .int .i64 other), (7, .int .i64 kind), (8, .int .i64 nv), (9, .int .u64 more), (21, .int .u64 ra_7), (22, .int .i64 rb_7), (23, .slice xB xN xC)] (fun w => by kernel_rfl) ?_
      refine N_end (by kernel_rfl) ?_
      refine S_then ?_
      refine S_region 5 (Code.ops morainelaw01_WordApart.k88) (by kernel_rfl) ?_
      refine N_run 3 [(2, .int .i32 c), (3, .int .i32 d), (4, .int .i64 tag), (5, .int .i64 addr), (6, .int .i64 other), (7, .int .i64 kind), (8, .int .i64 nv), (9, .int .u64 more), (42, .slice xB xN xC), (43, .int .u64 ra_7), (44, .int .i64 rb_7)] (fun w => by kernel_rfl) ?_
      refine N_call (some 45) 17 #[.slice xB xN xC, .int .u64 ra_7, .int .i64 rb_7] (fun w => by kernel_rfl) h ?_
      rintro v_16 H23 ⟨xB_7, xN_7, xC_7, rfl, h⟩
      refine ⟨[(2, .int .i32 c), (3, .int .i32 d), (4, .int .i64 tag), (5, .int .i64 addr), (6, .int .i64 other), (7, .int .i64 kind), (8, .int .i64 nv), (9, .int .u64 more), (45, .slice xB_7 xN_7 xC_7)], ps (by kernel_rfl), ?_⟩
      refine N_run 1 [(2, .int .i32 c), (3, .int .i32 d), (4, .int .i64 tag), (5, .int .i64 addr), (6, .int .i64 other), (7, .int .i64 kind), (8, .int .i64 nv), (9, .int .u64 more), (23, .slice xB_7 xN_7 xC_7)] (fun w => by kernel_rfl) ?_
      refine N_end (by kernel_rfl) ?_
      refine S_then ?_
      exact S_meet ((xB_7, xN_7, xC_7) : (Option Addr) × Nat × Nat) (sb (by kernel_rfl)) h

end Go.Proofs.Ytgofbcapgikboaa
