/-
  Written by a program of mine (gen.py): for functions of this translation a predicate transformer over heaps (.pt), and the proof that it is sound for the call (.link).
-/
import Derived.Test.YtfohlkiikppefaaFnsC
set_option linter.unusedSimpArgs false
set_option linter.unusedVariables false
set_option maxHeartbeats 1000000
namespace Go.Proofs.Ytfohlkiikppefaa
open Go
/-! moraine/morainelaw20.FrameRow -/
noncomputable def morainelaw20_FrameRow.k0 : Code := Func.code Try.f4
noncomputable def morainelaw20_FrameRow.k1 : Code := Code.fa morainelaw20_FrameRow.k0
noncomputable def morainelaw20_FrameRow.k2 : Code := Code.fb morainelaw20_FrameRow.k0
noncomputable def morainelaw20_FrameRow.k3 : Code := Code.fa morainelaw20_FrameRow.k2
noncomputable def morainelaw20_FrameRow.k4 : Code := Code.fb morainelaw20_FrameRow.k2
noncomputable def morainelaw20_FrameRow.k5 : Code := Code.fa morainelaw20_FrameRow.k4
noncomputable def morainelaw20_FrameRow.k6 : Code := Code.fb morainelaw20_FrameRow.k4
noncomputable def morainelaw20_FrameRow.k7 : Code := Code.fa morainelaw20_FrameRow.k5
noncomputable def morainelaw20_FrameRow.k8 : Code := Code.fb morainelaw20_FrameRow.k5
noncomputable def morainelaw20_FrameRow.k9 : Code := Code.fa morainelaw20_FrameRow.k8
noncomputable def morainelaw20_FrameRow.k10 : Code := Code.fb morainelaw20_FrameRow.k8
noncomputable def morainelaw20_FrameRow.k11 : Code := Code.fa morainelaw20_FrameRow.k9
noncomputable def morainelaw20_FrameRow.k12 : Code := Code.fb morainelaw20_FrameRow.k9
noncomputable def morainelaw20_FrameRow.k13 : Code := Code.fa morainelaw20_FrameRow.k6
noncomputable def morainelaw20_FrameRow.k14 : Code := Code.fb morainelaw20_FrameRow.k6
noncomputable def morainelaw20_FrameRow.k15 : Code := Code.fa morainelaw20_FrameRow.k14
noncomputable def morainelaw20_FrameRow.k16 : Code := Code.fb morainelaw20_FrameRow.k14
noncomputable def morainelaw20_FrameRow.k17 : Code := Code.fa morainelaw20_FrameRow.k15
noncomputable def morainelaw20_FrameRow.k18 : Code := Code.fb morainelaw20_FrameRow.k15
noncomputable def morainelaw20_FrameRow.k19 : Code := Code.fa morainelaw20_FrameRow.k18
noncomputable def morainelaw20_FrameRow.k20 : Code := Code.fa morainelaw20_FrameRow.k19
noncomputable def morainelaw20_FrameRow.k21 : Code := Code.fa morainelaw20_FrameRow.k20
noncomputable def morainelaw20_FrameRow.k22 : Code := Code.fb morainelaw20_FrameRow.k20
noncomputable def morainelaw20_FrameRow.k23 : Code := Code.fa morainelaw20_FrameRow.k21
noncomputable def morainelaw20_FrameRow.k24 : Code := Code.fb morainelaw20_FrameRow.k21
noncomputable def morainelaw20_FrameRow.k25 : Code := Code.fa morainelaw20_FrameRow.k24
noncomputable def morainelaw20_FrameRow.k26 : Code := Code.fb morainelaw20_FrameRow.k24
noncomputable def morainelaw20_FrameRow.k27 : Code := Code.fa morainelaw20_FrameRow.k22
noncomputable def morainelaw20_FrameRow.k28 : Code := Code.fb morainelaw20_FrameRow.k22
noncomputable def morainelaw20_FrameRow.k29 : Code := Code.fa morainelaw20_FrameRow.k27
noncomputable def morainelaw20_FrameRow.k30 : Code := Code.fa morainelaw20_FrameRow.k29
noncomputable def morainelaw20_FrameRow.k31 : Code := Code.fb morainelaw20_FrameRow.k29
noncomputable def morainelaw20_FrameRow.k32 : Code := Code.fa morainelaw20_FrameRow.k31
noncomputable def morainelaw20_FrameRow.k33 : Code := Code.fb morainelaw20_FrameRow.k31
noncomputable def morainelaw20_FrameRow.k34 : Code := Code.fa morainelaw20_FrameRow.k32
noncomputable def morainelaw20_FrameRow.k35 : Code := Code.fb morainelaw20_FrameRow.k32
noncomputable def morainelaw20_FrameRow.k36 : Code := Code.fa morainelaw20_FrameRow.k35
noncomputable def morainelaw20_FrameRow.k37 : Code := Code.fa morainelaw20_FrameRow.k36
noncomputable def morainelaw20_FrameRow.k38 : Code := Code.fa morainelaw20_FrameRow.k37
noncomputable def morainelaw20_FrameRow.k39 : Code := Code.fb morainelaw20_FrameRow.k37
noncomputable def morainelaw20_FrameRow.k40 : Code := Code.fa morainelaw20_FrameRow.k38
noncomputable def morainelaw20_FrameRow.k41 : Code := Code.fb morainelaw20_FrameRow.k38
noncomputable def morainelaw20_FrameRow.k42 : Code := Code.fa morainelaw20_FrameRow.k41
noncomputable def morainelaw20_FrameRow.k43 : Code := Code.fb morainelaw20_FrameRow.k41
noncomputable def morainelaw20_FrameRow.k44 : Code := Code.fa morainelaw20_FrameRow.k39
noncomputable def morainelaw20_FrameRow.k45 : Code := Code.fb morainelaw20_FrameRow.k39
noncomputable def morainelaw20_FrameRow.k46 : Code := Code.fa morainelaw20_FrameRow.k44
noncomputable def morainelaw20_FrameRow.k47 : Code := Code.fa morainelaw20_FrameRow.k33
noncomputable def morainelaw20_FrameRow.k48 : Code := Code.fb morainelaw20_FrameRow.k33
noncomputable def morainelaw20_FrameRow.k49 : Code := Code.fa morainelaw20_FrameRow.k47
noncomputable def morainelaw20_FrameRow.k50 : Code := Code.fb morainelaw20_FrameRow.k47
noncomputable def morainelaw20_FrameRow.k51 : Code := Code.fa morainelaw20_FrameRow.k50
noncomputable def morainelaw20_FrameRow.k52 : Code := Code.fb morainelaw20_FrameRow.k50
noncomputable def morainelaw20_FrameRow.k53 : Code := Code.fa morainelaw20_FrameRow.k51
noncomputable def morainelaw20_FrameRow.k54 : Code := Code.fb morainelaw20_FrameRow.k51
noncomputable def morainelaw20_FrameRow.k55 : Code := Code.fa morainelaw20_FrameRow.k48
noncomputable def morainelaw20_FrameRow.k56 : Code := Code.fb morainelaw20_FrameRow.k48
noncomputable def morainelaw20_FrameRow.k57 : Code := Code.fa morainelaw20_FrameRow.k56
noncomputable def morainelaw20_FrameRow.k58 : Code := Code.fb morainelaw20_FrameRow.k56
noncomputable def morainelaw20_FrameRow.k59 : Code := Code.fa morainelaw20_FrameRow.k58
noncomputable def morainelaw20_FrameRow.k60 : Code := Code.fb morainelaw20_FrameRow.k58
noncomputable def morainelaw20_FrameRow.k61 : Code := Code.fa morainelaw20_FrameRow.k60
noncomputable def morainelaw20_FrameRow.k62 : Code := Code.fb morainelaw20_FrameRow.k60
noncomputable def morainelaw20_FrameRow.k63 : Code := Code.fa morainelaw20_FrameRow.k61
noncomputable def morainelaw20_FrameRow.k64 : Code := Code.fb morainelaw20_FrameRow.k61
noncomputable def morainelaw20_FrameRow.k65 : Code := Code.fa morainelaw20_FrameRow.k16
noncomputable def morainelaw20_FrameRow.k66 : Code := Code.fb morainelaw20_FrameRow.k16
noncomputable def morainelaw20_FrameRow.k67 : Code := Code.fa morainelaw20_FrameRow.k65
noncomputable def morainelaw20_FrameRow.k68 : Code := Code.fb morainelaw20_FrameRow.k65
noncomputable def morainelaw20_FrameRow.k69 : Code := Code.fa morainelaw20_FrameRow.k68
noncomputable def morainelaw20_FrameRow.k70 : Code := Code.fa morainelaw20_FrameRow.k69
noncomputable def morainelaw20_FrameRow.k71 : Code := Code.fa morainelaw20_FrameRow.k70
noncomputable def morainelaw20_FrameRow.k72 : Code := Code.fb morainelaw20_FrameRow.k70
noncomputable def morainelaw20_FrameRow.k73 : Code := Code.fa morainelaw20_FrameRow.k71
noncomputable def morainelaw20_FrameRow.k74 : Code := Code.fb morainelaw20_FrameRow.k71
noncomputable def morainelaw20_FrameRow.k75 : Code := Code.fa morainelaw20_FrameRow.k74
noncomputable def morainelaw20_FrameRow.k76 : Code := Code.fb morainelaw20_FrameRow.k74
noncomputable def morainelaw20_FrameRow.k77 : Code := Code.fa morainelaw20_FrameRow.k72
noncomputable def morainelaw20_FrameRow.k78 : Code := Code.fb morainelaw20_FrameRow.k72
noncomputable def morainelaw20_FrameRow.k79 : Code := Code.fa morainelaw20_FrameRow.k77
noncomputable def morainelaw20_FrameRow.k80 : Code := Code.fa morainelaw20_FrameRow.k79
noncomputable def morainelaw20_FrameRow.k81 : Code := Code.fb morainelaw20_FrameRow.k79
noncomputable def morainelaw20_FrameRow.k82 : Code := Code.fa morainelaw20_FrameRow.k81
noncomputable def morainelaw20_FrameRow.k83 : Code := Code.fb morainelaw20_FrameRow.k81
noncomputable def morainelaw20_FrameRow.k84 : Code := Code.fa morainelaw20_FrameRow.k82
noncomputable def morainelaw20_FrameRow.k85 : Code := Code.fb morainelaw20_FrameRow.k82
noncomputable def morainelaw20_FrameRow.k86 : Code := Code.fa morainelaw20_FrameRow.k85
noncomputable def morainelaw20_FrameRow.k87 : Code := Code.fb morainelaw20_FrameRow.k85
noncomputable def morainelaw20_FrameRow.k88 : Code := Code.fa morainelaw20_FrameRow.k83
noncomputable def morainelaw20_FrameRow.k89 : Code := Code.fb morainelaw20_FrameRow.k83
noncomputable def morainelaw20_FrameRow.k90 : Code := Code.fa morainelaw20_FrameRow.k88
noncomputable def morainelaw20_FrameRow.k91 : Code := Code.fb morainelaw20_FrameRow.k88
noncomputable def morainelaw20_FrameRow.k92 : Code := Code.fa morainelaw20_FrameRow.k91
noncomputable def morainelaw20_FrameRow.k93 : Code := Code.fa morainelaw20_FrameRow.k92
noncomputable def morainelaw20_FrameRow.k94 : Code := Code.fa morainelaw20_FrameRow.k93
noncomputable def morainelaw20_FrameRow.k95 : Code := Code.fb morainelaw20_FrameRow.k93
noncomputable def morainelaw20_FrameRow.k96 : Code := Code.fa morainelaw20_FrameRow.k94
noncomputable def morainelaw20_FrameRow.k97 : Code := Code.fb morainelaw20_FrameRow.k94
noncomputable def morainelaw20_FrameRow.k98 : Code := Code.fa morainelaw20_FrameRow.k97
noncomputable def morainelaw20_FrameRow.k99 : Code := Code.fb morainelaw20_FrameRow.k97
noncomputable def morainelaw20_FrameRow.k100 : Code := Code.fa morainelaw20_FrameRow.k95
noncomputable def morainelaw20_FrameRow.k101 : Code := Code.fb morainelaw20_FrameRow.k95
noncomputable def morainelaw20_FrameRow.k102 : Code := Code.fa morainelaw20_FrameRow.k100
noncomputable def morainelaw20_FrameRow.k103 : Code := Code.fa morainelaw20_FrameRow.k102
noncomputable def morainelaw20_FrameRow.k104 : Code := Code.fb morainelaw20_FrameRow.k102
noncomputable def morainelaw20_FrameRow.k105 : Code := Code.fa morainelaw20_FrameRow.k104
noncomputable def morainelaw20_FrameRow.k106 : Code := Code.fb morainelaw20_FrameRow.k104
noncomputable def morainelaw20_FrameRow.k107 : Code := Code.fa morainelaw20_FrameRow.k106
noncomputable def morainelaw20_FrameRow.k108 : Code := Code.fb morainelaw20_FrameRow.k106
noncomputable def morainelaw20_FrameRow.k109 : Code := Code.fa morainelaw20_FrameRow.k107
noncomputable def morainelaw20_FrameRow.k110 : Code := Code.fb morainelaw20_FrameRow.k107
noncomputable def morainelaw20_FrameRow.k111 : Code := Code.fa morainelaw20_FrameRow.k89
noncomputable def morainelaw20_FrameRow.k112 : Code := Code.fb morainelaw20_FrameRow.k89
noncomputable def morainelaw20_FrameRow.k113 : Code := Code.fa morainelaw20_FrameRow.k112
noncomputable def morainelaw20_FrameRow.k114 : Code := Code.fb morainelaw20_FrameRow.k112
noncomputable def morainelaw20_FrameRow.k115 : Code := Code.fa morainelaw20_FrameRow.k114
noncomputable def morainelaw20_FrameRow.k116 : Code := Code.fb morainelaw20_FrameRow.k114
noncomputable def morainelaw20_FrameRow.k117 : Code := Code.fa morainelaw20_FrameRow.k115
noncomputable def morainelaw20_FrameRow.k118 : Code := Code.fb morainelaw20_FrameRow.k115
noncomputable def morainelaw20_FrameRow.k119 : Code := Code.fa morainelaw20_FrameRow.k86
noncomputable def morainelaw20_FrameRow.k120 : Code := Code.fb morainelaw20_FrameRow.k86
noncomputable def morainelaw20_FrameRow.k121 : Code := Code.fa morainelaw20_FrameRow.k66
noncomputable def morainelaw20_FrameRow.k122 : Code := Code.fb morainelaw20_FrameRow.k66
noncomputable def morainelaw20_FrameRow.k123 : Code := Code.fa morainelaw20_FrameRow.k122
noncomputable def morainelaw20_FrameRow.k124 : Code := Code.fb morainelaw20_FrameRow.k122
def morainelaw20_FrameRow.pt (kindsB : Option Addr) (kindsN : Nat) (kindsC : Nat) (fieldsB : Option Addr) (fieldsN : Nat) (fieldsC : Nat) (H : Array Obj) (R : Value → Array Obj → Prop) : Prop :=
 obj_New.C 400 H (fun v H1 => ∃ ra : Option Addr, ∃ rb : Int, v = .tuple #[.pointer ra, .int .i64 rb] ∧ 
  if (((rb != 0) || (decide ((kindsN : Int) > 100))) || (decide ((fieldsN : Int) > 100))) = true then (
   ∃ J : Bool → Array Obj → Prop, (
    if rb = 0 then (
     morainelaw20_awake.C  H1 (fun v_2 H3 => ∃ x : Bool, v_2 = .bool x ∧ 
      J x H3))
    else
    J false H1) ∧ ∀ (s4 : Bool) (H2 : Array Obj), J s4 H2 →
   R (.bool s4) H2)
  else
  ∃ (I21 : Int → Int → Array Obj → Prop) (m21 : Int → Int → Array Obj → Nat), I21 20 0 H1 ∧ ∀ (row : Int) (i : Int) (H4 : Array Obj), I21 row i H4 →
  if ((decide (i < (kindsN : Int))) && (decide (i < (fieldsN : Int)))) = true then (
   ∃ (I38 : (Option Addr) → Nat → Nat → Int → Array Obj → Prop) (m38 : (Option Addr) → Nat → Nat → Int → Array Obj → Nat), I38 none 0 0 0 H4 ∧ ∀ (lB : Option Addr) (lN : Nat) (lC : Nat) (k : Int) (H5 : Array Obj), I38 lB lN lC k H5 →
   ∃ fieldsBA : Addr, fieldsB = some fieldsBA ∧
   ((0 : Int) ≤ i ∧ i < (fieldsN : Int)) ∧
   ∃ xB : Option Addr, ∃ xN : Nat, ∃ xC : Nat, hat H5 (fieldsBA.add (Int.toNat i * 1)) = some (.slice xB xN xC) ∧
   if k < (xN : Int) then (
    ((0 : Int) ≤ i ∧ i < (fieldsN : Int)) ∧
    ∃ xB_2 : Option Addr, ∃ xN_2 : Nat, ∃ xC_2 : Nat, hat H5 (fieldsBA.add (Int.toNat i * 1)) = some (.slice xB_2 xN_2 xC_2) ∧
    ∃ xB2A : Addr, xB_2 = some xB2A ∧
    ((0 : Int) ≤ k ∧ k < (xN_2 : Int)) ∧
    ∃ x_2 : Int, hat H5 (xB2A.add (Int.toNat k * 1)) = some (.int .u32 x_2) ∧
    ∀ (b : Nat) (H6 : Array Obj), b = H5.size → H6 = H5.push (.cells #[.int .u64 (ishl .u64 (IntKind.wrap .u64 x_2) 3)] 29) →
    appendK 1 29 8 [.int .u64 0] lB lN lC (some (Addr.mk b 0 none)) 1 H6 (fun ap apC H7 =>
     (I38 ap (lN + 1) apC (IntKind.wrap .i64 (k + 1)) H7 ∧ m38 ap (lN + 1) apC (IntKind.wrap .i64 (k + 1)) H7 < m38 lB lN lC k H5)))
   else
   if (lN : Int) > 50 then (
    morainelaw20_awake.C  H5 (fun v_3 H8 => ∃ x_3 : Bool, v_3 = .bool x_3 ∧ 
     R (.bool x_3) H8))
   else
   ∃ kindsBA : Addr, kindsB = some kindsBA ∧
   ((0 : Int) ≤ i ∧ i < (kindsN : Int)) ∧
   ∃ x_4 : Int, hat H5 (kindsBA.add (Int.toNat i * 1)) = some (.int .i64 x_4) ∧
   frame_Push.C ra (iand .i64 x_4 65535) row lB lN lC H5 (fun v_4 H9 => ∃ ra_2 : Int, ∃ rb_2 : Int, v_4 = .tuple #[.int .u64 ra_2, .int .i64 rb_2] ∧ 
    if rb_2 = 0 then (
     (I21 ra_2 (IntKind.wrap .i64 (i + 1)) H9 ∧ m21 ra_2 (IntKind.wrap .i64 (i + 1)) H9 < m21 row i H4))
    else
    R (.bool false) H9))
  else
  ∃ (I71 : Int → Int → Array Obj → Prop) (m71 : Int → Int → Array Obj → Nat), I71 row (IntKind.wrap .i64 ((if (fieldsN : Int) < (kindsN : Int) then (fieldsN : Int) else (kindsN : Int)) - 1)) H4 ∧ ∀ (row_2 : Int) (i_2 : Int) (H10 : Array Obj), I71 row_2 i_2 H10 →
  if i_2 ≥ 0 then (
   frame_Kind.C ra row_2 H10 (fun v_5 H11 => ∃ ra_3 : Int, ∃ rb_3 : Int, v_5 = .tuple #[.int .i64 ra_3, .int .i64 rb_3] ∧ 
    if rb_3 = 0 then (
     ∃ kindsBA_2 : Addr, kindsB = some kindsBA_2 ∧
     ((0 : Int) ≤ i_2 ∧ i_2 < (kindsN : Int)) ∧
     ∃ x_5 : Int, hat H11 (kindsBA_2.add (Int.toNat i_2 * 1)) = some (.int .i64 x_5) ∧
     if ra_3 = (iand .i64 x_5 65535) then (
      ∃ fieldsBA_2 : Addr, fieldsB = some fieldsBA_2 ∧
      ((0 : Int) ≤ i_2 ∧ i_2 < (fieldsN : Int)) ∧
      ∃ xB_3 : Option Addr, ∃ xN_3 : Nat, ∃ xC_3 : Nat, hat H11 (fieldsBA_2.add (Int.toNat i_2 * 1)) = some (.slice xB_3 xN_3 xC_3) ∧
      frame_Fields.C ra row_2 H11 (fun v_6 H12 => ∃ x_6 : Int, v_6 = .int .i64 x_6 ∧ RowAt H12 (fieldsBA_2.add (Int.toNat i_2 * 1)) 0 [.slice xB_3 xN_3 xC_3] ∧ 
       if x_6 = (xN_3 : Int) then (
        ∃ (I94 : Int → Array Obj → Prop) (m94 : Int → Array Obj → Nat), I94 0 H12 ∧ ∀ (nv : Int) (H13 : Array Obj), I94 nv H13 →
        ((0 : Int) ≤ i_2 ∧ i_2 < (fieldsN : Int)) ∧
        ∃ xB_4 : Option Addr, ∃ xN_4 : Nat, ∃ xC_4 : Nat, hat H13 (fieldsBA_2.add (Int.toNat i_2 * 1)) = some (.slice xB_4 xN_4 xC_4) ∧
        if nv < (xN_4 : Int) then (
         frame_Field.C ra row_2 nv H13 (fun v_7 H14 => ∃ ra_4 : Int, ∃ rb_4 : Int, v_7 = .tuple #[.int .u64 ra_4, .int .i64 rb_4] ∧ 
          if rb_4 = 0 then (
           ((0 : Int) ≤ i_2 ∧ i_2 < (fieldsN : Int)) ∧
           ∃ xB_5 : Option Addr, ∃ xN_5 : Nat, ∃ xC_5 : Nat, hat H14 (fieldsBA_2.add (Int.toNat i_2 * 1)) = some (.slice xB_5 xN_5 xC_5) ∧
           ∃ xB5A : Addr, xB_5 = some xB5A ∧
           ((0 : Int) ≤ nv ∧ nv < (xN_5 : Int)) ∧
           ∃ x_7 : Int, hat H14 (xB5A.add (Int.toNat nv * 1)) = some (.int .u32 x_7) ∧
           if ra_4 = (ishl .u64 (IntKind.wrap .u64 x_7) 3) then (
            (I94 (IntKind.wrap .i64 (nv + 1)) H14 ∧ m94 (IntKind.wrap .i64 (nv + 1)) H14 < m94 nv H13))
           else
           R (.bool false) H14)
          else
          R (.bool false) H14))
        else
        frame_Next.C ra row_2 H13 (fun v_8 H15 => ∃ ra_5 : Int, ∃ rb_5 : Int, v_8 = .tuple #[.int .u64 ra_5, .int .i64 rb_5] ∧ 
         if rb_5 = 0 then (
          (I71 ra_5 (IntKind.wrap .i64 (i_2 - 1)) H15 ∧ m71 ra_5 (IntKind.wrap .i64 (i_2 - 1)) H15 < m71 row_2 i_2 H10))
         else
         R (.bool false) H15))
       else
       R (.bool false) H12))
     else
     R (.bool false) H11)
    else
    R (.bool false) H11))
  else
  frame_Next.C ra row_2 H10 (fun v_9 H16 => ∃ ra_6 : Int, ∃ rb_6 : Int, v_9 = .tuple #[.int .u64 ra_6, .int .i64 rb_6] ∧ 
   if row_2 = 20 then (
    if rb_6 = 3 then (
     morainelaw20_awake.C  H16 (fun v_10 H17 => ∃ x_8 : Bool, v_10 = .bool x_8 ∧ 
      R (.bool x_8) H17))
    else
    R (.bool false) H16)
   else
   R (.bool false) H16))
set_option maxRecDepth 100000 in
theorem morainelaw20_FrameRow.link {kindsB : Option Addr} {kindsN : Nat} {kindsC : Nat} {fieldsB : Option Addr} {fieldsN : Nat} {fieldsC : Nat} {H : Array Obj} {R : Value → Array Obj → Prop} (h : morainelaw20_FrameRow.pt kindsB kindsN kindsC fieldsB fieldsN fieldsC H R) : morainelaw20_FrameRow.C kindsB kindsN kindsC fieldsB fieldsN fieldsC H R := by
  refine S_enter (fn := Try.f4) (c := morainelaw20_FrameRow.k0) 184 Try.func4 (by kernel_rfl) (by kernel_rfl) (Nat.le_of_ble_eq_true (by kernel_rfl)) ?_
  intro w0 Q hQ
  unfold morainelaw20_FrameRow.pt at h
  refine S_sub [(0, .slice kindsB kindsN kindsC), (1, .slice fieldsB fieldsN fieldsC)] (sb (by kernel_rfl)) ?_
  refine S_seq morainelaw20_FrameRow.k1 morainelaw20_FrameRow.k2 (by kernel_rfl) ?_
  refine S_region 0 (Code.ops morainelaw20_FrameRow.k1) (by kernel_rfl) ?_
  refine N_run 1 [(0, .slice kindsB kindsN kindsC), (1, .slice fieldsB fieldsN fieldsC)] (fun w => by kernel_rfl) ?_
  refine N_end (by kernel_rfl) ?_
  refine S_then ?_
  refine S_seq morainelaw20_FrameRow.k3 morainelaw20_FrameRow.k4 (by kernel_rfl) ?_
  refine S_region 1 (Code.ops morainelaw20_FrameRow.k3) (by kernel_rfl) ?_
  refine N_call (some 21) 11 #[.int .i64 400] (fun w => by kernel_rfl) h ?_; clear h
  rintro v H1 ⟨ra, rb, rfl, h⟩
  refine ⟨[(0, .slice kindsB kindsN kindsC), (1, .slice fieldsB fieldsN fieldsC), (21, .tuple #[.pointer ra, .int .i64 rb])], ps (by kernel_rfl), ?_⟩
  refine N_run 5 [(0, .slice kindsB kindsN kindsC), (1, .slice fieldsB fieldsN fieldsC), (5, .pointer ra), (6, .int .i64 rb)] (fun w => by kernel_rfl) ?_
  refine N_end (by kernel_rfl) ?_
  refine S_then ?_
  refine S_seq morainelaw20_FrameRow.k5 morainelaw20_FrameRow.k6 (by kernel_rfl) ?_
  refine S_seq morainelaw20_FrameRow.k7 morainelaw20_FrameRow.k8 (by kernel_rfl) ?_
  refine S_region 2 (Code.ops morainelaw20_FrameRow.k7) (by kernel_rfl) ?_
  refine N_cut [(0, .slice kindsB kindsN kindsC), (1, .slice fieldsB fieldsN fieldsC), (5, .pointer ra), (6, .int .i64 rb), (35, .bool (((rb != 0) || (decide ((kindsN : Int) > 100))) || (decide ((fieldsN : Int) > 100))))] ?_ ?_
  · refine S_then ?_
    by_cases c5 : (((rb != 0) || (decide ((kindsN : Int) > 100))) || (decide ((fieldsN : Int) > 100))) = true
    · rw [if_pos c5] at h
      have b6 : (((rb != 0) || (decide ((kindsN : Int) > 100))) || (decide ((fieldsN : Int) > 100))) = true := c5
      refine S_env [(0, .slice kindsB kindsN kindsC), (1, .slice fieldsB fieldsN fieldsC), (5, .pointer ra), (6, .int .i64 rb), (35, .bool true)] (by simp only [b6, Bool.not_true, Bool.not_false]) ?_
      clear b6
      refine S_condT (.tmp 35) morainelaw20_FrameRow.k9 morainelaw20_FrameRow.k10 (by kernel_rfl) (by kernel_rfl) ?_
      refine S_seq morainelaw20_FrameRow.k11 morainelaw20_FrameRow.k12 (by kernel_rfl) ?_
      obtain ⟨J, h, j8⟩ := h
      refine S_join (σ := Bool) (fun s_ => [(4, .bool s_)]) (fun s_ H => J s_ H) ?_ ?_
      · rintro s4 H2 j9
        replace h := j8 s4 H2 j9
        refine S_sub [(4, .bool s4)] (sb (by kernel_rfl)) ?_
        refine S_then ?_
        refine S_ret (by kernel_rfl) ?_
        show At _ _ _ _ (Q .ret)
        exact S_done (fn := Try.f4) [.bool s4] hQ (show ResOK _ _ _ [.tmp 4] _ from .tmp (by kernel_rfl) (.nil)) h
      · refine S_region 3 (Code.ops morainelaw20_FrameRow.k11) (by kernel_rfl) ?_
        refine N_run 3 [(38, .bool (rb == 0))] (fun w => by kernel_rfl) ?_
        by_cases c10 : rb = 0
        · rw [if_pos c10] at h
          have b11 : (rb == 0) = true := beq_iff_eq.mpr c10
          refine N_env [(38, .bool true)] (by simp only [b11, Bool.not_true, Bool.not_false]) ?_
          clear b11
          refine N_call (some 39) 12 #[] (fun w => by kernel_rfl) h ?_; clear h
          rintro v_2 H3 ⟨x, rfl, h⟩
          refine ⟨[(38, .bool true), (39, .bool x)], ps (by kernel_rfl), ?_⟩
          refine N_run 2 [(4, .bool x)] (fun w => by kernel_rfl) ?_
          refine N_end (by kernel_rfl) ?_
          refine S_then ?_
          exact S_meet (x : Bool) (sb (by kernel_rfl)) h
        · rw [if_neg c10] at h
          have b11 : (rb == 0) = false := beq_eq_false_iff_ne.mpr c10
          refine N_env [(38, .bool false)] (by simp only [b11, Bool.not_true, Bool.not_false]) ?_
          clear b11
          refine N_run 3 [(4, .bool false)] (fun w => by kernel_rfl) ?_
          refine N_end (by kernel_rfl) ?_
          refine S_then ?_
          exact S_meet (false : Bool) (sb (by kernel_rfl)) h
    · rw [if_neg c5] at h
      have b6 : (((rb != 0) || (decide ((kindsN : Int) > 100))) || (decide ((fieldsN : Int) > 100))) = false := eq_false_of_ne_true c5
      refine S_env [(0, .slice kindsB kindsN kindsC), (1, .slice fieldsB fieldsN fieldsC), (5, .pointer ra), (6, .int .i64 rb), (35, .bool false)] (by simp only [b6, Bool.not_true, Bool.not_false]) ?_
      clear b6
      refine S_condF (.tmp 35) morainelaw20_FrameRow.k9 morainelaw20_FrameRow.k10 (by kernel_rfl) (by kernel_rfl) ?_
      refine S_skip (by kernel_rfl) ?_
      refine S_then ?_
      refine S_seq morainelaw20_FrameRow.k13 morainelaw20_FrameRow.k14 (by kernel_rfl) ?_
      refine S_region 4 (Code.ops morainelaw20_FrameRow.k13) (by kernel_rfl) ?_
      refine N_run 1 [(0, .slice kindsB kindsN kindsC), (1, .slice fieldsB fieldsN fieldsC), (5, .pointer ra), (7, .int .u64 20)] (fun w => by kernel_rfl) ?_
      refine N_end (by kernel_rfl) ?_
      refine S_then ?_
      refine S_seq morainelaw20_FrameRow.k15 morainelaw20_FrameRow.k16 (by kernel_rfl) ?_
      refine S_seq morainelaw20_FrameRow.k17 morainelaw20_FrameRow.k18 (by kernel_rfl) ?_
      refine S_region 5 (Code.ops morainelaw20_FrameRow.k17) (by kernel_rfl) ?_
      refine N_run 1 [(0, .slice kindsB kindsN kindsC), (1, .slice fieldsB fieldsN fieldsC), (5, .pointer ra), (7, .int .u64 20), (8, .int .i64 0)] (fun w => by kernel_rfl) ?_
      refine N_end (by kernel_rfl) ?_
      refine S_then ?_
      refine S_block 0 morainelaw20_FrameRow.k19 (by kernel_rfl) ?_
      obtain ⟨I21, m21, i12, i13⟩ := h
      refine S_loop (x := morainelaw20_FrameRow.k20) (σ := Int × Int) (fun s_ => [(0, .slice kindsB kindsN kindsC), (1, .slice fieldsB fieldsN fieldsC), (5, .pointer ra), (7, .int .u64 s_.1), (8, .int .i64 s_.2)]) (fun s_ H => I21 s_.1 s_.2 H) (fun s_ H => m21 s_.1 s_.2 H) ((20, 0) : Int × Int) (by kernel_rfl) i12 (sb (by kernel_rfl)) ?_
      rintro ⟨row, i⟩ H4 i14
      have h := i13 row i H4 i14
      refine S_sub [(0, .slice kindsB kindsN kindsC), (1, .slice fieldsB fieldsN fieldsC), (5, .pointer ra), (7, .int .u64 row), (8, .int .i64 i)] (sb (by kernel_rfl)) ?_
      refine S_seq morainelaw20_FrameRow.k21 morainelaw20_FrameRow.k22 (by kernel_rfl) ?_
      refine S_seq morainelaw20_FrameRow.k23 morainelaw20_FrameRow.k24 (by kernel_rfl) ?_
      refine S_region 6 (Code.ops morainelaw20_FrameRow.k23) (by kernel_rfl) ?_
      refine N_cut [(0, .slice kindsB kindsN kindsC), (1, .slice fieldsB fieldsN fieldsC), (5, .pointer ra), (7, .int .u64 row), (8, .int .i64 i), (50, .bool ((decide (i < (kindsN : Int))) && (decide (i < (fieldsN : Int)))))] ?_ ?_
      · refine S_then ?_
        by_cases c17 : ((decide (i < (kindsN : Int))) && (decide (i < (fieldsN : Int)))) = true
        · rw [if_pos c17] at h
          have b18 : ((decide (i < (kindsN : Int))) && (decide (i < (fieldsN : Int)))) = true := c17
          refine S_env [(0, .slice kindsB kindsN kindsC), (1, .slice fieldsB fieldsN fieldsC), (5, .pointer ra), (7, .int .u64 row), (8, .int .i64 i), (50, .bool true)] (by simp only [b18, Bool.not_true, Bool.not_false]) ?_
          clear b18
          refine S_condT (.tmp 50) morainelaw20_FrameRow.k25 morainelaw20_FrameRow.k26 (by kernel_rfl) (by kernel_rfl) ?_
          refine S_skip (by kernel_rfl) ?_
          refine S_then ?_
          refine S_seq morainelaw20_FrameRow.k27 morainelaw20_FrameRow.k28 (by kernel_rfl) ?_
          refine S_block 1 morainelaw20_FrameRow.k29 (by kernel_rfl) ?_
          refine S_seq morainelaw20_FrameRow.k30 morainelaw20_FrameRow.k31 (by kernel_rfl) ?_
          refine S_region 8 (Code.ops morainelaw20_FrameRow.k30) (by kernel_rfl) ?_
          refine N_run 1 [(0, .slice kindsB kindsN kindsC), (1, .slice fieldsB fieldsN fieldsC), (5, .pointer ra), (7, .int .u64 row), (8, .int .i64 i), (9, .slice none 0 0)] (fun w => by kernel_rfl) ?_
          refine N_end (by kernel_rfl) ?_
          refine S_then ?_
          refine S_seq morainelaw20_FrameRow.k32 morainelaw20_FrameRow.k33 (by kernel_rfl) ?_
          refine S_seq morainelaw20_FrameRow.k34 morainelaw20_FrameRow.k35 (by kernel_rfl) ?_
          refine S_region 9 (Code.ops morainelaw20_FrameRow.k34) (by kernel_rfl) ?_
          refine N_run 1 [(0, .slice kindsB kindsN kindsC), (1, .slice fieldsB fieldsN fieldsC), (5, .pointer ra), (7, .int .u64 row), (8, .int .i64 i), (9, .slice none 0 0), (10, .int .i64 0)] (fun w => by kernel_rfl) ?_
          refine N_end (by kernel_rfl) ?_
          refine S_then ?_
          refine S_block 2 morainelaw20_FrameRow.k36 (by kernel_rfl) ?_
          obtain ⟨I38, m38, i19, i20⟩ := h
          refine S_loop (x := morainelaw20_FrameRow.k37) (σ := (Option Addr) × Nat × Nat × Int) (fun s_ => [(0, .slice kindsB kindsN kindsC), (1, .slice fieldsB fieldsN fieldsC), (5, .pointer ra), (7, .int .u64 row), (8, .int .i64 i), (9, .slice s_.1 s_.2.1 s_.2.2.1), (10, .int .i64 s_.2.2.2)]) (fun s_ H => I38 s_.1 s_.2.1 s_.2.2.1 s_.2.2.2 H) (fun s_ H => m38 s_.1 s_.2.1 s_.2.2.1 s_.2.2.2 H) ((none, 0, 0, 0) : (Option Addr) × Nat × Nat × Int) (by kernel_rfl) i19 (sb (by kernel_rfl)) ?_
          rintro ⟨lB, lN, lC, k⟩ H5 i21
          have h := i20 lB lN lC k H5 i21
          refine S_sub [(0, .slice kindsB kindsN kindsC), (1, .slice fieldsB fieldsN fieldsC), (5, .pointer ra), (7, .int .u64 row), (8, .int .i64 i), (9, .slice lB lN lC), (10, .int .i64 k)] (sb (by kernel_rfl)) ?_
          refine S_seq morainelaw20_FrameRow.k38 morainelaw20_FrameRow.k39 (by kernel_rfl) ?_
          refine S_seq morainelaw20_FrameRow.k40 morainelaw20_FrameRow.k41 (by kernel_rfl) ?_
          refine S_region 10 (Code.ops morainelaw20_FrameRow.k40) (by kernel_rfl) ?_
          refine N_run 3 [(0, .slice kindsB kindsN kindsC), (1, .slice fieldsB fieldsN fieldsC), (5, .pointer ra), (7, .int .u64 row), (8, .int .i64 i), (9, .slice lB lN lC), (10, .int .i64 k), (53, .int .i64 k), (54, .slice fieldsB fieldsN fieldsC), (55, .int .i64 i)] (fun w => by kernel_rfl) ?_
          obtain ⟨fieldsBA, rfl, h⟩ := h
          obtain ⟨q22, h⟩ := h
          refine N_val (some 56) (indexAtN 38 (.slice (some fieldsBA) fieldsN fieldsC) (.int .i64 i)) (.pointer (some (fieldsBA.add (Int.toNat i * 1)))) (fun w => by kernel_rfl) (fun w _ => indexAt_run (P := Try.prog) (t := 38) (elem := 40) (sz := 1) (a := fieldsBA) (len := fieldsN) (cap := fieldsC) (k := .i64) (i := i) Try.underlying38 (fun w => by kernel_rfl) q22.1 q22.2 w) [(0, .slice kindsB kindsN kindsC), (1, .slice (some fieldsBA) fieldsN fieldsC), (5, .pointer ra), (7, .int .u64 row), (8, .int .i64 i), (9, .slice lB lN lC), (10, .int .i64 k), (53, .int .i64 k), (56, .pointer (some (fieldsBA.add (Int.toNat i * 1))))] (ps (by kernel_rfl)) ?_
          obtain ⟨xB, xN, xC, q23, h⟩ := h
          refine N_val (some 57) (loadN 40 (.pointer (some (fieldsBA.add (Int.toNat i * 1))))) (.slice xB xN xC) (fun w => by kernel_rfl) (loadN_run (loadOK_one (fun w => by kernel_rfl) q23)) [(0, .slice kindsB kindsN kindsC), (1, .slice (some fieldsBA) fieldsN fieldsC), (5, .pointer ra), (7, .int .u64 row), (8, .int .i64 i), (9, .slice lB lN lC), (10, .int .i64 k), (53, .int .i64 k), (57, .slice xB xN xC)] (ps (by kernel_rfl)) ?_
          refine N_run 2 [(0, .slice kindsB kindsN kindsC), (1, .slice (some fieldsBA) fieldsN fieldsC), (5, .pointer ra), (7, .int .u64 row), (8, .int .i64 i), (9, .slice lB lN lC), (10, .int .i64 k), (59, .bool (decide (k < (xN : Int))))] (fun w => by kernel_rfl) ?_
          refine N_end (by kernel_rfl) ?_
          refine S_then ?_
          by_cases c24 : k < (xN : Int)
          · rw [if_pos c24] at h
            have b25 : (decide (k < (xN : Int))) = true := decide_eq_true c24
            refine S_env [(0, .slice kindsB kindsN kindsC), (1, .slice (some fieldsBA) fieldsN fieldsC), (5, .pointer ra), (7, .int .u64 row), (8, .int .i64 i), (9, .slice lB lN lC), (10, .int .i64 k), (59, .bool true)] (by simp only [b25, Bool.not_true, Bool.not_false]) ?_
            clear b25
            refine S_condT (.tmp 59) morainelaw20_FrameRow.k42 morainelaw20_FrameRow.k43 (by kernel_rfl) (by kernel_rfl) ?_
            refine S_skip (by kernel_rfl) ?_
            refine S_then ?_
            refine S_seq morainelaw20_FrameRow.k44 morainelaw20_FrameRow.k45 (by kernel_rfl) ?_
            refine S_block 3 morainelaw20_FrameRow.k46 (by kernel_rfl) ?_
            refine S_region 12 (Code.ops morainelaw20_FrameRow.k46) (by kernel_rfl) ?_
            refine N_run 3 [(0, .slice kindsB kindsN kindsC), (1, .slice (some fieldsBA) fieldsN fieldsC), (5, .pointer ra), (7, .int .u64 row), (8, .int .i64 i), (10, .int .i64 k), (62, .slice lB lN lC), (63, .slice (some fieldsBA) fieldsN fieldsC), (64, .int .i64 i)] (fun w => by kernel_rfl) ?_
            obtain ⟨q26, h⟩ := h
            refine N_val (some 65) (indexAtN 38 (.slice (some fieldsBA) fieldsN fieldsC) (.int .i64 i)) (.pointer (some (fieldsBA.add (Int.toNat i * 1)))) (fun w => by kernel_rfl) (fun w _ => indexAt_run (P := Try.prog) (t := 38) (elem := 40) (sz := 1) (a := fieldsBA) (len := fieldsN) (cap := fieldsC) (k := .i64) (i := i) Try.underlying38 (fun w => by kernel_rfl) q26.1 q26.2 w) [(0, .slice kindsB kindsN kindsC), (1, .slice (some fieldsBA) fieldsN fieldsC), (5, .pointer ra), (7, .int .u64 row), (8, .int .i64 i), (10, .int .i64 k), (62, .slice lB lN lC), (65, .pointer (some (fieldsBA.add (Int.toNat i * 1))))] (ps (by kernel_rfl)) ?_
            obtain ⟨xB_2, xN_2, xC_2, q27, h⟩ := h
            refine N_val (some 66) (loadN 40 (.pointer (some (fieldsBA.add (Int.toNat i * 1))))) (.slice xB_2 xN_2 xC_2) (fun w => by kernel_rfl) (loadN_run (loadOK_one (fun w => by kernel_rfl) q27)) [(0, .slice kindsB kindsN kindsC), (1, .slice (some fieldsBA) fieldsN fieldsC), (5, .pointer ra), (7, .int .u64 row), (8, .int .i64 i), (10, .int .i64 k), (62, .slice lB lN lC), (66, .slice xB_2 xN_2 xC_2)] (ps (by kernel_rfl)) ?_
            refine N_run 1 [(0, .slice kindsB kindsN kindsC), (1, .slice (some fieldsBA) fieldsN fieldsC), (5, .pointer ra), (7, .int .u64 row), (8, .int .i64 i), (10, .int .i64 k), (62, .slice lB lN lC), (66, .slice xB_2 xN_2 xC_2), (67, .int .i64 k)] (fun w => by kernel_rfl) ?_
            obtain ⟨xB2A, rfl, h⟩ := h
            obtain ⟨q28, h⟩ := h
            refine N_val (some 68) (indexAtN 40 (.slice (some xB2A) xN_2 xC_2) (.int .i64 k)) (.pointer (some (xB2A.add (Int.toNat k * 1)))) (fun w => by kernel_rfl) (fun w _ => indexAt_run (P := Try.prog) (t := 40) (elem := 41) (sz := 1) (a := xB2A) (len := xN_2) (cap := xC_2) (k := .i64) (i := k) Try.underlying40 (fun w => by kernel_rfl) q28.1 q28.2 w) [(0, .slice kindsB kindsN kindsC), (1, .slice (some fieldsBA) fieldsN fieldsC), (5, .pointer ra), (7, .int .u64 row), (8, .int .i64 i), (10, .int .i64 k), (62, .slice lB lN lC), (68, .pointer (some (xB2A.add (Int.toNat k * 1))))] (ps (by kernel_rfl)) ?_
            obtain ⟨x_2, q29, h⟩ := h
            refine N_val (some 69) (loadN 41 (.pointer (some (xB2A.add (Int.toNat k * 1))))) (.int .u32 x_2) (fun w => by kernel_rfl) (loadN_run (loadOK_one (fun w => by kernel_rfl) q29)) [(0, .slice kindsB kindsN kindsC), (1, .slice (some fieldsBA) fieldsN fieldsC), (5, .pointer ra), (7, .int .u64 row), (8, .int .i64 i), (10, .int .i64 k), (62, .slice lB lN lC), (69, .int .u32 x_2)] (ps (by kernel_rfl)) ?_
            refine N_run 2 [(0, .slice kindsB kindsN kindsC), (1, .slice (some fieldsBA) fieldsN fieldsC), (5, .pointer ra), (7, .int .u64 row), (8, .int .i64 i), (10, .int .i64 k), (62, .slice lB lN lC), (71, .int .u64 (ishl .u64 (IntKind.wrap .u64 x_2) 3))] (fun w => by kernel_rfl) ?_
            refine N_new (some 72) (fun b => .slice (some (Addr.mk b 0 none)) 1 1) (.cells #[.int .u64 (ishl .u64 (IntKind.wrap .u64 x_2) 3)] 29) (fun w => by kernel_rfl) ?_
            intro b H6 e30 e31
            replace h := h b H6 e30 e31
            refine ⟨[(0, .slice kindsB kindsN kindsC), (1, .slice (some fieldsBA) fieldsN fieldsC), (5, .pointer ra), (7, .int .u64 row), (8, .int .i64 i), (10, .int .i64 k), (62, .slice lB lN lC), (72, .slice (some (Addr.mk b 0 none)) 1 1)], ps (by kernel_rfl), ?_⟩
            refine N_op (some 73) (appendN #[39, 39] 39 #[.slice lB lN lC, .slice (some (Addr.mk b 0 none)) 1 1]) _ (fun w => by kernel_rfl) (ss_append (T := 29) (sz := 1) (bytes := 8) (zero := .int .u64 0) Try.underlying39 Try.underlying39 rfl (show Try.prog.info? 29 = some Try.t29 from by kernel_rfl) (by kernel_rfl) (by kernel_rfl) (by decide) (by kernel_rfl) h) ?_
            rintro _ H7 ⟨ap, apC, rfl, h⟩
            refine ⟨[(0, .slice kindsB kindsN kindsC), (1, .slice (some fieldsBA) fieldsN fieldsC), (5, .pointer ra), (7, .int .u64 row), (8, .int .i64 i), (10, .int .i64 k), (73, .slice ap (lN + 1) apC)], ps (by kernel_rfl), ?_⟩
            refine N_run 1 [(0, .slice kindsB kindsN kindsC), (1, .slice (some fieldsBA) fieldsN fieldsC), (5, .pointer ra), (7, .int .u64 row), (8, .int .i64 i), (9, .slice ap (lN + 1) apC), (10, .int .i64 k)] (fun w => by kernel_rfl) ?_
            refine N_end (by kernel_rfl) ?_
            refine S_blockEnd ?_
            refine S_then ?_
            refine S_region 11 (Code.ops morainelaw20_FrameRow.k45) (by kernel_rfl) ?_
            refine N_run 3 [(0, .slice kindsB kindsN kindsC), (1, .slice (some fieldsBA) fieldsN fieldsC), (5, .pointer ra), (7, .int .u64 row), (8, .int .i64 i), (9, .slice ap (lN + 1) apC), (10, .int .i64 (IntKind.wrap .i64 (k + 1)))] (fun w => by kernel_rfl) ?_
            refine N_end (by kernel_rfl) ?_
            refine S_then ?_
            exact S_round ((ap, (lN + 1), apC, (IntKind.wrap .i64 (k + 1))) : (Option Addr) × Nat × Nat × Int) (sb (by kernel_rfl)) h
          · rw [if_neg c24] at h
            have b25 : (decide (k < (xN : Int))) = false := decide_eq_false c24
            refine S_env [(0, .slice kindsB kindsN kindsC), (1, .slice (some fieldsBA) fieldsN fieldsC), (5, .pointer ra), (7, .int .u64 row), (8, .int .i64 i), (9, .slice lB lN lC), (10, .int .i64 k), (59, .bool false)] (by simp only [b25, Bool.not_true, Bool.not_false]) ?_
            clear b25
            refine S_condF (.tmp 59) morainelaw20_FrameRow.k42 morainelaw20_FrameRow.k43 (by kernel_rfl) (by kernel_rfl) ?_
            refine S_exit 2 (by kernel_rfl) ?_
            refine S_exitThen ?_
            refine S_exitThen ?_
            refine S_exitHere ?_
            refine S_then ?_
            refine S_seq morainelaw20_FrameRow.k47 morainelaw20_FrameRow.k48 (by kernel_rfl) ?_
            refine S_seq morainelaw20_FrameRow.k49 morainelaw20_FrameRow.k50 (by kernel_rfl) ?_
            refine S_region 13 (Code.ops morainelaw20_FrameRow.k49) (by kernel_rfl) ?_
            refine N_run 3 [(0, .slice kindsB kindsN kindsC), (1, .slice (some fieldsBA) fieldsN fieldsC), (5, .pointer ra), (7, .int .u64 row), (8, .int .i64 i), (9, .slice lB lN lC), (76, .bool (decide ((lN : Int) > 50)))] (fun w => by kernel_rfl) ?_
            refine N_end (by kernel_rfl) ?_
            refine S_then ?_
            by_cases c32 : (lN : Int) > 50
            · rw [if_pos c32] at h
              have b33 : (decide ((lN : Int) > 50)) = true := decide_eq_true c32
              refine S_env [(0, .slice kindsB kindsN kindsC), (1, .slice (some fieldsBA) fieldsN fieldsC), (5, .pointer ra), (7, .int .u64 row), (8, .int .i64 i), (9, .slice lB lN lC), (76, .bool true)] (by simp only [b33, Bool.not_true, Bool.not_false]) ?_
              clear b33
              refine S_condT (.tmp 76) morainelaw20_FrameRow.k51 morainelaw20_FrameRow.k52 (by kernel_rfl) (by kernel_rfl) ?_
              refine S_seq morainelaw20_FrameRow.k53 morainelaw20_FrameRow.k54 (by kernel_rfl) ?_
              refine S_region 14 (Code.ops morainelaw20_FrameRow.k53) (by kernel_rfl) ?_
              refine N_sub [] (sb (by kernel_rfl)) ?_
              refine N_call (some 77) 12 #[] (fun w => by kernel_rfl) h ?_; clear h
              rintro v_3 H8 ⟨x_3, rfl, h⟩
              refine ⟨[(77, .bool x_3)], ps (by kernel_rfl), ?_⟩
              refine N_run 1 [(4, .bool x_3)] (fun w => by kernel_rfl) ?_
              refine N_end (by kernel_rfl) ?_
              refine S_then ?_
              refine S_ret (by kernel_rfl) ?_
              show At _ _ _ _ (Q .ret)
              exact S_done (fn := Try.f4) [.bool x_3] hQ (show ResOK _ _ _ [.tmp 4] _ from .tmp (by kernel_rfl) (.nil)) h
            · rw [if_neg c32] at h
              have b33 : (decide ((lN : Int) > 50)) = false := decide_eq_false c32
              refine S_env [(0, .slice kindsB kindsN kindsC), (1, .slice (some fieldsBA) fieldsN fieldsC), (5, .pointer ra), (7, .int .u64 row), (8, .int .i64 i), (9, .slice lB lN lC), (76, .bool false)] (by simp only [b33, Bool.not_true, Bool.not_false]) ?_
              clear b33
              refine S_condF (.tmp 76) morainelaw20_FrameRow.k51 morainelaw20_FrameRow.k52 (by kernel_rfl) (by kernel_rfl) ?_
              refine S_skip (by kernel_rfl) ?_
              refine S_then ?_
              refine S_seq morainelaw20_FrameRow.k55 morainelaw20_FrameRow.k56 (by kernel_rfl) ?_
              refine S_region 15 (Code.ops morainelaw20_FrameRow.k55) (by kernel_rfl) ?_
              refine N_run 1 [(0, .slice kindsB kindsN kindsC), (1, .slice (some fieldsBA) fieldsN fieldsC), (5, .pointer ra), (7, .int .u64 row), (8, .int .i64 i), (9, .slice lB lN lC)] (fun w => by kernel_rfl) ?_
              refine N_end (by kernel_rfl) ?_
              refine S_then ?_
              refine S_seq morainelaw20_FrameRow.k57 morainelaw20_FrameRow.k58 (by kernel_rfl) ?_
              refine S_region 16 (Code.ops morainelaw20_FrameRow.k57) (by kernel_rfl) ?_
              refine N_run 3 [(0, .slice kindsB kindsN kindsC), (1, .slice (some fieldsBA) fieldsN fieldsC), (5, .pointer ra), (7, .int .u64 row), (8, .int .i64 i), (9, .slice lB lN lC), (79, .pointer ra), (80, .slice kindsB kindsN kindsC), (81, .int .i64 i)] (fun w => by kernel_rfl) ?_
              obtain ⟨kindsBA, rfl, h⟩ := h
              obtain ⟨q34, h⟩ := h
              refine N_val (some 82) (indexAtN 37 (.slice (some kindsBA) kindsN kindsC) (.int .i64 i)) (.pointer (some (kindsBA.add (Int.toNat i * 1)))) (fun w => by kernel_rfl) (fun w _ => indexAt_run (P := Try.prog) (t := 37) (elem := 3) (sz := 1) (a := kindsBA) (len := kindsN) (cap := kindsC) (k := .i64) (i := i) Try.underlying37 (fun w => by kernel_rfl) q34.1 q34.2 w) [(0, .slice (some kindsBA) kindsN kindsC), (1, .slice (some fieldsBA) fieldsN fieldsC), (5, .pointer ra), (7, .int .u64 row), (8, .int .i64 i), (9, .slice lB lN lC), (79, .pointer ra), (82, .pointer (some (kindsBA.add (Int.toNat i * 1))))] (ps (by kernel_rfl)) ?_
              obtain ⟨x_4, q35, h⟩ := h
              refine N_val (some 83) (loadN 3 (.pointer (some (kindsBA.add (Int.toNat i * 1))))) (.int .i64 x_4) (fun w => by kernel_rfl) (loadN_run (loadOK_one (fun w => by kernel_rfl) q35)) [(0, .slice (some kindsBA) kindsN kindsC), (1, .slice (some fieldsBA) fieldsN fieldsC), (5, .pointer ra), (7, .int .u64 row), (8, .int .i64 i), (9, .slice lB lN lC), (79, .pointer ra), (83, .int .i64 x_4)] (ps (by kernel_rfl)) ?_
              refine N_run 3 [(0, .slice (some kindsBA) kindsN kindsC), (1, .slice (some fieldsBA) fieldsN fieldsC), (5, .pointer ra), (8, .int .i64 i), (79, .pointer ra), (84, .int .i64 (iand .i64 x_4 65535)), (85, .int .u64 row), (86, .slice lB lN lC)] (fun w => by kernel_rfl) ?_
              refine N_call (some 87) 16 #[.pointer ra, .int .i64 (iand .i64 x_4 65535), .int .u64 row, .slice lB lN lC] (fun w => by kernel_rfl) h ?_; clear h
              rintro v_4 H9 ⟨ra_2, rb_2, rfl, h⟩
              refine ⟨[(0, .slice (some kindsBA) kindsN kindsC), (1, .slice (some fieldsBA) fieldsN fieldsC), (5, .pointer ra), (8, .int .i64 i), (87, .tuple #[.int .u64 ra_2, .int .i64 rb_2])], ps (by kernel_rfl), ?_⟩
              refine N_run 5 [(0, .slice (some kindsBA) kindsN kindsC), (1, .slice (some fieldsBA) fieldsN fieldsC), (5, .pointer ra), (7, .int .u64 ra_2), (8, .int .i64 i), (11, .int .i64 rb_2)] (fun w => by kernel_rfl) ?_
              refine N_end (by kernel_rfl) ?_
              refine S_then ?_
              refine S_seq morainelaw20_FrameRow.k59 morainelaw20_FrameRow.k60 (by kernel_rfl) ?_
              refine S_region 17 (Code.ops morainelaw20_FrameRow.k59) (by kernel_rfl) ?_
              refine N_run 2 [(0, .slice (some kindsBA) kindsN kindsC), (1, .slice (some fieldsBA) fieldsN fieldsC), (5, .pointer ra), (7, .int .u64 ra_2), (8, .int .i64 i), (91, .bool (rb_2 != 0))] (fun w => by kernel_rfl) ?_
              refine N_end (by kernel_rfl) ?_
              refine S_then ?_
              by_cases c36 : rb_2 = 0
              · rw [if_pos c36] at h
                have b37 : (rb_2 != 0) = false := bne_eq_false_iff_eq.mpr c36
                refine S_env [(0, .slice (some kindsBA) kindsN kindsC), (1, .slice (some fieldsBA) fieldsN fieldsC), (5, .pointer ra), (7, .int .u64 ra_2), (8, .int .i64 i), (91, .bool false)] (by simp only [b37, Bool.not_true, Bool.not_false]) ?_
                clear b37
                refine S_condF (.tmp 91) morainelaw20_FrameRow.k61 morainelaw20_FrameRow.k62 (by kernel_rfl) (by kernel_rfl) ?_
                refine S_skip (by kernel_rfl) ?_
                refine S_blockEnd ?_
                refine S_then ?_
                refine S_region 7 (Code.ops morainelaw20_FrameRow.k28) (by kernel_rfl) ?_
                refine N_run 3 [(0, .slice (some kindsBA) kindsN kindsC), (1, .slice (some fieldsBA) fieldsN fieldsC), (5, .pointer ra), (7, .int .u64 ra_2), (8, .int .i64 (IntKind.wrap .i64 (i + 1)))] (fun w => by kernel_rfl) ?_
                refine N_end (by kernel_rfl) ?_
                refine S_then ?_
                exact S_round ((ra_2, (IntKind.wrap .i64 (i + 1))) : Int × Int) (sb (by kernel_rfl)) h
              · rw [if_neg c36] at h
                have b37 : (rb_2 != 0) = true := bne_iff_ne.mpr c36
                refine S_env [(0, .slice (some kindsBA) kindsN kindsC), (1, .slice (some fieldsBA) fieldsN fieldsC), (5, .pointer ra), (7, .int .u64 ra_2), (8, .int .i64 i), (91, .bool true)] (by simp only [b37, Bool.not_true, Bool.not_false]) ?_
                clear b37
                refine S_condT (.tmp 91) morainelaw20_FrameRow.k61 morainelaw20_FrameRow.k62 (by kernel_rfl) (by kernel_rfl) ?_
                refine S_seq morainelaw20_FrameRow.k63 morainelaw20_FrameRow.k64 (by kernel_rfl) ?_
                refine S_region 18 (Code.ops morainelaw20_FrameRow.k63) (by kernel_rfl) ?_
                refine N_run 1 [(4, .bool false)] (fun w => by kernel_rfl) ?_
                refine N_end (by kernel_rfl) ?_
                refine S_then ?_
                refine S_ret (by kernel_rfl) ?_
                show At _ _ _ _ (Q .ret)
                exact S_done (fn := Try.f4) [.bool false] hQ (show ResOK _ _ _ [.tmp 4] _ from .tmp (by kernel_rfl) (.nil)) h
        · rw [if_neg c17] at h
          have b18 : ((decide (i < (kindsN : Int))) && (decide (i < (fieldsN : Int)))) = false := eq_false_of_ne_true c17
          refine S_env [(0, .slice kindsB kindsN kindsC), (1, .slice fieldsB fieldsN fieldsC), (5, .pointer ra), (7, .int .u64 row), (8, .int .i64 i), (50, .bool false)] (by simp only [b18, Bool.not_true, Bool.not_false]) ?_
          clear b18
          refine S_condF (.tmp 50) morainelaw20_FrameRow.k25 morainelaw20_FrameRow.k26 (by kernel_rfl) (by kernel_rfl) ?_
          refine S_exit 0 (by kernel_rfl) ?_
          refine S_exitThen ?_
          refine S_exitThen ?_
          refine S_exitHere ?_
          refine S_then ?_
          refine S_seq morainelaw20_FrameRow.k65 morainelaw20_FrameRow.k66 (by kernel_rfl) ?_
          refine S_seq morainelaw20_FrameRow.k67 morainelaw20_FrameRow.k68 (by kernel_rfl) ?_
          refine S_region 19 (Code.ops morainelaw20_FrameRow.k67) (by kernel_rfl) ?_
          refine N_run 7 [(0, .slice kindsB kindsN kindsC), (1, .slice fieldsB fieldsN fieldsC), (5, .pointer ra), (7, .int .u64 row), (12, .int .i64 (IntKind.wrap .i64 ((if (fieldsN : Int) < (kindsN : Int) then (fieldsN : Int) else (kindsN : Int)) - 1)))] (fun w => by kernel_rfl) ?_
          refine N_end (by kernel_rfl) ?_
          refine S_then ?_
          refine S_block 4 morainelaw20_FrameRow.k69 (by kernel_rfl) ?_
          obtain ⟨I71, m71, i38, i39⟩ := h
          refine S_loop (x := morainelaw20_FrameRow.k70) (σ := Int × Int) (fun s_ => [(0, .slice kindsB kindsN kindsC), (1, .slice fieldsB fieldsN fieldsC), (5, .pointer ra), (7, .int .u64 s_.1), (12, .int .i64 s_.2)]) (fun s_ H => I71 s_.1 s_.2 H) (fun s_ H => m71 s_.1 s_.2 H) ((row, (IntKind.wrap .i64 ((if (fieldsN : Int) < (kindsN : Int) then (fieldsN : Int) else (kindsN : Int)) - 1))) : Int × Int) (by kernel_rfl) i38 (sb (by kernel_rfl)) ?_
          rintro ⟨row_2, i_2⟩ H10 i40
          have h := i39 row_2 i_2 H10 i40
          refine S_sub [(0, .slice kindsB kindsN kindsC), (1, .slice fieldsB fieldsN fieldsC), (5, .pointer ra), (7, .int .u64 row_2), (12, .int .i64 i_2)] (sb (by kernel_rfl)) ?_
          refine S_seq morainelaw20_FrameRow.k71 morainelaw20_FrameRow.k72 (by kernel_rfl) ?_
          refine S_seq morainelaw20_FrameRow.k73 morainelaw20_FrameRow.k74 (by kernel_rfl) ?_
          refine S_region 20 (Code.ops morainelaw20_FrameRow.k73) (by kernel_rfl) ?_
          refine N_run 2 [(0, .slice kindsB kindsN kindsC), (1, .slice fieldsB fieldsN fieldsC), (5, .pointer ra), (7, .int .u64 row_2), (12, .int .i64 i_2), (99, .bool (decide (i_2 ≥ 0)))] (fun w => by kernel_rfl) ?_
          refine N_end (by kernel_rfl) ?_
          refine S_then ?_
          by_cases c41 : i_2 ≥ 0
          · rw [if_pos c41] at h
            have b42 : (decide (i_2 ≥ 0)) = true := decide_eq_true c41
            refine S_env [(0, .slice kindsB kindsN kindsC), (1, .slice fieldsB fieldsN fieldsC), (5, .pointer ra), (7, .int .u64 row_2), (12, .int .i64 i_2), (99, .bool true)] (by simp only [b42, Bool.not_true, Bool.not_false]) ?_
            clear b42
            refine S_condT (.tmp 99) morainelaw20_FrameRow.k75 morainelaw20_FrameRow.k76 (by kernel_rfl) (by kernel_rfl) ?_
            refine S_skip (by kernel_rfl) ?_
            refine S_then ?_
            refine S_seq morainelaw20_FrameRow.k77 morainelaw20_FrameRow.k78 (by kernel_rfl) ?_
            refine S_block 5 morainelaw20_FrameRow.k79 (by kernel_rfl) ?_
            refine S_seq morainelaw20_FrameRow.k80 morainelaw20_FrameRow.k81 (by kernel_rfl) ?_
            refine S_region 22 (Code.ops morainelaw20_FrameRow.k80) (by kernel_rfl) ?_
            refine N_run 2 [(0, .slice kindsB kindsN kindsC), (1, .slice fieldsB fieldsN fieldsC), (5, .pointer ra), (7, .int .u64 row_2), (12, .int .i64 i_2), (103, .pointer ra), (104, .int .u64 row_2)] (fun w => by kernel_rfl) ?_
            refine N_call (some 105) 14 #[.pointer ra, .int .u64 row_2] (fun w => by kernel_rfl) h ?_; clear h
            rintro v_5 H11 ⟨ra_3, rb_3, rfl, h⟩
            refine ⟨[(0, .slice kindsB kindsN kindsC), (1, .slice fieldsB fieldsN fieldsC), (5, .pointer ra), (7, .int .u64 row_2), (12, .int .i64 i_2), (105, .tuple #[.int .i64 ra_3, .int .i64 rb_3])], ps (by kernel_rfl), ?_⟩
            refine N_run 5 [(0, .slice kindsB kindsN kindsC), (1, .slice fieldsB fieldsN fieldsC), (5, .pointer ra), (7, .int .u64 row_2), (12, .int .i64 i_2), (13, .int .i64 ra_3), (14, .int .i64 rb_3)] (fun w => by kernel_rfl) ?_
            refine N_end (by kernel_rfl) ?_
            refine S_then ?_
            refine S_seq morainelaw20_FrameRow.k82 morainelaw20_FrameRow.k83 (by kernel_rfl) ?_
            refine S_seq morainelaw20_FrameRow.k84 morainelaw20_FrameRow.k85 (by kernel_rfl) ?_
            by_cases c43 : rb_3 = 0
            · rw [if_pos c43] at h
              have b44 : (rb_3 != 0) = false := bne_eq_false_iff_eq.mpr c43
              obtain ⟨kindsBA_2, rfl, h⟩ := h
              obtain ⟨q45, h⟩ := h
              obtain ⟨x_5, q46, h⟩ := h
              by_cases c47 : ra_3 = (iand .i64 x_5 65535)
              · rw [if_pos c47] at h
                have b48 : (ra_3 != (iand .i64 x_5 65535)) = false := bne_eq_false_iff_eq.mpr c47
                obtain ⟨fieldsBA_2, rfl, h⟩ := h
                obtain ⟨q49, h⟩ := h
                obtain ⟨xB_3, xN_3, xC_3, q50, h⟩ := h
                refine S_regionG 23 (Code.ops morainelaw20_FrameRow.k84) [(14, (kindsBA_2.add (Int.toNat i_2 * 1)), [.int .i64 x_5]), (22, (fieldsBA_2.add (Int.toNat i_2 * 1)), [.slice xB_3 xN_3 xC_3])] 22 #[false, false, false, false, false, false, false, false, false, false, false, false, false, false, false, false, false, false, false, false, false, false] (by kernel_rfl) (by kernel_rfl) (by kernel_rfl) (by kernel_rfl) (by kernel_rfl) (show FactsAt _ _ _ from ⟨⟨q46, trivial⟩, ⟨q50, trivial⟩, trivial⟩) ?_
                refine G_take 0 (some 108) (.int .i64 rb_3) #[true, false, false, false, false, false, false, false, false, false, false, false, false, false, false, false, false, false, false, false, false, false] [(0, .slice (some kindsBA_2) kindsN kindsC), (1, .slice (some fieldsBA_2) fieldsN fieldsC), (5, .pointer ra), (7, .int .u64 row_2), (12, .int .i64 i_2), (13, .int .i64 ra_3), (108, .int .i64 rb_3)] ((pure (.value (.int .i64 rb_3)) : Sem Next)) (fun w => by kernel_rfl) (fun _ _ _ _ _ => rfl) (by kernel_rfl) (by kernel_rfl) (by kernel_rfl) (by kernel_rfl) (by kernel_rfl) (ps (by kernel_rfl)) ?_
                refine G_take 1 (some 109) (.bool (rb_3 != 0)) #[true, true, false, false, false, false, false, false, false, false, false, false, false, false, false, false, false, false, false, false, false, false] [(0, .slice (some kindsBA_2) kindsN kindsC), (1, .slice (some fieldsBA_2) fieldsN fieldsC), (5, .pointer ra), (7, .int .u64 row_2), (12, .int .i64 i_2), (13, .int .i64 ra_3), (109, .bool (rb_3 != 0))] ((pure (.value (.bool (rb_3 != 0))) : Sem Next)) (fun w => by kernel_rfl) (fun _ _ _ _ _ => rfl) (by kernel_rfl) (by kernel_rfl) (by kernel_rfl) (by kernel_rfl) (by kernel_rfl) (ps (by kernel_rfl)) ?_
                refine G_take 2 (some 110) (.bool (rb_3 != 0)) #[true, true, true, false, false, false, false, false, false, false, false, false, false, false, false, false, false, false, false, false, false, false] [(0, .slice (some kindsBA_2) kindsN kindsC), (1, .slice (some fieldsBA_2) fieldsN fieldsC), (5, .pointer ra), (7, .int .u64 row_2), (12, .int .i64 i_2), (13, .int .i64 ra_3), (110, .bool (rb_3 != 0))] ((pure (.value (.bool (rb_3 != 0))) : Sem Next)) (fun w => by kernel_rfl) (fun _ _ _ _ _ => rfl) (by kernel_rfl) (by kernel_rfl) (by kernel_rfl) (by kernel_rfl) (by kernel_rfl) (ps (by kernel_rfl)) ?_
                refine G_env [(0, .slice (some kindsBA_2) kindsN kindsC), (1, .slice (some fieldsBA_2) fieldsN fieldsC), (5, .pointer ra), (7, .int .u64 row_2), (12, .int .i64 i_2), (13, .int .i64 ra_3), (110, .bool false)] (by simp only [b44, Bool.not_true, Bool.not_false]) ?_
                refine G_take 3 (some 111) (.int .i64 ra_3) #[true, true, true, true, false, false, false, false, false, false, false, false, false, false, false, false, false, false, false, false, false, false] [(0, .slice (some kindsBA_2) kindsN kindsC), (1, .slice (some fieldsBA_2) fieldsN fieldsC), (5, .pointer ra), (7, .int .u64 row_2), (12, .int .i64 i_2), (110, .bool false), (111, .int .i64 ra_3)] ((pure (.value (.int .i64 ra_3)) : Sem Next)) (fun w => by kernel_rfl) (fun _ _ _ _ _ => rfl) (by kernel_rfl) (by kernel_rfl) (by kernel_rfl) (by kernel_rfl) (by kernel_rfl) (ps (by kernel_rfl)) ?_
                refine G_take 4 (some 112) (.slice (some kindsBA_2) kindsN kindsC) #[true, true, true, true, true, false, false, false, false, false, false, false, false, false, false, false, false, false, false, false, false, false] [(0, .slice (some kindsBA_2) kindsN kindsC), (1, .slice (some fieldsBA_2) fieldsN fieldsC), (5, .pointer ra), (7, .int .u64 row_2), (12, .int .i64 i_2), (110, .bool false), (111, .int .i64 ra_3), (112, .slice (some kindsBA_2) kindsN kindsC)] ((pure (.value (.slice (some kindsBA_2) kindsN kindsC)) : Sem Next)) (fun w => by kernel_rfl) (fun _ _ _ _ _ => rfl) (by kernel_rfl) (by kernel_rfl) (by kernel_rfl) (by kernel_rfl) (by kernel_rfl) (ps (by kernel_rfl)) ?_
                refine G_take 5 (some 113) (.int .i64 i_2) #[true, true, true, true, true, true, false, false, false, false, false, false, false, false, false, false, false, false, false, false, false, false] [(0, .slice (some kindsBA_2) kindsN kindsC), (1, .slice (some fieldsBA_2) fieldsN fieldsC), (5, .pointer ra), (7, .int .u64 row_2), (12, .int .i64 i_2), (110, .bool false), (111, .int .i64 ra_3), (112, .slice (some kindsBA_2) kindsN kindsC), (113, .int .i64 i_2)] ((pure (.value (.int .i64 i_2)) : Sem Next)) (fun w => by kernel_rfl) (fun _ _ _ _ _ => rfl) (by kernel_rfl) (by kernel_rfl) (by kernel_rfl) (by kernel_rfl) (by kernel_rfl) (ps (by kernel_rfl)) ?_
                refine G_take 6 (some 114) (.pointer (some (kindsBA_2.add (Int.toNat i_2 * 1)))) #[true, true, true, true, true, true, true, false, false, false, false, false, false, false, false, false, false, false, false, false, false, false] [(0, .slice (some kindsBA_2) kindsN kindsC), (1, .slice (some fieldsBA_2) fieldsN fieldsC), (5, .pointer ra), (7, .int .u64 row_2), (12, .int .i64 i_2), (110, .bool false), (111, .int .i64 ra_3), (114, .pointer (some (kindsBA_2.add (Int.toNat i_2 * 1))))] (indexAtN 37 (.slice (some kindsBA_2) kindsN kindsC) (.int .i64 i_2)) (fun w => by kernel_rfl) (fun _ w _ _ _ => indexAt_run (P := Try.prog) (t := 37) (elem := 3) (sz := 1) (a := kindsBA_2) (len := kindsN) (cap := kindsC) (k := .i64) (i := i_2) Try.underlying37 (fun w => by kernel_rfl) q45.1 q45.2 w) (by kernel_rfl) (by kernel_rfl) (by kernel_rfl) (by kernel_rfl) (by kernel_rfl) (ps (by kernel_rfl)) ?_
                refine G_take 7 (some 115) (.int .i64 x_5) #[true, true, true, true, true, true, true, true, false, false, false, false, false, false, false, false, false, false, false, false, false, false] [(0, .slice (some kindsBA_2) kindsN kindsC), (1, .slice (some fieldsBA_2) fieldsN fieldsC), (5, .pointer ra), (7, .int .u64 row_2), (12, .int .i64 i_2), (110, .bool false), (111, .int .i64 ra_3), (115, .int .i64 x_5)] (loadN 3 (.pointer (some (kindsBA_2.add (Int.toNat i_2 * 1))))) (fun w => by kernel_rfl) (held_one 14 (fun w => by kernel_rfl) (List.Mem.head _) (.inl (by kernel_rfl))) (by kernel_rfl) (by kernel_rfl) (by kernel_rfl) (by kernel_rfl) (by kernel_rfl) (ps (by kernel_rfl)) ?_
                refine G_take 8 (some 116) (.int .i64 (iand .i64 x_5 65535)) #[true, true, true, true, true, true, true, true, true, false, false, false, false, false, false, false, false, false, false, false, false, false] [(0, .slice (some kindsBA_2) kindsN kindsC), (1, .slice (some fieldsBA_2) fieldsN fieldsC), (5, .pointer ra), (7, .int .u64 row_2), (12, .int .i64 i_2), (110, .bool false), (111, .int .i64 ra_3), (116, .int .i64 (iand .i64 x_5 65535))] ((pure (.value (.int .i64 (iand .i64 x_5 65535))) : Sem Next)) (fun w => by kernel_rfl) (fun _ _ _ _ _ => rfl) (by kernel_rfl) (by kernel_rfl) (by kernel_rfl) (by kernel_rfl) (by kernel_rfl) (ps (by kernel_rfl)) ?_
                refine G_take 9 (some 117) (.bool (ra_3 != (iand .i64 x_5 65535))) #[true, true, true, true, true, true, true, true, true, true, false, false, false, false, false, false, false, false, false, false, false, false] [(0, .slice (some kindsBA_2) kindsN kindsC), (1, .slice (some fieldsBA_2) fieldsN fieldsC), (5, .pointer ra), (7, .int .u64 row_2), (12, .int .i64 i_2), (110, .bool false), (117, .bool (ra_3 != (iand .i64 x_5 65535)))] ((pure (.value (.bool (ra_3 != (iand .i64 x_5 65535)))) : Sem Next)) (fun w => by kernel_rfl) (fun _ _ _ _ _ => rfl) (by kernel_rfl) (by kernel_rfl) (by kernel_rfl) (by kernel_rfl) (by kernel_rfl) (ps (by kernel_rfl)) ?_
                refine G_take 10 (some 118) (.bool (ra_3 != (iand .i64 x_5 65535))) #[true, true, true, true, true, true, true, true, true, true, true, false, false, false, false, false, false, false, false, false, false, false] [(0, .slice (some kindsBA_2) kindsN kindsC), (1, .slice (some fieldsBA_2) fieldsN fieldsC), (5, .pointer ra), (7, .int .u64 row_2), (12, .int .i64 i_2), (118, .bool (ra_3 != (iand .i64 x_5 65535)))] ((pure (.value (.bool (ra_3 != (iand .i64 x_5 65535)))) : Sem Next)) (fun w => by kernel_rfl) (fun _ _ _ _ _ => rfl) (by kernel_rfl) (by kernel_rfl) (by kernel_rfl) (by kernel_rfl) (by kernel_rfl) (ps (by kernel_rfl)) ?_
                refine G_take 11 (some 119) (.bool (ra_3 != (iand .i64 x_5 65535))) #[true, true, true, true, true, true, true, true, true, true, true, true, false, false, false, false, false, false, false, false, false, false] [(0, .slice (some kindsBA_2) kindsN kindsC), (1, .slice (some fieldsBA_2) fieldsN fieldsC), (5, .pointer ra), (7, .int .u64 row_2), (12, .int .i64 i_2), (119, .bool (ra_3 != (iand .i64 x_5 65535)))] ((pure (.value (.bool (ra_3 != (iand .i64 x_5 65535)))) : Sem Next)) (fun w => by kernel_rfl) (fun _ _ _ _ _ => rfl) (by kernel_rfl) (by kernel_rfl) (by kernel_rfl) (by kernel_rfl) (by kernel_rfl) (ps (by kernel_rfl)) ?_
                refine G_env [(0, .slice (some kindsBA_2) kindsN kindsC), (1, .slice (some fieldsBA_2) fieldsN fieldsC), (5, .pointer ra), (7, .int .u64 row_2), (12, .int .i64 i_2), (119, .bool false)] (by simp only [b48, Bool.not_true, Bool.not_false]) ?_
                refine G_take 12 (some 120) (.pointer ra) #[true, true, true, true, true, true, true, true, true, true, true, true, true, false, false, false, false, false, false, false, false, false] [(0, .slice (some kindsBA_2) kindsN kindsC), (1, .slice (some fieldsBA_2) fieldsN fieldsC), (5, .pointer ra), (7, .int .u64 row_2), (12, .int .i64 i_2), (119, .bool false), (120, .pointer ra)] ((pure (.value (.pointer ra)) : Sem Next)) (fun w => by kernel_rfl) (fun _ _ _ _ _ => rfl) (by kernel_rfl) (by kernel_rfl) (by kernel_rfl) (by kernel_rfl) (by kernel_rfl) (ps (by kernel_rfl)) ?_
                refine G_take 13 (some 121) (.int .u64 row_2) #[true, true, true, true, true, true, true, true, true, true, true, true, true, true, false, false, false, false, false, false, false, false] [(0, .slice (some kindsBA_2) kindsN kindsC), (1, .slice (some fieldsBA_2) fieldsN fieldsC), (5, .pointer ra), (7, .int .u64 row_2), (12, .int .i64 i_2), (119, .bool false), (120, .pointer ra), (121, .int .u64 row_2)] ((pure (.value (.int .u64 row_2)) : Sem Next)) (fun w => by kernel_rfl) (fun _ _ _ _ _ => rfl) (by kernel_rfl) (by kernel_rfl) (by kernel_rfl) (by kernel_rfl) (by kernel_rfl) (ps (by kernel_rfl)) ?_
                refine G_take 15 (some 123) (.slice (some fieldsBA_2) fieldsN fieldsC) #[true, true, true, true, true, true, true, true, true, true, true, true, true, true, false, true, false, false, false, false, false, false] [(0, .slice (some kindsBA_2) kindsN kindsC), (1, .slice (some fieldsBA_2) fieldsN fieldsC), (5, .pointer ra), (7, .int .u64 row_2), (12, .int .i64 i_2), (119, .bool false), (120, .pointer ra), (121, .int .u64 row_2), (123, .slice (some fieldsBA_2) fieldsN fieldsC)] ((pure (.value (.slice (some fieldsBA_2) fieldsN fieldsC)) : Sem Next)) (fun w => by kernel_rfl) (fun _ _ _ _ _ => rfl) (by kernel_rfl) (by kernel_rfl) (by kernel_rfl) (by kernel_rfl) (by kernel_rfl) (ps (by kernel_rfl)) ?_
                refine G_take 16 (some 124) (.int .i64 i_2) #[true, true, true, true, true, true, true, true, true, true, true, true, true, true, false, true, true, false, false, false, false, false] [(0, .slice (some kindsBA_2) kindsN kindsC), (1, .slice (some fieldsBA_2) fieldsN fieldsC), (5, .pointer ra), (7, .int .u64 row_2), (12, .int .i64 i_2), (119, .bool false), (120, .pointer ra), (121, .int .u64 row_2), (123, .slice (some fieldsBA_2) fieldsN fieldsC), (124, .int .i64 i_2)] ((pure (.value (.int .i64 i_2)) : Sem Next)) (fun w => by kernel_rfl) (fun _ _ _ _ _ => rfl) (by kernel_rfl) (by kernel_rfl) (by kernel_rfl) (by kernel_rfl) (by kernel_rfl) (ps (by kernel_rfl)) ?_
                refine G_take 17 (some 125) (.pointer (some (fieldsBA_2.add (Int.toNat i_2 * 1)))) #[true, true, true, true, true, true, true, true, true, true, true, true, true, true, false, true, true, true, false, false, false, false] [(0, .slice (some kindsBA_2) kindsN kindsC), (1, .slice (some fieldsBA_2) fieldsN fieldsC), (5, .pointer ra), (7, .int .u64 row_2), (12, .int .i64 i_2), (119, .bool false), (120, .pointer ra), (121, .int .u64 row_2), (125, .pointer (some (fieldsBA_2.add (Int.toNat i_2 * 1))))] (indexAtN 38 (.slice (some fieldsBA_2) fieldsN fieldsC) (.int .i64 i_2)) (fun w => by kernel_rfl) (fun _ w _ _ _ => indexAt_run (P := Try.prog) (t := 38) (elem := 40) (sz := 1) (a := fieldsBA_2) (len := fieldsN) (cap := fieldsC) (k := .i64) (i := i_2) Try.underlying38 (fun w => by kernel_rfl) q49.1 q49.2 w) (by kernel_rfl) (by kernel_rfl) (by kernel_rfl) (by kernel_rfl) (by kernel_rfl) (ps (by kernel_rfl)) ?_
                refine G_take 18 (some 126) (.slice xB_3 xN_3 xC_3) #[true, true, true, true, true, true, true, true, true, true, true, true, true, true, false, true, true, true, true, false, false, false] [(0, .slice (some kindsBA_2) kindsN kindsC), (1, .slice (some fieldsBA_2) fieldsN fieldsC), (5, .pointer ra), (7, .int .u64 row_2), (12, .int .i64 i_2), (119, .bool false), (120, .pointer ra), (121, .int .u64 row_2), (126, .slice xB_3 xN_3 xC_3)] (loadN 40 (.pointer (some (fieldsBA_2.add (Int.toNat i_2 * 1))))) (fun w => by kernel_rfl) (held_one 22 (fun w => by kernel_rfl) (List.Mem.tail _ (List.Mem.head _)) (.inr (by kernel_rfl))) (by kernel_rfl) (by kernel_rfl) (by kernel_rfl) (by kernel_rfl) (by kernel_rfl) (ps (by kernel_rfl)) ?_
                refine G_take 19 (some 127) (.int .i64 (xN_3 : Int)) #[true, true, true, true, true, true, true, true, true, true, true, true, true, true, false, true, true, true, true, true, false, false] [(0, .slice (some kindsBA_2) kindsN kindsC), (1, .slice (some fieldsBA_2) fieldsN fieldsC), (5, .pointer ra), (7, .int .u64 row_2), (12, .int .i64 i_2), (119, .bool false), (120, .pointer ra), (121, .int .u64 row_2), (127, .int .i64 (xN_3 : Int))] ((pure (.value (.int .i64 (xN_3 : Int))) : Sem Next)) (fun w => by kernel_rfl) (fun _ _ _ _ _ => rfl) (by kernel_rfl) (by kernel_rfl) (by kernel_rfl) (by kernel_rfl) (by kernel_rfl) (ps (by kernel_rfl)) ?_
                refine G_call 14 (some 122) #[true, true, true, true, true, true, true, true, true, true, true, true, true, true, true, true, true, true, true, true, false, false] 17 #[.pointer ra, .int .u64 row_2] (by kernel_rfl) (fun w => by kernel_rfl) h (by kernel_rfl) ?_; clear h
                rintro v_6 H12 ⟨x_6, rfl, h⟩
                obtain ⟨f51, h⟩ := h
                refine ⟨[(0, .slice (some kindsBA_2) kindsN kindsC), (1, .slice (some fieldsBA_2) fieldsN fieldsC), (5, .pointer ra), (7, .int .u64 row_2), (12, .int .i64 i_2), (119, .bool false), (122, .int .i64 x_6), (127, .int .i64 (xN_3 : Int))], ps (by kernel_rfl), (show FactsAt _ _ _ from ⟨trivial, f51, trivial⟩), ?_⟩
                refine G_take 20 (some 128) (.bool (x_6 != (xN_3 : Int))) #[true, true, true, true, true, true, true, true, true, true, true, true, true, true, true, true, true, true, true, true, true, false] [(0, .slice (some kindsBA_2) kindsN kindsC), (1, .slice (some fieldsBA_2) fieldsN fieldsC), (5, .pointer ra), (7, .int .u64 row_2), (12, .int .i64 i_2), (119, .bool false), (128, .bool (x_6 != (xN_3 : Int)))] (pure (.value (.bool (x_6 != (xN_3 : Int)))) : Sem Next) (fun w => by kernel_rfl) (fun _ _ _ _ _ => rfl) (by kernel_rfl) (by kernel_rfl) (by kernel_rfl) (by kernel_rfl) (by kernel_rfl) (ps (by kernel_rfl)) ?_
                refine G_take 21 (some 129) (.bool (x_6 != (xN_3 : Int))) #[true, true, true, true, true, true, true, true, true, true, true, true, true, true, true, true, true, true, true, true, true, true] [(0, .slice (some kindsBA_2) kindsN kindsC), (1, .slice (some fieldsBA_2) fieldsN fieldsC), (5, .pointer ra), (7, .int .u64 row_2), (12, .int .i64 i_2), (129, .bool (x_6 != (xN_3 : Int)))] (pure (.value (.bool (x_6 != (xN_3 : Int)))) : Sem Next) (fun w => by kernel_rfl) (fun _ _ _ _ _ => rfl) (by kernel_rfl) (by kernel_rfl) (by kernel_rfl) (by kernel_rfl) (by kernel_rfl) (ps (by kernel_rfl)) ?_
                refine G_sub [(0, .slice (some kindsBA_2) kindsN kindsC), (1, .slice (some fieldsBA_2) fieldsN fieldsC), (5, .pointer ra), (7, .int .u64 row_2), (12, .int .i64 i_2), (129, .bool (x_6 != (xN_3 : Int)))] (sb (by kernel_rfl)) ?_
                refine G_end (by kernel_rfl) ?_
                refine S_then ?_
                by_cases c52 : x_6 = (xN_3 : Int)
                · rw [if_pos c52] at h
                  have b53 : (x_6 != (xN_3 : Int)) = false := bne_eq_false_iff_eq.mpr c52
                  refine S_env [(0, .slice (some kindsBA_2) kindsN kindsC), (1, .slice (some fieldsBA_2) fieldsN fieldsC), (5, .pointer ra), (7, .int .u64 row_2), (12, .int .i64 i_2), (129, .bool false)] (by simp only [b53, Bool.not_true, Bool.not_false]) ?_
                  clear b53
                  refine S_condF (.tmp 129) morainelaw20_FrameRow.k86 morainelaw20_FrameRow.k87 (by kernel_rfl) (by kernel_rfl) ?_
                  refine S_skip (by kernel_rfl) ?_
                  refine S_then ?_
                  refine S_seq morainelaw20_FrameRow.k88 morainelaw20_FrameRow.k89 (by kernel_rfl) ?_
                  refine S_seq morainelaw20_FrameRow.k90 morainelaw20_FrameRow.k91 (by kernel_rfl) ?_
                  refine S_region 25 (Code.ops morainelaw20_FrameRow.k90) (by kernel_rfl) ?_
                  refine N_run 1 [(0, .slice (some kindsBA_2) kindsN kindsC), (1, .slice (some fieldsBA_2) fieldsN fieldsC), (5, .pointer ra), (7, .int .u64 row_2), (12, .int .i64 i_2), (15, .int .i64 0)] (fun w => by kernel_rfl) ?_
                  refine N_end (by kernel_rfl) ?_
                  refine S_then ?_
                  refine S_block 6 morainelaw20_FrameRow.k92 (by kernel_rfl) ?_
                  obtain ⟨I94, m94, i54, i55⟩ := h
                  refine S_loop (x := morainelaw20_FrameRow.k93) (σ := Int) (fun s_ => [(0, .slice (some kindsBA_2) kindsN kindsC), (1, .slice (some fieldsBA_2) fieldsN fieldsC), (5, .pointer ra), (7, .int .u64 row_2), (12, .int .i64 i_2), (15, .int .i64 s_)]) (fun s_ H => I94 s_ H) (fun s_ H => m94 s_ H) (0 : Int) (by kernel_rfl) i54 (sb (by kernel_rfl)) ?_
                  rintro nv H13 i56
                  have h := i55 nv H13 i56
                  refine S_sub [(0, .slice (some kindsBA_2) kindsN kindsC), (1, .slice (some fieldsBA_2) fieldsN fieldsC), (5, .pointer ra), (7, .int .u64 row_2), (12, .int .i64 i_2), (15, .int .i64 nv)] (sb (by kernel_rfl)) ?_
                  refine S_seq morainelaw20_FrameRow.k94 morainelaw20_FrameRow.k95 (by kernel_rfl) ?_
                  refine S_seq morainelaw20_FrameRow.k96 morainelaw20_FrameRow.k97 (by kernel_rfl) ?_
                  refine S_region 26 (Code.ops morainelaw20_FrameRow.k96) (by kernel_rfl) ?_
                  refine N_run 3 [(0, .slice (some kindsBA_2) kindsN kindsC), (1, .slice (some fieldsBA_2) fieldsN fieldsC), (5, .pointer ra), (7, .int .u64 row_2), (12, .int .i64 i_2), (15, .int .i64 nv), (130, .int .i64 nv), (131, .slice (some fieldsBA_2) fieldsN fieldsC), (132, .int .i64 i_2)] (fun w => by kernel_rfl) ?_
                  obtain ⟨q57, h⟩ := h
                  refine N_val (some 133) (indexAtN 38 (.slice (some fieldsBA_2) fieldsN fieldsC) (.int .i64 i_2)) (.pointer (some (fieldsBA_2.add (Int.toNat i_2 * 1)))) (fun w => by kernel_rfl) (fun w _ => indexAt_run (P := Try.prog) (t := 38) (elem := 40) (sz := 1) (a := fieldsBA_2) (len := fieldsN) (cap := fieldsC) (k := .i64) (i := i_2) Try.underlying38 (fun w => by kernel_rfl) q57.1 q57.2 w) [(0, .slice (some kindsBA_2) kindsN kindsC), (1, .slice (some fieldsBA_2) fieldsN fieldsC), (5, .pointer ra), (7, .int .u64 row_2), (12, .int .i64 i_2), (15, .int .i64 nv), (130, .int .i64 nv), (133, .pointer (some (fieldsBA_2.add (Int.toNat i_2 * 1))))] (ps (by kernel_rfl)) ?_
                  obtain ⟨xB_4, xN_4, xC_4, q58, h⟩ := h
                  refine N_val (some 134) (loadN 40 (.pointer (some (fieldsBA_2.add (Int.toNat i_2 * 1))))) (.slice xB_4 xN_4 xC_4) (fun w => by kernel_rfl) (loadN_run (loadOK_one (fun w => by kernel_rfl) q58)) [(0, .slice (some kindsBA_2) kindsN kindsC), (1, .slice (some fieldsBA_2) fieldsN fieldsC), (5, .pointer ra), (7, .int .u64 row_2), (12, .int .i64 i_2), (15, .int .i64 nv), (130, .int .i64 nv), (134, .slice xB_4 xN_4 xC_4)] (ps (by kernel_rfl)) ?_
                  refine N_run 2 [(0, .slice (some kindsBA_2) kindsN kindsC), (1, .slice (some fieldsBA_2) fieldsN fieldsC), (5, .pointer ra), (7, .int .u64 row_2), (12, .int .i64 i_2), (15, .int .i64 nv), (136, .bool (decide (nv < (xN_4 : Int))))] (fun w => by kernel_rfl) ?_
                  refine N_end (by kernel_rfl) ?_
                  refine S_then ?_
                  by_cases c59 : nv < (xN_4 : Int)
                  · rw [if_pos c59] at h
                    have b60 : (decide (nv < (xN_4 : Int))) = true := decide_eq_true c59
                    refine S_env [(0, .slice (some kindsBA_2) kindsN kindsC), (1, .slice (some fieldsBA_2) fieldsN fieldsC), (5, .pointer ra), (7, .int .u64 row_2), (12, .int .i64 i_2), (15, .int .i64 nv), (136, .bool true)] (by simp only [b60, Bool.not_true, Bool.not_false]) ?_
                    clear b60
                    refine S_condT (.tmp 136) morainelaw20_FrameRow.k98 morainelaw20_FrameRow.k99 (by kernel_rfl) (by kernel_rfl) ?_
                    refine S_skip (by kernel_rfl) ?_
                    refine S_then ?_
                    refine S_seq morainelaw20_FrameRow.k100 morainelaw20_FrameRow.k101 (by kernel_rfl) ?_
                    refine S_block 7 morainelaw20_FrameRow.k102 (by kernel_rfl) ?_
                    refine S_seq morainelaw20_FrameRow.k103 morainelaw20_FrameRow.k104 (by kernel_rfl) ?_
                    refine S_region 28 (Code.ops morainelaw20_FrameRow.k103) (by kernel_rfl) ?_
                    refine N_run 3 [(0, .slice (some kindsBA_2) kindsN kindsC), (1, .slice (some fieldsBA_2) fieldsN fieldsC), (5, .pointer ra), (7, .int .u64 row_2), (12, .int .i64 i_2), (15, .int .i64 nv), (140, .pointer ra), (141, .int .u64 row_2), (142, .int .i64 nv)] (fun w => by kernel_rfl) ?_
                    refine N_call (some 143) 18 #[.pointer ra, .int .u64 row_2, .int .i64 nv] (fun w => by kernel_rfl) h ?_; clear h
                    rintro v_7 H14 ⟨ra_4, rb_4, rfl, h⟩
                    refine ⟨[(0, .slice (some kindsBA_2) kindsN kindsC), (1, .slice (some fieldsBA_2) fieldsN fieldsC), (5, .pointer ra), (7, .int .u64 row_2), (12, .int .i64 i_2), (15, .int .i64 nv), (143, .tuple #[.int .u64 ra_4, .int .i64 rb_4])], ps (by kernel_rfl), ?_⟩
                    refine N_run 5 [(0, .slice (some kindsBA_2) kindsN kindsC), (1, .slice (some fieldsBA_2) fieldsN fieldsC), (5, .pointer ra), (7, .int .u64 row_2), (12, .int .i64 i_2), (15, .int .i64 nv), (16, .int .u64 ra_4), (17, .int .i64 rb_4)] (fun w => by kernel_rfl) ?_
                    refine N_end (by kernel_rfl) ?_
                    refine S_then ?_
                    refine S_seq morainelaw20_FrameRow.k105 morainelaw20_FrameRow.k106 (by kernel_rfl) ?_
                    refine S_region 29 (Code.ops morainelaw20_FrameRow.k105) (by kernel_rfl) ?_
                    refine N_run 3 [(0, .slice (some kindsBA_2) kindsN kindsC), (1, .slice (some fieldsBA_2) fieldsN fieldsC), (5, .pointer ra), (7, .int .u64 row_2), (12, .int .i64 i_2), (15, .int .i64 nv), (16, .int .u64 ra_4), (148, .bool (rb_4 != 0))] (fun w => by kernel_rfl) ?_
                    by_cases c61 : rb_4 = 0
                    · rw [if_pos c61] at h
                      have b62 : (rb_4 != 0) = false := bne_eq_false_iff_eq.mpr c61
                      refine N_env [(0, .slice (some kindsBA_2) kindsN kindsC), (1, .slice (some fieldsBA_2) fieldsN fieldsC), (5, .pointer ra), (7, .int .u64 row_2), (12, .int .i64 i_2), (15, .int .i64 nv), (16, .int .u64 ra_4), (148, .bool false)] (by simp only [b62, Bool.not_true, Bool.not_false]) ?_
                      clear b62
                      refine N_run 3 [(0, .slice (some kindsBA_2) kindsN kindsC), (1, .slice (some fieldsBA_2) fieldsN fieldsC), (5, .pointer ra), (7, .int .u64 row_2), (12, .int .i64 i_2), (15, .int .i64 nv), (148, .bool false), (149, .int .u64 ra_4), (150, .slice (some fieldsBA_2) fieldsN fieldsC), (151, .int .i64 i_2)] (fun w => by kernel_rfl) ?_
                      obtain ⟨q63, h⟩ := h
                      refine N_val (some 152) (indexAtN 38 (.slice (some fieldsBA_2) fieldsN fieldsC) (.int .i64 i_2)) (.pointer (some (fieldsBA_2.add (Int.toNat i_2 * 1)))) (fun w => by kernel_rfl) (fun w _ => indexAt_run (P := Try.prog) (t := 38) (elem := 40) (sz := 1) (a := fieldsBA_2) (len := fieldsN) (cap := fieldsC) (k := .i64) (i := i_2) Try.underlying38 (fun w => by kernel_rfl) q63.1 q63.2 w) [(0, .slice (some kindsBA_2) kindsN kindsC), (1, .slice (some fieldsBA_2) fieldsN fieldsC), (5, .pointer ra), (7, .int .u64 row_2), (12, .int .i64 i_2), (15, .int .i64 nv), (148, .bool false), (149, .int .u64 ra_4), (152, .pointer (some (fieldsBA_2.add (Int.toNat i_2 * 1))))] (ps (by kernel_rfl)) ?_
                      obtain ⟨xB_5, xN_5, xC_5, q64, h⟩ := h
                      refine N_val (some 153) (loadN 40 (.pointer (some (fieldsBA_2.add (Int.toNat i_2 * 1))))) (.slice xB_5 xN_5 xC_5) (fun w => by kernel_rfl) (loadN_run (loadOK_one (fun w => by kernel_rfl) q64)) [(0, .slice (some kindsBA_2) kindsN kindsC), (1, .slice (some fieldsBA_2) fieldsN fieldsC), (5, .pointer ra), (7, .int .u64 row_2), (12, .int .i64 i_2), (15, .int .i64 nv), (148, .bool false), (149, .int .u64 ra_4), (153, .slice xB_5 xN_5 xC_5)] (ps (by kernel_rfl)) ?_
                      refine N_run 1 [(0, .slice (some kindsBA_2) kindsN kindsC), (1, .slice (some fieldsBA_2) fieldsN fieldsC), (5, .pointer ra), (7, .int .u64 row_2), (12, .int .i64 i_2), (15, .int .i64 nv), (148, .bool false), (149, .int .u64 ra_4), (153, .slice xB_5 xN_5 xC_5), (154, .int .i64 nv)] (fun w => by kernel_rfl) ?_
                      obtain ⟨xB5A, rfl, h⟩ := h
                      obtain ⟨q65, h⟩ := h
                      refine N_val (some 155) (indexAtN 40 (.slice (some xB5A) xN_5 xC_5) (.int .i64 nv)) (.pointer (some (xB5A.add (Int.toNat nv * 1)))) (fun w => by kernel_rfl) (fun w _ => indexAt_run (P := Try.prog) (t := 40) (elem := 41) (sz := 1) (a := xB5A) (len := xN_5) (cap := xC_5) (k := .i64) (i := nv) Try.underlying40 (fun w => by kernel_rfl) q65.1 q65.2 w) [(0, .slice (some kindsBA_2) kindsN kindsC), (1, .slice (some fieldsBA_2) fieldsN fieldsC), (5, .pointer ra), (7, .int .u64 row_2), (12, .int .i64 i_2), (15, .int .i64 nv), (148, .bool false), (149, .int .u64 ra_4), (155, .pointer (some (xB5A.add (Int.toNat nv * 1))))] (ps (by kernel_rfl)) ?_
                      obtain ⟨x_7, q66, h⟩ := h
                      refine N_val (some 156) (loadN 41 (.pointer (some (xB5A.add (Int.toNat nv * 1))))) (.int .u32 x_7) (fun w => by kernel_rfl) (loadN_run (loadOK_one (fun w => by kernel_rfl) q66)) [(0, .slice (some kindsBA_2) kindsN kindsC), (1, .slice (some fieldsBA_2) fieldsN fieldsC), (5, .pointer ra), (7, .int .u64 row_2), (12, .int .i64 i_2), (15, .int .i64 nv), (148, .bool false), (149, .int .u64 ra_4), (156, .int .u32 x_7)] (ps (by kernel_rfl)) ?_
                      refine N_run 4 [(0, .slice (some kindsBA_2) kindsN kindsC), (1, .slice (some fieldsBA_2) fieldsN fieldsC), (5, .pointer ra), (7, .int .u64 row_2), (12, .int .i64 i_2), (15, .int .i64 nv), (160, .bool (ra_4 != (ishl .u64 (IntKind.wrap .u64 x_7) 3)))] (fun w => by kernel_rfl) ?_
                      refine N_end (by kernel_rfl) ?_
                      refine S_then ?_
                      by_cases c67 : ra_4 = (ishl .u64 (IntKind.wrap .u64 x_7) 3)
                      · rw [if_pos c67] at h
                        have b68 : (ra_4 != (ishl .u64 (IntKind.wrap .u64 x_7) 3)) = false := bne_eq_false_iff_eq.mpr c67
                        refine S_env [(0, .slice (some kindsBA_2) kindsN kindsC), (1, .slice (some fieldsBA_2) fieldsN fieldsC), (5, .pointer ra), (7, .int .u64 row_2), (12, .int .i64 i_2), (15, .int .i64 nv), (160, .bool false)] (by simp only [b68, Bool.not_true, Bool.not_false]) ?_
                        clear b68
                        refine S_condF (.tmp 160) morainelaw20_FrameRow.k107 morainelaw20_FrameRow.k108 (by kernel_rfl) (by kernel_rfl) ?_
                        refine S_skip (by kernel_rfl) ?_
                        refine S_blockEnd ?_
                        refine S_then ?_
                        refine S_region 27 (Code.ops morainelaw20_FrameRow.k101) (by kernel_rfl) ?_
                        refine N_run 3 [(0, .slice (some kindsBA_2) kindsN kindsC), (1, .slice (some fieldsBA_2) fieldsN fieldsC), (5, .pointer ra), (7, .int .u64 row_2), (12, .int .i64 i_2), (15, .int .i64 (IntKind.wrap .i64 (nv + 1)))] (fun w => by kernel_rfl) ?_
                        refine N_end (by kernel_rfl) ?_
                        refine S_then ?_
                        exact S_round ((IntKind.wrap .i64 (nv + 1)) : Int) (sb (by kernel_rfl)) h
                      · rw [if_neg c67] at h
                        have b68 : (ra_4 != (ishl .u64 (IntKind.wrap .u64 x_7) 3)) = true := bne_iff_ne.mpr c67
                        refine S_env [(0, .slice (some kindsBA_2) kindsN kindsC), (1, .slice (some fieldsBA_2) fieldsN fieldsC), (5, .pointer ra), (7, .int .u64 row_2), (12, .int .i64 i_2), (15, .int .i64 nv), (160, .bool true)] (by simp only [b68, Bool.not_true, Bool.not_false]) ?_
                        clear b68
                        refine S_condT (.tmp 160) morainelaw20_FrameRow.k107 morainelaw20_FrameRow.k108 (by kernel_rfl) (by kernel_rfl) ?_
                        refine S_seq morainelaw20_FrameRow.k109 morainelaw20_FrameRow.k110 (by kernel_rfl) ?_
                        refine S_region 30 (Code.ops morainelaw20_FrameRow.k109) (by kernel_rfl) ?_
                        refine N_run 1 [(4, .bool false)] (fun w => by kernel_rfl) ?_
                        refine N_end (by kernel_rfl) ?_
                        refine S_then ?_
                        refine S_ret (by kernel_rfl) ?_
                        show At _ _ _ _ (Q .ret)
                        exact S_done (fn := Try.f4) [.bool false] hQ (show ResOK _ _ _ [.tmp 4] _ from .tmp (by kernel_rfl) (.nil)) h
                    · rw [if_neg c61] at h
                      have b62 : (rb_4 != 0) = true := bne_iff_ne.mpr c61
                      refine N_env [(0, .slice (some kindsBA_2) kindsN kindsC), (1, .slice (some fieldsBA_2) fieldsN fieldsC), (5, .pointer ra), (7, .int .u64 row_2), (12, .int .i64 i_2), (15, .int .i64 nv), (16, .int .u64 ra_4), (148, .bool true)] (by simp only [b62, Bool.not_true, Bool.not_false]) ?_
                      clear b62
                      refine N_run 12 [(0, .slice (some kindsBA_2) kindsN kindsC), (1, .slice (some fieldsBA_2) fieldsN fieldsC), (5, .pointer ra), (7, .int .u64 row_2), (12, .int .i64 i_2), (15, .int .i64 nv), (160, .bool true)] (fun w => by kernel_rfl) ?_
                      refine N_end (by kernel_rfl) ?_
                      refine S_then ?_
                      refine S_condT (.tmp 160) morainelaw20_FrameRow.k107 morainelaw20_FrameRow.k108 (by kernel_rfl) (by kernel_rfl) ?_
                      refine S_seq morainelaw20_FrameRow.k109 morainelaw20_FrameRow.k110 (by kernel_rfl) ?_
                      refine S_region 30 (Code.ops morainelaw20_FrameRow.k109) (by kernel_rfl) ?_
                      refine N_run 1 [(4, .bool false)] (fun w => by kernel_rfl) ?_
                      refine N_end (by kernel_rfl) ?_
                      refine S_then ?_
                      refine S_ret (by kernel_rfl) ?_
                      show At _ _ _ _ (Q .ret)
                      exact S_done (fn := Try.f4) [.bool false] hQ (show ResOK _ _ _ [.tmp 4] _ from .tmp (by kernel_rfl) (.nil)) h
                  · rw [if_neg c59] at h
                    have b60 : (decide (nv < (xN_4 : Int))) = false := decide_eq_false c59
                    refine S_env [(0, .slice (some kindsBA_2) kindsN kindsC), (1, .slice (some fieldsBA_2) fieldsN fieldsC), (5, .pointer ra), (7, .int .u64 row_2), (12, .int .i64 i_2), (15, .int .i64 nv), (136, .bool false)] (by simp only [b60, Bool.not_true, Bool.not_false]) ?_
                    clear b60
                    refine S_condF (.tmp 136) morainelaw20_FrameRow.k98 morainelaw20_FrameRow.k99 (by kernel_rfl) (by kernel_rfl) ?_
                    refine S_exit 6 (by kernel_rfl) ?_
                    refine S_exitThen ?_
                    refine S_exitThen ?_
                    refine S_exitHere ?_
                    refine S_then ?_
                    refine S_seq morainelaw20_FrameRow.k111 morainelaw20_FrameRow.k112 (by kernel_rfl) ?_
                    refine S_region 31 (Code.ops morainelaw20_FrameRow.k111) (by kernel_rfl) ?_
                    refine N_run 2 [(0, .slice (some kindsBA_2) kindsN kindsC), (1, .slice (some fieldsBA_2) fieldsN fieldsC), (5, .pointer ra), (12, .int .i64 i_2), (162, .pointer ra), (163, .int .u64 row_2)] (fun w => by kernel_rfl) ?_
                    refine N_call (some 164) 15 #[.pointer ra, .int .u64 row_2] (fun w => by kernel_rfl) h ?_; clear h
                    rintro v_8 H15 ⟨ra_5, rb_5, rfl, h⟩
                    refine ⟨[(0, .slice (some kindsBA_2) kindsN kindsC), (1, .slice (some fieldsBA_2) fieldsN fieldsC), (5, .pointer ra), (12, .int .i64 i_2), (164, .tuple #[.int .u64 ra_5, .int .i64 rb_5])], ps (by kernel_rfl), ?_⟩
                    refine N_run 5 [(0, .slice (some kindsBA_2) kindsN kindsC), (1, .slice (some fieldsBA_2) fieldsN fieldsC), (5, .pointer ra), (7, .int .u64 ra_5), (12, .int .i64 i_2), (14, .int .i64 rb_5)] (fun w => by kernel_rfl) ?_
                    refine N_end (by kernel_rfl) ?_
                    refine S_then ?_
                    refine S_seq morainelaw20_FrameRow.k113 morainelaw20_FrameRow.k114 (by kernel_rfl) ?_
                    refine S_region 32 (Code.ops morainelaw20_FrameRow.k113) (by kernel_rfl) ?_
                    refine N_run 2 [(0, .slice (some kindsBA_2) kindsN kindsC), (1, .slice (some fieldsBA_2) fieldsN fieldsC), (5, .pointer ra), (7, .int .u64 ra_5), (12, .int .i64 i_2), (168, .bool (rb_5 != 0))] (fun w => by kernel_rfl) ?_
                    refine N_end (by kernel_rfl) ?_
                    refine S_then ?_
                    by_cases c69 : rb_5 = 0
                    · rw [if_pos c69] at h
                      have b70 : (rb_5 != 0) = false := bne_eq_false_iff_eq.mpr c69
                      refine S_env [(0, .slice (some kindsBA_2) kindsN kindsC), (1, .slice (some fieldsBA_2) fieldsN fieldsC), (5, .pointer ra), (7, .int .u64 ra_5), (12, .int .i64 i_2), (168, .bool false)] (by simp only [b70, Bool.not_true, Bool.not_false]) ?_
                      clear b70
                      refine S_condF (.tmp 168) morainelaw20_FrameRow.k115 morainelaw20_FrameRow.k116 (by kernel_rfl) (by kernel_rfl) ?_
                      refine S_skip (by kernel_rfl) ?_
                      refine S_blockEnd ?_
                      refine S_then ?_
                      refine S_region 21 (Code.ops morainelaw20_FrameRow.k78) (by kernel_rfl) ?_
                      refine N_run 3 [(0, .slice (some kindsBA_2) kindsN kindsC), (1, .slice (some fieldsBA_2) fieldsN fieldsC), (5, .pointer ra), (7, .int .u64 ra_5), (12, .int .i64 (IntKind.wrap .i64 (i_2 - 1)))] (fun w => by kernel_rfl) ?_
                      refine N_end (by kernel_rfl) ?_
                      refine S_then ?_
                      exact S_round ((ra_5, (IntKind.wrap .i64 (i_2 - 1))) : Int × Int) (sb (by kernel_rfl)) h
                    · rw [if_neg c69] at h
                      have b70 : (rb_5 != 0) = true := bne_iff_ne.mpr c69
                      refine S_env [(0, .slice (some kindsBA_2) kindsN kindsC), (1, .slice (some fieldsBA_2) fieldsN fieldsC), (5, .pointer ra), (7, .int .u64 ra_5), (12, .int .i64 i_2), (168, .bool true)] (by simp only [b70, Bool.not_true, Bool.not_false]) ?_
                      clear b70
                      refine S_condT (.tmp 168) morainelaw20_FrameRow.k115 morainelaw20_FrameRow.k116 (by kernel_rfl) (by kernel_rfl) ?_
                      refine S_seq morainelaw20_FrameRow.k117 morainelaw20_FrameRow.k118 (by kernel_rfl) ?_
                      refine S_region 33 (Code.ops morainelaw20_FrameRow.k117) (by kernel_rfl) ?_
                      refine N_run 1 [(4, .bool false)] (fun w => by kernel_rfl) ?_
                      refine N_end (by kernel_rfl) ?_
                      refine S_then ?_
                      refine S_ret (by kernel_rfl) ?_
                      show At _ _ _ _ (Q .ret)
                      exact S_done (fn := Try.f4) [.bool false] hQ (show ResOK _ _ _ [.tmp 4] _ from .tmp (by kernel_rfl) (.nil)) h
                · rw [if_neg c52] at h
                  have b53 : (x_6 != (xN_3 : Int)) = true := bne_iff_ne.mpr c52
                  refine S_env [(0, .slice (some kindsBA_2) kindsN kindsC), (1, .slice (some fieldsBA_2) fieldsN fieldsC), (5, .pointer ra), (7, .int .u64 row_2), (12, .int .i64 i_2), (129, .bool true)] (by simp only [b53, Bool.not_true, Bool.not_false]) ?_
                  clear b53
                  refine S_condT (.tmp 129) morainelaw20_FrameRow.k86 morainelaw20_FrameRow.k87 (by kernel_rfl) (by kernel_rfl) ?_
                  refine S_seq morainelaw20_FrameRow.k119 morainelaw20_FrameRow.k120 (by kernel_rfl) ?_
                  refine S_region 24 (Code.ops morainelaw20_FrameRow.k119) (by kernel_rfl) ?_
                  refine N_run 1 [(4, .bool false)] (fun w => by kernel_rfl) ?_
                  refine N_end (by kernel_rfl) ?_
                  refine S_then ?_
                  refine S_ret (by kernel_rfl) ?_
                  show At _ _ _ _ (Q .ret)
                  exact S_done (fn := Try.f4) [.bool false] hQ (show ResOK _ _ _ [.tmp 4] _ from .tmp (by kernel_rfl) (.nil)) h
              · rw [if_neg c47] at h
                have b48 : (ra_3 != (iand .i64 x_5 65535)) = true := bne_iff_ne.mpr c47
                refine S_regionG 23 (Code.ops morainelaw20_FrameRow.k84) [(22, (kindsBA_2.add (Int.toNat i_2 * 1)), [.int .i64 x_5])] 22 #[false, false, false, false, false, false, false, false, false, false, false, false, false, false, false, false, false, false, false, false, false, false] (by kernel_rfl) (by kernel_rfl) (by kernel_rfl) (by kernel_rfl) (by kernel_rfl) (show FactsAt _ _ _ from ⟨⟨q46, trivial⟩, trivial⟩) ?_
                refine G_take 0 (some 108) (.int .i64 rb_3) #[true, false, false, false, false, false, false, false, false, false, false, false, false, false, false, false, false, false, false, false, false, false] [(0, .slice (some kindsBA_2) kindsN kindsC), (1, .slice fieldsB fieldsN fieldsC), (5, .pointer ra), (7, .int .u64 row_2), (12, .int .i64 i_2), (13, .int .i64 ra_3), (108, .int .i64 rb_3)] ((pure (.value (.int .i64 rb_3)) : Sem Next)) (fun w => by kernel_rfl) (fun _ _ _ _ _ => rfl) (by kernel_rfl) (by kernel_rfl) (by kernel_rfl) (by kernel_rfl) (by kernel_rfl) (ps (by kernel_rfl)) ?_
                refine G_take 1 (some 109) (.bool (rb_3 != 0)) #[true, true, false, false, false, false, false, false, false, false, false, false, false, false, false, false, false, false, false, false, false, false] [(0, .slice (some kindsBA_2) kindsN kindsC), (1, .slice fieldsB fieldsN fieldsC), (5, .pointer ra), (7, .int .u64 row_2), (12, .int .i64 i_2), (13, .int .i64 ra_3), (109, .bool (rb_3 != 0))] ((pure (.value (.bool (rb_3 != 0))) : Sem Next)) (fun w => by kernel_rfl) (fun _ _ _ _ _ => rfl) (by kernel_rfl) (by kernel_rfl) (by kernel_rfl) (by kernel_rfl) (by kernel_rfl) (ps (by kernel_rfl)) ?_
                refine G_take 2 (some 110) (.bool (rb_3 != 0)) #[true, true, true, false, false, false, false, false, false, false, false, false, false, false, false, false, false, false, false, false, false, false] [(0, .slice (some kindsBA_2) kindsN kindsC), (1, .slice fieldsB fieldsN fieldsC), (5, .pointer ra), (7, .int .u64 row_2), (12, .int .i64 i_2), (13, .int .i64 ra_3), (110, .bool (rb_3 != 0))] ((pure (.value (.bool (rb_3 != 0))) : Sem Next)) (fun w => by kernel_rfl) (fun _ _ _ _ _ => rfl) (by kernel_rfl) (by kernel_rfl) (by kernel_rfl) (by kernel_rfl) (by kernel_rfl) (ps (by kernel_rfl)) ?_
                refine G_env [(0, .slice (some kindsBA_2) kindsN kindsC), (1, .slice fieldsB fieldsN fieldsC), (5, .pointer ra), (7, .int .u64 row_2), (12, .int .i64 i_2), (13, .int .i64 ra_3), (110, .bool false)] (by simp only [b44, Bool.not_true, Bool.not_false]) ?_
                refine G_take 3 (some 111) (.int .i64 ra_3) #[true, true, true, true, false, false, false, false, false, false, false, false, false, false, false, false, false, false, false, false, false, false] [(0, .slice (some kindsBA_2) kindsN kindsC), (1, .slice fieldsB fieldsN fieldsC), (5, .pointer ra), (7, .int .u64 row_2), (12, .int .i64 i_2), (110, .bool false), (111, .int .i64 ra_3)] ((pure (.value (.int .i64 ra_3)) : Sem Next)) (fun w => by kernel_rfl) (fun _ _ _ _ _ => rfl) (by kernel_rfl) (by kernel_rfl) (by kernel_rfl) (by kernel_rfl) (by kernel_rfl) (ps (by kernel_rfl)) ?_
                refine G_take 4 (some 112) (.slice (some kindsBA_2) kindsN kindsC) #[true, true, true, true, true, false, false, false, false, false, false, false, false, false, false, false, false, false, false, false, false, false] [(0, .slice (some kindsBA_2) kindsN kindsC), (1, .slice fieldsB fieldsN fieldsC), (5, .pointer ra), (7, .int .u64 row_2), (12, .int .i64 i_2), (110, .bool false), (111, .int .i64 ra_3), (112, .slice (some kindsBA_2) kindsN kindsC)] ((pure (.value (.slice (some kindsBA_2) kindsN kindsC)) : Sem Next)) (fun w => by kernel_rfl) (fun _ _ _ _ _ => rfl) (by kernel_rfl) (by kernel_rfl) (by kernel_rfl) (by kernel_rfl) (by kernel_rfl) (ps (by kernel_rfl)) ?_
                refine G_take 5 (some 113) (.int .i64 i_2) #[true, true, true, true, true, true, false, false, false, false, false, false, false, false, false, false, false, false, false, false, false, false] [(0, .slice (some kindsBA_2) kindsN kindsC), (1, .slice fieldsB fieldsN fieldsC), (5, .pointer ra), (7, .int .u64 row_2), (12, .int .i64 i_2), (110, .bool false), (111, .int .i64 ra_3), (112, .slice (some kindsBA_2) kindsN kindsC), (113, .int .i64 i_2)] ((pure (.value (.int .i64 i_2)) : Sem Next)) (fun w => by kernel_rfl) (fun _ _ _ _ _ => rfl) (by kernel_rfl) (by kernel_rfl) (by kernel_rfl) (by kernel_rfl) (by kernel_rfl) (ps (by kernel_rfl)) ?_
                refine G_take 6 (some 114) (.pointer (some (kindsBA_2.add (Int.toNat i_2 * 1)))) #[true, true, true, true, true, true, true, false, false, false, false, false, false, false, false, false, false, false, false, false, false, false] [(0, .slice (some kindsBA_2) kindsN kindsC), (1, .slice fieldsB fieldsN fieldsC), (5, .pointer ra), (7, .int .u64 row_2), (12, .int .i64 i_2), (110, .bool false), (111, .int .i64 ra_3), (114, .pointer (some (kindsBA_2.add (Int.toNat i_2 * 1))))] (indexAtN 37 (.slice (some kindsBA_2) kindsN kindsC) (.int .i64 i_2)) (fun w => by kernel_rfl) (fun _ w _ _ _ => indexAt_run (P := Try.prog) (t := 37) (elem := 3) (sz := 1) (a := kindsBA_2) (len := kindsN) (cap := kindsC) (k := .i64) (i := i_2) Try.underlying37 (fun w => by kernel_rfl) q45.1 q45.2 w) (by kernel_rfl) (by kernel_rfl) (by kernel_rfl) (by kernel_rfl) (by kernel_rfl) (ps (by kernel_rfl)) ?_
                refine G_take 7 (some 115) (.int .i64 x_5) #[true, true, true, true, true, true, true, true, false, false, false, false, false, false, false, false, false, false, false, false, false, false] [(0, .slice (some kindsBA_2) kindsN kindsC), (1, .slice fieldsB fieldsN fieldsC), (5, .pointer ra), (7, .int .u64 row_2), (12, .int .i64 i_2), (110, .bool false), (111, .int .i64 ra_3), (115, .int .i64 x_5)] (loadN 3 (.pointer (some (kindsBA_2.add (Int.toNat i_2 * 1))))) (fun w => by kernel_rfl) (held_one 22 (fun w => by kernel_rfl) (List.Mem.head _) (.inr (by kernel_rfl))) (by kernel_rfl) (by kernel_rfl) (by kernel_rfl) (by kernel_rfl) (by kernel_rfl) (ps (by kernel_rfl)) ?_
                refine G_take 8 (some 116) (.int .i64 (iand .i64 x_5 65535)) #[true, true, true, true, true, true, true, true, true, false, false, false, false, false, false, false, false, false, false, false, false, false] [(0, .slice (some kindsBA_2) kindsN kindsC), (1, .slice fieldsB fieldsN fieldsC), (5, .pointer ra), (7, .int .u64 row_2), (12, .int .i64 i_2), (110, .bool false), (111, .int .i64 ra_3), (116, .int .i64 (iand .i64 x_5 65535))] ((pure (.value (.int .i64 (iand .i64 x_5 65535))) : Sem Next)) (fun w => by kernel_rfl) (fun _ _ _ _ _ => rfl) (by kernel_rfl) (by kernel_rfl) (by kernel_rfl) (by kernel_rfl) (by kernel_rfl) (ps (by kernel_rfl)) ?_
                refine G_take 9 (some 117) (.bool (ra_3 != (iand .i64 x_5 65535))) #[true, true, true, true, true, true, true, true, true, true, false, false, false, false, false, false, false, false, false, false, false, false] [(0, .slice (some kindsBA_2) kindsN kindsC), (1, .slice fieldsB fieldsN fieldsC), (5, .pointer ra), (7, .int .u64 row_2), (12, .int .i64 i_2), (110, .bool false), (117, .bool (ra_3 != (iand .i64 x_5 65535)))] ((pure (.value (.bool (ra_3 != (iand .i64 x_5 65535)))) : Sem Next)) (fun w => by kernel_rfl) (fun _ _ _ _ _ => rfl) (by kernel_rfl) (by kernel_rfl) (by kernel_rfl) (by kernel_rfl) (by kernel_rfl) (ps (by kernel_rfl)) ?_
                refine G_take 10 (some 118) (.bool (ra_3 != (iand .i64 x_5 65535))) #[true, true, true, true, true, true, true, true, true, true, true, false, false, false, false, false, false, false, false, false, false, false] [(0, .slice (some kindsBA_2) kindsN kindsC), (1, .slice fieldsB fieldsN fieldsC), (5, .pointer ra), (7, .int .u64 row_2), (12, .int .i64 i_2), (118, .bool (ra_3 != (iand .i64 x_5 65535)))] ((pure (.value (.bool (ra_3 != (iand .i64 x_5 65535)))) : Sem Next)) (fun w => by kernel_rfl) (fun _ _ _ _ _ => rfl) (by kernel_rfl) (by kernel_rfl) (by kernel_rfl) (by kernel_rfl) (by kernel_rfl) (ps (by kernel_rfl)) ?_
                refine G_take 11 (some 119) (.bool (ra_3 != (iand .i64 x_5 65535))) #[true, true, true, true, true, true, true, true, true, true, true, true, false, false, false, false, false, false, false, false, false, false] [(0, .slice (some kindsBA_2) kindsN kindsC), (1, .slice fieldsB fieldsN fieldsC), (5, .pointer ra), (7, .int .u64 row_2), (12, .int .i64 i_2), (119, .bool (ra_3 != (iand .i64 x_5 65535)))] ((pure (.value (.bool (ra_3 != (iand .i64 x_5 65535)))) : Sem Next)) (fun w => by kernel_rfl) (fun _ _ _ _ _ => rfl) (by kernel_rfl) (by kernel_rfl) (by kernel_rfl) (by kernel_rfl) (by kernel_rfl) (ps (by kernel_rfl)) ?_
                refine G_env [(0, .slice (some kindsBA_2) kindsN kindsC), (1, .slice fieldsB fieldsN fieldsC), (5, .pointer ra), (7, .int .u64 row_2), (12, .int .i64 i_2), (119, .bool true)] (by simp only [b48, Bool.not_true, Bool.not_false]) ?_
                refine G_pass 12 (some 120) #[true, true, true, true, true, true, true, true, true, true, true, true, true, false, false, false, false, false, false, false, false, false] [(0, .slice (some kindsBA_2) kindsN kindsC), (1, .slice fieldsB fieldsN fieldsC), (5, .pointer ra), (7, .int .u64 row_2), (12, .int .i64 i_2), (119, .bool true), (120, undef)] (by kernel_rfl) (by kernel_rfl) (by kernel_rfl) (by kernel_rfl) (by kernel_rfl) (by kernel_rfl) (ps (by kernel_rfl)) ?_
                refine G_pass 13 (some 121) #[true, true, true, true, true, true, true, true, true, true, true, true, true, true, false, false, false, false, false, false, false, false] [(0, .slice (some kindsBA_2) kindsN kindsC), (1, .slice fieldsB fieldsN fieldsC), (5, .pointer ra), (7, .int .u64 row_2), (12, .int .i64 i_2), (119, .bool true), (120, undef), (121, undef)] (by kernel_rfl) (by kernel_rfl) (by kernel_rfl) (by kernel_rfl) (by kernel_rfl) (by kernel_rfl) (ps (by kernel_rfl)) ?_
                refine G_pass 14 (some 122) #[true, true, true, true, true, true, true, true, true, true, true, true, true, true, true, false, false, false, false, false, false, false] [(0, .slice (some kindsBA_2) kindsN kindsC), (1, .slice fieldsB fieldsN fieldsC), (5, .pointer ra), (7, .int .u64 row_2), (12, .int .i64 i_2), (119, .bool true), (122, undef)] (by kernel_rfl) (by kernel_rfl) (by kernel_rfl) (by kernel_rfl) (by kernel_rfl) (by kernel_rfl) (ps (by kernel_rfl)) ?_
                refine G_pass 15 (some 123) #[true, true, true, true, true, true, true, true, true, true, true, true, true, true, true, true, false, false, false, false, false, false] [(0, .slice (some kindsBA_2) kindsN kindsC), (1, .slice fieldsB fieldsN fieldsC), (5, .pointer ra), (7, .int .u64 row_2), (12, .int .i64 i_2), (119, .bool true), (122, undef), (123, undef)] (by kernel_rfl) (by kernel_rfl) (by kernel_rfl) (by kernel_rfl) (by kernel_rfl) (by kernel_rfl) (ps (by kernel_rfl)) ?_
                refine G_pass 16 (some 124) #[true, true, true, true, true, true, true, true, true, true, true, true, true, true, true, true, true, false, false, false, false, false] [(0, .slice (some kindsBA_2) kindsN kindsC), (1, .slice fieldsB fieldsN fieldsC), (5, .pointer ra), (7, .int .u64 row_2), (12, .int .i64 i_2), (119, .bool true), (122, undef), (123, undef), (124, undef)] (by kernel_rfl) (by kernel_rfl) (by kernel_rfl) (by kernel_rfl) (by kernel_rfl) (by kernel_rfl) (ps (by kernel_rfl)) ?_
                refine G_pass 17 (some 125) #[true, true, true, true, true, true, true, true, true, true, true, true, true, true, true, true, true, true, false, false, false, false] [(0, .slice (some kindsBA_2) kindsN kindsC), (1, .slice fieldsB fieldsN fieldsC), (5, .pointer ra), (7, .int .u64 row_2), (12, .int .i64 i_2), (119, .bool true), (122, undef), (125, undef)] (by kernel_rfl) (by kernel_rfl) (by kernel_rfl) (by kernel_rfl) (by kernel_rfl) (by kernel_rfl) (ps (by kernel_rfl)) ?_
                refine G_pass 18 (some 126) #[true, true, true, true, true, true, true, true, true, true, true, true, true, true, true, true, true, true, true, false, false, false] [(0, .slice (some kindsBA_2) kindsN kindsC), (1, .slice fieldsB fieldsN fieldsC), (5, .pointer ra), (7, .int .u64 row_2), (12, .int .i64 i_2), (119, .bool true), (122, undef), (126, undef)] (by kernel_rfl) (by kernel_rfl) (by kernel_rfl) (by kernel_rfl) (by kernel_rfl) (by kernel_rfl) (ps (by kernel_rfl)) ?_
                refine G_pass 19 (some 127) #[true, true, true, true, true, true, true, true, true, true, true, true, true, true, true, true, true, true, true, true, false, false] [(0, .slice (some kindsBA_2) kindsN kindsC), (1, .slice fieldsB fieldsN fieldsC), (5, .pointer ra), (7, .int .u64 row_2), (12, .int .i64 i_2), (119, .bool true), (122, undef), (127, undef)] (by kernel_rfl) (by kernel_rfl) (by kernel_rfl) (by kernel_rfl) (by kernel_rfl) (by kernel_rfl) (ps (by kernel_rfl)) ?_
                refine G_pass 20 (some 128) #[true, true, true, true, true, true, true, true, true, true, true, true, true, true, true, true, true, true, true, true, true, false] [(0, .slice (some kindsBA_2) kindsN kindsC), (1, .slice fieldsB fieldsN fieldsC), (5, .pointer ra), (7, .int .u64 row_2), (12, .int .i64 i_2), (119, .bool true), (128, undef)] (by kernel_rfl) (by kernel_rfl) (by kernel_rfl) (by kernel_rfl) (by kernel_rfl) (by kernel_rfl) (ps (by kernel_rfl)) ?_
                refine G_take 21 (some 129) (.bool true) #[true, true, true, true, true, true, true, true, true, true, true, true, true, true, true, true, true, true, true, true, true, true] [(0, .slice (some kindsBA_2) kindsN kindsC), (1, .slice fieldsB fieldsN fieldsC), (5, .pointer ra), (7, .int .u64 row_2), (12, .int .i64 i_2), (129, .bool true)] ((pure (.value (.bool true)) : Sem Next)) (fun w => by kernel_rfl) (fun _ _ _ _ _ => rfl) (by kernel_rfl) (by kernel_rfl) (by kernel_rfl) (by kernel_rfl) (by kernel_rfl) (ps (by kernel_rfl)) ?_
                refine G_sub [(0, .slice (some kindsBA_2) kindsN kindsC), (1, .slice fieldsB fieldsN fieldsC), (5, .pointer ra), (7, .int .u64 row_2), (12, .int .i64 i_2), (129, .bool true)] (sb (by kernel_rfl)) ?_
                refine G_end (by kernel_rfl) ?_
                refine S_then ?_
                refine S_condT (.tmp 129) morainelaw20_FrameRow.k86 morainelaw20_FrameRow.k87 (by kernel_rfl) (by kernel_rfl) ?_
                refine S_seq morainelaw20_FrameRow.k119 morainelaw20_FrameRow.k120 (by kernel_rfl) ?_
                refine S_region 24 (Code.ops morainelaw20_FrameRow.k119) (by kernel_rfl) ?_
                refine N_run 1 [(4, .bool false)] (fun w => by kernel_rfl) ?_
                refine N_end (by kernel_rfl) ?_
                refine S_then ?_
                refine S_ret (by kernel_rfl) ?_
                show At _ _ _ _ (Q .ret)
                exact S_done (fn := Try.f4) [.bool false] hQ (show ResOK _ _ _ [.tmp 4] _ from .tmp (by kernel_rfl) (.nil)) h
            · rw [if_neg c43] at h
              have b44 : (rb_3 != 0) = true := bne_iff_ne.mpr c43
              refine S_regionG 23 (Code.ops morainelaw20_FrameRow.k84) [] 22 #[false, false, false, false, false, false, false, false, false, false, false, false, false, false, false, false, false, false, false, false, false, false] (by kernel_rfl) (by kernel_rfl) (by kernel_rfl) (by kernel_rfl) (by kernel_rfl) (show FactsAt _ _ _ from trivial) ?_
              refine G_take 0 (some 108) (.int .i64 rb_3) #[true, false, false, false, false, false, false, false, false, false, false, false, false, false, false, false, false, false, false, false, false, false] [(0, .slice kindsB kindsN kindsC), (1, .slice fieldsB fieldsN fieldsC), (5, .pointer ra), (7, .int .u64 row_2), (12, .int .i64 i_2), (13, .int .i64 ra_3), (108, .int .i64 rb_3)] ((pure (.value (.int .i64 rb_3)) : Sem Next)) (fun w => by kernel_rfl) (fun _ _ _ _ _ => rfl) (by kernel_rfl) (by kernel_rfl) (by kernel_rfl) (by kernel_rfl) (by kernel_rfl) (ps (by kernel_rfl)) ?_
              refine G_take 1 (some 109) (.bool (rb_3 != 0)) #[true, true, false, false, false, false, false, false, false, false, false, false, false, false, false, false, false, false, false, false, false, false] [(0, .slice kindsB kindsN kindsC), (1, .slice fieldsB fieldsN fieldsC), (5, .pointer ra), (7, .int .u64 row_2), (12, .int .i64 i_2), (13, .int .i64 ra_3), (109, .bool (rb_3 != 0))] ((pure (.value (.bool (rb_3 != 0))) : Sem Next)) (fun w => by kernel_rfl) (fun _ _ _ _ _ => rfl) (by kernel_rfl) (by kernel_rfl) (by kernel_rfl) (by kernel_rfl) (by kernel_rfl) (ps (by kernel_rfl)) ?_
              refine G_take 2 (some 110) (.bool (rb_3 != 0)) #[true, true, true, false, false, false, false, false, false, false, false, false, false, false, false, false, false, false, false, false, false, false] [(0, .slice kindsB kindsN kindsC), (1, .slice fieldsB fieldsN fieldsC), (5, .pointer ra), (7, .int .u64 row_2), (12, .int .i64 i_2), (13, .int .i64 ra_3), (110, .bool (rb_3 != 0))] ((pure (.value (.bool (rb_3 != 0))) : Sem Next)) (fun w => by kernel_rfl) (fun _ _ _ _ _ => rfl) (by kernel_rfl) (by kernel_rfl) (by kernel_rfl) (by kernel_rfl) (by kernel_rfl) (ps (by kernel_rfl)) ?_
              refine G_env [(0, .slice kindsB kindsN kindsC), (1, .slice fieldsB fieldsN fieldsC), (5, .pointer ra), (7, .int .u64 row_2), (12, .int .i64 i_2), (13, .int .i64 ra_3), (110, .bool true)] (by simp only [b44, Bool.not_true, Bool.not_false]) ?_
              refine G_pass 3 (some 111) #[true, true, true, true, false, false, false, false, false, false, false, false, false, false, false, false, false, false, false, false, false, false] [(0, .slice kindsB kindsN kindsC), (1, .slice fieldsB fieldsN fieldsC), (5, .pointer ra), (7, .int .u64 row_2), (12, .int .i64 i_2), (110, .bool true), (111, undef)] (by kernel_rfl) (by kernel_rfl) (by kernel_rfl) (by kernel_rfl) (by kernel_rfl) (by kernel_rfl) (ps (by kernel_rfl)) ?_
              refine G_pass 4 (some 112) #[true, true, true, true, true, false, false, false, false, false, false, false, false, false, false, false, false, false, false, false, false, false] [(0, .slice kindsB kindsN kindsC), (1, .slice fieldsB fieldsN fieldsC), (5, .pointer ra), (7, .int .u64 row_2), (12, .int .i64 i_2), (110, .bool true), (111, undef), (112, undef)] (by kernel_rfl) (by kernel_rfl) (by kernel_rfl) (by kernel_rfl) (by kernel_rfl) (by kernel_rfl) (ps (by kernel_rfl)) ?_
              refine G_pass 5 (some 113) #[true, true, true, true, true, true, false, false, false, false, false, false, false, false, false, false, false, false, false, false, false, false] [(0, .slice kindsB kindsN kindsC), (1, .slice fieldsB fieldsN fieldsC), (5, .pointer ra), (7, .int .u64 row_2), (12, .int .i64 i_2), (110, .bool true), (111, undef), (112, undef), (113, undef)] (by kernel_rfl) (by kernel_rfl) (by kernel_rfl) (by kernel_rfl) (by kernel_rfl) (by kernel_rfl) (ps (by kernel_rfl)) ?_
              refine G_pass 6 (some 114) #[true, true, true, true, true, true, true, false, false, false, false, false, false, false, false, false, false, false, false, false, false, false] [(0, .slice kindsB kindsN kindsC), (1, .slice fieldsB fieldsN fieldsC), (5, .pointer ra), (7, .int .u64 row_2), (12, .int .i64 i_2), (110, .bool true), (111, undef), (114, undef)] (by kernel_rfl) (by kernel_rfl) (by kernel_rfl) (by kernel_rfl) (by kernel_rfl) (by kernel_rfl) (ps (by kernel_rfl)) ?_
              refine G_pass 7 (some 115) #[true, true, true, true, true, true, true, true, false, false, false, false, false, false, false, false, false, false, false, false, false, false] [(0, .slice kindsB kindsN kindsC), (1, .slice fieldsB fieldsN fieldsC), (5, .pointer ra), (7, .int .u64 row_2), (12, .int .i64 i_2), (110, .bool true), (111, undef), (115, undef)] (by kernel_rfl) (by kernel_rfl) (by kernel_rfl) (by kernel_rfl) (by kernel_rfl) (by kernel_rfl) (ps (by kernel_rfl)) ?_
              refine G_pass 8 (some 116) #[true, true, true, true, true, true, true, true, true, false, false, false, false, false, false, false, false, false, false, false, false, false] [(0, .slice kindsB kindsN kindsC), (1, .slice fieldsB fieldsN fieldsC), (5, .pointer ra), (7, .int .u64 row_2), (12, .int .i64 i_2), (110, .bool true), (111, undef), (116, undef)] (by kernel_rfl) (by kernel_rfl) (by kernel_rfl) (by kernel_rfl) (by kernel_rfl) (by kernel_rfl) (ps (by kernel_rfl)) ?_
              refine G_pass 9 (some 117) #[true, true, true, true, true, true, true, true, true, true, false, false, false, false, false, false, false, false, false, false, false, false] [(0, .slice kindsB kindsN kindsC), (1, .slice fieldsB fieldsN fieldsC), (5, .pointer ra), (7, .int .u64 row_2), (12, .int .i64 i_2), (110, .bool true), (117, undef)] (by kernel_rfl) (by kernel_rfl) (by kernel_rfl) (by kernel_rfl) (by kernel_rfl) (by kernel_rfl) (ps (by kernel_rfl)) ?_
              refine G_take 10 (some 118) (.bool true) #[true, true, true, true, true, true, true, true, true, true, true, false, false, false, false, false, false, false, false, false, false, false] [(0, .slice kindsB kindsN kindsC), (1, .slice fieldsB fieldsN fieldsC), (5, .pointer ra), (7, .int .u64 row_2), (12, .int .i64 i_2), (118, .bool true)] ((pure (.value (.bool true)) : Sem Next)) (fun w => by kernel_rfl) (fun _ _ _ _ _ => rfl) (by kernel_rfl) (by kernel_rfl) (by kernel_rfl) (by kernel_rfl) (by kernel_rfl) (ps (by kernel_rfl)) ?_
              refine G_take 11 (some 119) (.bool true) #[true, true, true, true, true, true, true, true, true, true, true, true, false, false, false, false, false, false, false, false, false, false] [(0, .slice kindsB kindsN kindsC), (1, .slice fieldsB fieldsN fieldsC), (5, .pointer ra), (7, .int .u64 row_2), (12, .int .i64 i_2), (119, .bool true)] ((pure (.value (.bool true)) : Sem Next)) (fun w => by kernel_rfl) (fun _ _ _ _ _ => rfl) (by kernel_rfl) (by kernel_rfl) (by kernel_rfl) (by kernel_rfl) (by kernel_rfl) (ps (by kernel_rfl)) ?_
              refine G_pass 12 (some 120) #[true, true, true, true, true, true, true, true, true, true, true, true, true, false, false, false, false, false, false, false, false, false] [(0, .slice kindsB kindsN kindsC), (1, .slice fieldsB fieldsN fieldsC), (5, .pointer ra), (7, .int .u64 row_2), (12, .int .i64 i_2), (119, .bool true), (120, undef)] (by kernel_rfl) (by kernel_rfl) (by kernel_rfl) (by kernel_rfl) (by kernel_rfl) (by kernel_rfl) (ps (by kernel_rfl)) ?_
              refine G_pass 13 (some 121) #[true, true, true, true, true, true, true, true, true, true, true, true, true, true, false, false, false, false, false, false, false, false] [(0, .slice kindsB kindsN kindsC), (1, .slice fieldsB fieldsN fieldsC), (5, .pointer ra), (7, .int .u64 row_2), (12, .int .i64 i_2), (119, .bool true), (120, undef), (121, undef)] (by kernel_rfl) (by kernel_rfl) (by kernel_rfl) (by kernel_rfl) (by kernel_rfl) (by kernel_rfl) (ps (by kernel_rfl)) ?_
              refine G_pass 14 (some 122) #[true, true, true, true, true, true, true, true, true, true, true, true, true, true, true, false, false, false, false, false, false, false] [(0, .slice kindsB kindsN kindsC), (1, .slice fieldsB fieldsN fieldsC), (5, .pointer ra), (7, .int .u64 row_2), (12, .int .i64 i_2), (119, .bool true), (122, undef)] (by kernel_rfl) (by kernel_rfl) (by kernel_rfl) (by kernel_rfl) (by kernel_rfl) (by kernel_rfl) (ps (by kernel_rfl)) ?_
              refine G_pass 15 (some 123) #[true, true, true, true, true, true, true, true, true, true, true, true, true, true, true, true, false, false, false, false, false, false] [(0, .slice kindsB kindsN kindsC), (1, .slice fieldsB fieldsN fieldsC), (5, .pointer ra), (7, .int .u64 row_2), (12, .int .i64 i_2), (119, .bool true), (122, undef), (123, undef)] (by kernel_rfl) (by kernel_rfl) (by kernel_rfl) (by kernel_rfl) (by kernel_rfl) (by kernel_rfl) (ps (by kernel_rfl)) ?_
              refine G_pass 16 (some 124) #[true, true, true, true, true, true, true, true, true, true, true, true, true, true, true, true, true, false, false, false, false, false] [(0, .slice kindsB kindsN kindsC), (1, .slice fieldsB fieldsN fieldsC), (5, .pointer ra), (7, .int .u64 row_2), (12, .int .i64 i_2), (119, .bool true), (122, undef), (123, undef), (124, undef)] (by kernel_rfl) (by kernel_rfl) (by kernel_rfl) (by kernel_rfl) (by kernel_rfl) (by kernel_rfl) (ps (by kernel_rfl)) ?_
              refine G_pass 17 (some 125) #[true, true, true, true, true, true, true, true, true, true, true, true, true, true, true, true, true, true, false, false, false, false] [(0, .slice kindsB kindsN kindsC), (1, .slice fieldsB fieldsN fieldsC), (5, .pointer ra), (7, .int .u64 row_2), (12, .int .i64 i_2), (119, .bool true), (122, undef), (125, undef)] (by kernel_rfl) (by kernel_rfl) (by kernel_rfl) (by kernel_rfl) (by kernel_rfl) (by kernel_rfl) (ps (by kernel_rfl)) ?_
              refine G_pass 18 (some 126) #[true, true, true, true, true, true, true, true, true, true, true, true, true, true, true, true, true, true, true, false, false, false] [(0, .slice kindsB kindsN kindsC), (1, .slice fieldsB fieldsN fieldsC), (5, .pointer ra), (7, .int .u64 row_2), (12, .int .i64 i_2), (119, .bool true), (122, undef), (126, undef)] (by kernel_rfl) (by kernel_rfl) (by kernel_rfl) (by kernel_rfl) (by kernel_rfl) (by kernel_rfl) (ps (by kernel_rfl)) ?_
              refine G_pass 19 (some 127) #[true, true, true, true, true, true, true, true, true, true, true, true, true, true, true, true, true, true, true, true, false, false] [(0, .slice kindsB kindsN kindsC), (1, .slice fieldsB fieldsN fieldsC), (5, .pointer ra), (7, .int .u64 row_2), (12, .int .i64 i_2), (119, .bool true), (122, undef), (127, undef)] (by kernel_rfl) (by kernel_rfl) (by kernel_rfl) (by kernel_rfl) (by kernel_rfl) (by kernel_rfl) (ps (by kernel_rfl)) ?_
              refine G_pass 20 (some 128) #[true, true, true, true, true, true, true, true, true, true, true, true, true, true, true, true, true, true, true, true, true, false] [(0, .slice kindsB kindsN kindsC), (1, .slice fieldsB fieldsN fieldsC), (5, .pointer ra), (7, .int .u64 row_2), (12, .int .i64 i_2), (119, .bool true), (128, undef)] (by kernel_rfl) (by kernel_rfl) (by kernel_rfl) (by kernel_rfl) (by kernel_rfl) (by kernel_rfl) (ps (by kernel_rfl)) ?_
              refine G_take 21 (some 129) (.bool true) #[true, true, true, true, true, true, true, true, true, true, true, true, true, true, true, true, true, true, true, true, true, true] [(0, .slice kindsB kindsN kindsC), (1, .slice fieldsB fieldsN fieldsC), (5, .pointer ra), (7, .int .u64 row_2), (12, .int .i64 i_2), (129, .bool true)] ((pure (.value (.bool true)) : Sem Next)) (fun w => by kernel_rfl) (fun _ _ _ _ _ => rfl) (by kernel_rfl) (by kernel_rfl) (by kernel_rfl) (by kernel_rfl) (by kernel_rfl) (ps (by kernel_rfl)) ?_
              refine G_sub [(0, .slice kindsB kindsN kindsC), (1, .slice fieldsB fieldsN fieldsC), (5, .pointer ra), (7, .int .u64 row_2), (12, .int .i64 i_2), (129, .bool true)] (sb (by kernel_rfl)) ?_
              refine G_end (by kernel_rfl) ?_
              refine S_then ?_
              refine S_condT (.tmp 129) morainelaw20_FrameRow.k86 morainelaw20_FrameRow.k87 (by kernel_rfl) (by kernel_rfl) ?_
              refine S_seq morainelaw20_FrameRow.k119 morainelaw20_FrameRow.k120 (by kernel_rfl) ?_
              refine S_region 24 (Code.ops morainelaw20_FrameRow.k119) (by kernel_rfl) ?_
              refine N_run 1 [(4, .bool false)] (fun w => by kernel_rfl) ?_
              refine N_end (by kernel_rfl) ?_
              refine S_then ?_
              refine S_ret (by kernel_rfl) ?_
              show At _ _ _ _ (Q .ret)
              exact S_done (fn := Try.f4) [.bool false] hQ (show ResOK _ _ _ [.tmp 4] _ from .tmp (by kernel_rfl) (.nil)) h
          · rw [if_neg c41] at h
            have b42 : (decide (i_2 ≥ 0)) = false := decide_eq_false c41
            refine S_env [(0, .slice kindsB kindsN kindsC), (1, .slice fieldsB fieldsN fieldsC), (5, .pointer ra), (7, .int .u64 row_2), (12, .int .i64 i_2), (99, .bool false)] (by simp only [b42, Bool.not_true, Bool.not_false]) ?_
            clear b42
            refine S_condF (.tmp 99) morainelaw20_FrameRow.k75 morainelaw20_FrameRow.k76 (by kernel_rfl) (by kernel_rfl) ?_
            refine S_exit 4 (by kernel_rfl) ?_
            refine S_exitThen ?_
            refine S_exitThen ?_
            refine S_exitHere ?_
            refine S_then ?_
            refine S_seq morainelaw20_FrameRow.k121 morainelaw20_FrameRow.k122 (by kernel_rfl) ?_
            refine S_region 34 (Code.ops morainelaw20_FrameRow.k121) (by kernel_rfl) ?_
            refine N_run 2 [(7, .int .u64 row_2), (170, .pointer ra), (171, .int .u64 row_2)] (fun w => by kernel_rfl) ?_
            refine N_call (some 172) 15 #[.pointer ra, .int .u64 row_2] (fun w => by kernel_rfl) h ?_; clear h
            rintro v_9 H16 ⟨ra_6, rb_6, rfl, h⟩
            refine ⟨[(7, .int .u64 row_2), (172, .tuple #[.int .u64 ra_6, .int .i64 rb_6])], ps (by kernel_rfl), ?_⟩
            refine N_run 5 [(7, .int .u64 row_2), (19, .int .i64 rb_6)] (fun w => by kernel_rfl) ?_
            refine N_end (by kernel_rfl) ?_
            refine S_then ?_
            refine S_seq morainelaw20_FrameRow.k123 morainelaw20_FrameRow.k124 (by kernel_rfl) ?_
            refine S_region 35 (Code.ops morainelaw20_FrameRow.k123) (by kernel_rfl) ?_
            refine N_run 3 [(19, .int .i64 rb_6), (177, .bool (row_2 == 20))] (fun w => by kernel_rfl) ?_
            by_cases c71 : row_2 = 20
            · rw [if_pos c71] at h
              have b72 : (row_2 == 20) = true := beq_iff_eq.mpr c71
              refine N_env [(19, .int .i64 rb_6), (177, .bool true)] (by simp only [b72, Bool.not_true, Bool.not_false]) ?_
              clear b72
              refine N_run 4 [(181, .bool (rb_6 == 3))] (fun w => by kernel_rfl) ?_
              by_cases c73 : rb_6 = 3
              · rw [if_pos c73] at h
                have b74 : (rb_6 == 3) = true := beq_iff_eq.mpr c73
                refine N_env [(181, .bool true)] (by simp only [b74, Bool.not_true, Bool.not_false]) ?_
                clear b74
                refine N_call (some 182) 12 #[] (fun w => by kernel_rfl) h ?_; clear h
                rintro v_10 H17 ⟨x_8, rfl, h⟩
                refine ⟨[(181, .bool true), (182, .bool x_8)], ps (by kernel_rfl), ?_⟩
                refine N_run 2 [(4, .bool x_8)] (fun w => by kernel_rfl) ?_
                refine N_end (by kernel_rfl) ?_
                refine S_then ?_
                refine S_ret (by kernel_rfl) ?_
                show At _ _ _ _ (Q .ret)
                exact S_done (fn := Try.f4) [.bool x_8] hQ (show ResOK _ _ _ [.tmp 4] _ from .tmp (by kernel_rfl) (.nil)) h
              · rw [if_neg c73] at h
                have b74 : (rb_6 == 3) = false := beq_eq_false_iff_ne.mpr c73
                refine N_env [(181, .bool false)] (by simp only [b74, Bool.not_true, Bool.not_false]) ?_
                clear b74
                refine N_run 3 [(4, .bool false)] (fun w => by kernel_rfl) ?_
                refine N_end (by kernel_rfl) ?_
                refine S_then ?_
                refine S_ret (by kernel_rfl) ?_
                show At _ _ _ _ (Q .ret)
                exact S_done (fn := Try.f4) [.bool false] hQ (show ResOK _ _ _ [.tmp 4] _ from .tmp (by kernel_rfl) (.nil)) h
            · rw [if_neg c71] at h
              have b72 : (row_2 == 20) = false := beq_eq_false_iff_ne.mpr c71
              refine N_env [(19, .int .i64 rb_6), (177, .bool false)] (by simp only [b72, Bool.not_true, Bool.not_false]) ?_
              clear b72
              refine N_run 7 [(4, .bool false)] (fun w => by kernel_rfl) ?_
              refine N_end (by kernel_rfl) ?_
              refine S_then ?_
              refine S_ret (by kernel_rfl) ?_
              show At _ _ _ _ (Q .ret)
              exact S_done (fn := Try.f4) [.bool false] hQ (show ResOK _ _ _ [.tmp 4] _ from .tmp (by kernel_rfl) (.nil)) h
      · intro hk
        refine N_run 5 [(0, .slice kindsB kindsN kindsC), (1, .slice fieldsB fieldsN fieldsC), (5, .pointer ra), (7, .int .u64 row), (8, .int .i64 i), (45, .bool (decide (i < (kindsN : Int))))] (fun w => by kernel_rfl) ?_
        by_cases c15 : i < (kindsN : Int)
        · have b16 : (decide (i < (kindsN : Int))) = true := decide_eq_true c15
          refine N_env [(0, .slice kindsB kindsN kindsC), (1, .slice fieldsB fieldsN fieldsC), (5, .pointer ra), (7, .int .u64 row), (8, .int .i64 i), (45, .bool true)] (by simp only [b16, Bool.not_true, Bool.not_false]) ?_
          refine N_run 5 [(0, .slice kindsB kindsN kindsC), (1, .slice fieldsB fieldsN fieldsC), (5, .pointer ra), (7, .int .u64 row), (8, .int .i64 i), (50, .bool (decide (i < (fieldsN : Int))))] (fun w => by kernel_rfl) ?_
          refine N_end (by kernel_rfl) ?_
          refine S_env [(0, .slice kindsB kindsN kindsC), (1, .slice fieldsB fieldsN fieldsC), (5, .pointer ra), (7, .int .u64 row), (8, .int .i64 i), (50, .bool ((decide (i < (kindsN : Int))) && (decide (i < (fieldsN : Int)))))] (by simp only [b16, Bool.true_or, Bool.false_or, Bool.or_true, Bool.or_false, Bool.true_and, Bool.false_and, Bool.and_true, Bool.and_false, Bool.not_true, Bool.not_false, cond_true, cond_false]) ?_
          exact hk
        · have b16 : (decide (i < (kindsN : Int))) = false := decide_eq_false c15
          refine N_env [(0, .slice kindsB kindsN kindsC), (1, .slice fieldsB fieldsN fieldsC), (5, .pointer ra), (7, .int .u64 row), (8, .int .i64 i), (45, .bool false)] (by simp only [b16, Bool.not_true, Bool.not_false]) ?_
          refine N_run 5 [(0, .slice kindsB kindsN kindsC), (1, .slice fieldsB fieldsN fieldsC), (5, .pointer ra), (7, .int .u64 row), (8, .int .i64 i), (50, .bool false)] (fun w => by kernel_rfl) ?_
          refine N_end (by kernel_rfl) ?_
          refine S_env [(0, .slice kindsB kindsN kindsC), (1, .slice fieldsB fieldsN fieldsC), (5, .pointer ra), (7, .int .u64 row), (8, .int .i64 i), (50, .bool ((decide (i < (kindsN : Int))) && (decide (i < (fieldsN : Int)))))] (by simp only [b16, Bool.true_or, Bool.false_or, Bool.or_true, Bool.or_false, Bool.true_and, Bool.false_and, Bool.and_true, Bool.and_false, Bool.not_true, Bool.not_false, cond_true, cond_false]) ?_
          exact hk
  · intro hk
    refine N_run 3 [(0, .slice kindsB kindsN kindsC), (1, .slice fieldsB fieldsN fieldsC), (5, .pointer ra), (6, .int .i64 rb), (26, .bool (rb != 0))] (fun w => by kernel_rfl) ?_
    by_cases c1 : rb = 0
    · have b2 : (rb != 0) = false := bne_eq_false_iff_eq.mpr c1
      refine N_env [(0, .slice kindsB kindsN kindsC), (1, .slice fieldsB fieldsN fieldsC), (5, .pointer ra), (6, .int .i64 rb), (26, .bool false)] (by simp only [b2, Bool.not_true, Bool.not_false]) ?_
      refine N_run 5 [(0, .slice kindsB kindsN kindsC), (1, .slice fieldsB fieldsN fieldsC), (5, .pointer ra), (6, .int .i64 rb), (31, .bool (decide ((kindsN : Int) > 100)))] (fun w => by kernel_rfl) ?_
      by_cases c3 : (kindsN : Int) > 100
      · have b4 : (decide ((kindsN : Int) > 100)) = true := decide_eq_true c3
        refine N_env [(0, .slice kindsB kindsN kindsC), (1, .slice fieldsB fieldsN fieldsC), (5, .pointer ra), (6, .int .i64 rb), (31, .bool true)] (by simp only [b4, Bool.not_true, Bool.not_false]) ?_
        refine N_run 4 [(0, .slice kindsB kindsN kindsC), (1, .slice fieldsB fieldsN fieldsC), (5, .pointer ra), (6, .int .i64 rb), (35, .bool true)] (fun w => by kernel_rfl) ?_
        refine N_end (by kernel_rfl) ?_
        refine S_env [(0, .slice kindsB kindsN kindsC), (1, .slice fieldsB fieldsN fieldsC), (5, .pointer ra), (6, .int .i64 rb), (35, .bool (((rb != 0) || (decide ((kindsN : Int) > 100))) || (decide ((fieldsN : Int) > 100))))] (by simp only [b2, b4, Bool.true_or, Bool.false_or, Bool.or_true, Bool.or_false, Bool.true_and, Bool.false_and, Bool.and_true, Bool.and_false, Bool.not_true, Bool.not_false, cond_true, cond_false]) ?_
        exact hk
      · have b4 : (decide ((kindsN : Int) > 100)) = false := decide_eq_false c3
        refine N_env [(0, .slice kindsB kindsN kindsC), (1, .slice fieldsB fieldsN fieldsC), (5, .pointer ra), (6, .int .i64 rb), (31, .bool false)] (by simp only [b4, Bool.not_true, Bool.not_false]) ?_
        refine N_run 4 [(0, .slice kindsB kindsN kindsC), (1, .slice fieldsB fieldsN fieldsC), (5, .pointer ra), (6, .int .i64 rb), (35, .bool (decide ((fieldsN : Int) > 100)))] (fun w => by kernel_rfl) ?_
        refine N_end (by kernel_rfl) ?_
        refine S_env [(0, .slice kindsB kindsN kindsC), (1, .slice fieldsB fieldsN fieldsC), (5, .pointer ra), (6, .int .i64 rb), (35, .bool (((rb != 0) || (decide ((kindsN : Int) > 100))) || (decide ((fieldsN : Int) > 100))))] (by simp only [b2, b4, Bool.true_or, Bool.false_or, Bool.or_true, Bool.or_false, Bool.true_and, Bool.false_and, Bool.and_true, Bool.and_false, Bool.not_true, Bool.not_false, cond_true, cond_false]) ?_
        exact hk
    · have b2 : (rb != 0) = true := bne_iff_ne.mpr c1
      refine N_env [(0, .slice kindsB kindsN kindsC), (1, .slice fieldsB fieldsN fieldsC), (5, .pointer ra), (6, .int .i64 rb), (26, .bool true)] (by simp only [b2, Bool.not_true, Bool.not_false]) ?_
      refine N_run 9 [(0, .slice kindsB kindsN kindsC), (1, .slice fieldsB fieldsN fieldsC), (5, .pointer ra), (6, .int .i64 rb), (35, .bool true)] (fun w => by kernel_rfl) ?_
      refine N_end (by kernel_rfl) ?_
      refine S_env [(0, .slice kindsB kindsN kindsC), (1, .slice fieldsB fieldsN fieldsC), (5, .pointer ra), (6, .int .i64 rb), (35, .bool (((rb != 0) || (decide ((kindsN : Int) > 100))) || (decide ((fieldsN : Int) > 100))))] (by simp only [b2, Bool.true_or, Bool.false_or, Bool.or_true, Bool.or_false, Bool.true_and, Bool.false_and, Bool.and_true, Bool.and_false, Bool.not_true, Bool.not_false, cond_true, cond_false]) ?_
      exact hk

end Go.Proofs.Ytfohlkiikppefaa
