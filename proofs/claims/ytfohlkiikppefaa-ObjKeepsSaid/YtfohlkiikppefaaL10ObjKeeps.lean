/-
  Written by a program of mine (gen.py): for functions of this translation a predicate transformer over heaps (.pt), and the proof that it is sound for the call (.link).
-/
import Derived.Test.YtfohlkiikppefaaFnsC
set_option linter.unusedSimpArgs false
set_option linter.unusedVariables false
set_option maxHeartbeats 1000000
noncomputable section
namespace Go.Proofs.Ytfohlkiikppefaa
open Go
/-! moraine/morainelaw10.ObjKeeps -/
namespace morainelaw10_ObjKeeps
def kk0 := Func.code Try.f7
def kk1 := Code.fa kk0
def kk2 := Code.fb kk0
def kk3 := Code.fa kk2
def kk4 := Code.fb kk2
def kk5 := Code.fa kk4
def kk6 := Code.fb kk4
def kk7 := Code.fa kk5
def kk8 := Code.fb kk5
def kk9 := Code.fa kk8
def kk10 := Code.fb kk8
def kk11 := Code.fa kk9
def kk12 := Code.fb kk9
def kk13 := Code.fa kk6
def kk14 := Code.fb kk6
def kk15 := Code.fa kk13
def kk16 := Code.fb kk13
def kk17 := Code.fa kk16
def kk18 := Code.fb kk16
def kk19 := Code.fa kk17
def kk20 := Code.fb kk17
def kk21 := Code.fa kk14
def kk22 := Code.fb kk14
def kk23 := Code.fa kk22
def kk24 := Code.fb kk22
def kk25 := Code.fa kk24
def kk26 := Code.fb kk24
def kk27 := Code.fa kk25
def kk28 := Code.fb kk25
def kk29 := Code.fa kk28
def kk30 := Code.fa kk29
def kk31 := Code.fa kk30
def kk32 := Code.fb kk30
def kk33 := Code.fa kk31
def kk34 := Code.fb kk31
def kk35 := Code.fa kk34
def kk36 := Code.fb kk34
def kk37 := Code.fa kk32
def kk38 := Code.fb kk32
def kk39 := Code.fa kk37
def kk40 := Code.fa kk39
def kk41 := Code.fb kk39
def kk42 := Code.fa kk41
def kk43 := Code.fb kk41
def kk44 := Code.fa kk43
def kk45 := Code.fb kk43
def kk46 := Code.fa kk45
def kk47 := Code.fb kk45
def kk48 := Code.fa kk47
def kk49 := Code.fb kk47
def kk50 := Code.fa kk48
def kk51 := Code.fb kk48
def kk52 := Code.fa kk51
def kk53 := Code.fb kk51
def kk54 := Code.fa kk49
def kk55 := Code.fb kk49
def kk56 := Code.fa kk54
def kk57 := Code.fb kk54
def kk58 := Code.fa kk57
def kk59 := Code.fa kk58
def kk60 := Code.fb kk58
def kk61 := Code.fa kk60
def kk62 := Code.fb kk60
def kk63 := Code.fa kk55
def kk64 := Code.fb kk55
def kk65 := Code.fa kk64
def kk66 := Code.fb kk64
def kk67 := Code.fa kk65
def kk68 := Code.fb kk65
def kk69 := Code.fa kk67
def kk70 := Code.fb kk67
def kk71 := Code.fa kk70
def kk72 := Code.fa kk71
def kk73 := Code.fa kk72
def kk74 := Code.fb kk72
def kk75 := Code.fa kk73
def kk76 := Code.fb kk73
def kk77 := Code.fa kk76
def kk78 := Code.fb kk76
def kk79 := Code.fa kk74
def kk80 := Code.fb kk74
def kk81 := Code.fa kk79
def kk82 := Code.fa kk81
def kk83 := Code.fb kk81
def kk84 := Code.fa kk83
def kk85 := Code.fb kk83
def kk86 := Code.fa kk84
def kk87 := Code.fb kk84
def kk88 := Code.fa kk68
def kk89 := Code.fb kk68
def kk90 := Code.fa kk89
def kk91 := Code.fb kk89
def kk92 := Code.fa kk61
def kk93 := Code.fb kk61
def kk94 := Code.fa kk62
def kk95 := Code.fb kk62
def kk96 := Code.fa kk95
def kk97 := Code.fb kk95
def kk98 := Code.fa kk96
def kk99 := Code.fb kk96
def kk100 := Code.fa kk97
def kk101 := Code.fb kk97
def kk102 := Code.fa kk101
def kk103 := Code.fb kk101
def kk104 := Code.fa kk102
def kk105 := Code.fb kk102
def kk106 := Code.fa kk103
def kk107 := Code.fb kk103
def kk108 := Code.fa kk106
def kk109 := Code.fb kk106
def kk110 := Code.fa kk109
def kk111 := Code.fb kk109
def kk112 := Code.fa kk107
def kk113 := Code.fb kk107
def kk114 := Code.fa kk112
def kk115 := Code.fb kk112
def kk116 := Code.fa kk115
def kk117 := Code.fb kk115
def kk118 := Code.fa kk117
def kk119 := Code.fa kk118
def kk120 := Code.fa kk119
def kk121 := Code.fb kk119
def kk122 := Code.fa kk120
def kk123 := Code.fb kk120
def kk124 := Code.fa kk123
def kk125 := Code.fb kk123
def kk126 := Code.fa kk121
def kk127 := Code.fb kk121
def kk128 := Code.fa kk126
def kk129 := Code.fa kk128
def kk130 := Code.fb kk128
def kk131 := Code.fa kk130
def kk132 := Code.fb kk130
def kk133 := Code.fa kk113
def kk134 := Code.fb kk113
def kk135 := Code.fa kk134
def kk136 := Code.fb kk134
def kk137 := Code.fa kk135
def kk138 := Code.fb kk135
def kk139 := Code.fa kk138
def kk140 := Code.fb kk138
def kk141 := Code.fa kk140
def kk142 := Code.fa kk141
def kk143 := Code.fa kk142
def kk144 := Code.fb kk142
def kk145 := Code.fa kk143
def kk146 := Code.fb kk143
def kk147 := Code.fa kk146
def kk148 := Code.fb kk146
def kk149 := Code.fa kk144
def kk150 := Code.fb kk144
def kk151 := Code.fa kk149
def kk152 := Code.fa kk151
def kk153 := Code.fb kk151
def kk154 := Code.fa kk153
def kk155 := Code.fb kk153
def kk156 := Code.fa kk26
def kk157 := Code.fb kk26
def kk158 := Code.fa kk156
def kk159 := Code.fb kk156
def kk160 := Code.fa kk159
def kk161 := Code.fa kk160
def kk162 := Code.fa kk161
def kk163 := Code.fb kk161
def kk164 := Code.fa kk162
def kk165 := Code.fb kk162
def kk166 := Code.fa kk165
def kk167 := Code.fb kk165
def kk168 := Code.fa kk163
def kk169 := Code.fb kk163
def kk170 := Code.fa kk168
def kk171 := Code.fa kk170
def kk172 := Code.fb kk170
def kk173 := Code.fa kk172
def kk174 := Code.fb kk172
def kk175 := Code.fa kk173
def kk176 := Code.fb kk173
def kk177 := Code.fa kk176
def kk178 := Code.fb kk176
def kk179 := Code.fa kk177
def kk180 := Code.fb kk177
def kk181 := Code.fa kk180
def kk182 := Code.fb kk180
def kk183 := Code.fa kk182
def kk184 := Code.fb kk182
def kk185 := Code.fa kk183
def kk186 := Code.fb kk183
def kk187 := Code.fa kk186
def kk188 := Code.fb kk186
def kk189 := Code.fa kk187
def kk190 := Code.fb kk187
def kk191 := Code.fa kk174
def kk192 := Code.fb kk174
def kk193 := Code.fa kk191
def kk194 := Code.fb kk191
def kk195 := Code.fa kk194
def kk196 := Code.fb kk194
def kk197 := Code.fa kk192
def kk198 := Code.fb kk192
def kk199 := Code.fa kk198
def kk200 := Code.fa kk199
def kk201 := Code.fa kk200
def kk202 := Code.fb kk200
def kk203 := Code.fa kk201
def kk204 := Code.fb kk201
def kk205 := Code.fa kk204
def kk206 := Code.fb kk204
def kk207 := Code.fa kk202
def kk208 := Code.fb kk202
def kk209 := Code.fa kk207
def kk210 := Code.fa kk209
def kk211 := Code.fb kk209
def kk212 := Code.fa kk211
def kk213 := Code.fb kk211
def kk214 := Code.fa kk213
def kk215 := Code.fb kk213
def kk216 := Code.fa kk214
def kk217 := Code.fb kk214
def kk218 := Code.fa kk195
def kk219 := Code.fb kk195
def kk220 := Code.fa kk157
def kk221 := Code.fb kk157
end morainelaw10_ObjKeeps
def morainelaw10_ObjKeeps.pt (limit : Int) (lB : Option Addr) (lN : Nat) (lC : Nat) (H : Array Obj) (R : Value → Array Obj → Prop) : Prop :=
 obj_New.C limit H (fun v H1 => ∃ ra : Option Addr, ∃ rb : Int, v = .tuple #[.pointer ra, .int .i64 rb] ∧ 
  ∃ J : Bool → Array Obj → Prop, (
   if rb = 0 then (
    onPtr ra (
     J true H1) (fun raA =>
     J false H1))
   else
   J false H1) ∧ ∀ (s39 : Bool) (H2 : Array Obj), J s39 H2 →
  if s39 = true then (
   R (.bool false) H2)
  else
  morainelaw10_many.C lB lN lC H2 (fun v_2 H3 => ∃ x : Bool, v_2 = .bool x ∧ 
   if (x || (rb != 0)) = true then (
    ∃ J_2 : Bool → Array Obj → Prop, (
     if rb = 0 then (
      morainelaw10_awake.C  H3 (fun v_3 H5 => ∃ x_2 : Bool, v_3 = .bool x_2 ∧ 
       J_2 x_2 H5))
     else
     if rb = 1 then (
      morainelaw10_awake.C  H3 (fun v_4 H6 => ∃ x_3 : Bool, v_4 = .bool x_3 ∧ 
       J_2 x_3 H6))
     else
     J_2 false H3) ∧ ∀ (s4 : Bool) (H4 : Array Obj), J_2 s4 H4 →
    R (.bool s4) H4)
   else
   ∃ (I31 : (Option Addr) → Nat → Nat → (Option Addr) → Nat → Nat → Int → Array Obj → Prop) (m31 : (Option Addr) → Nat → Nat → (Option Addr) → Nat → Nat → Int → Array Obj → Nat), I31 none 0 0 none 0 0 0 H3 ∧ ∀ (madeB : Option Addr) (madeN : Nat) (madeC : Nat) (allB : Option Addr) (allN : Nat) (allC : Nat) (i : Int) (H7 : Array Obj), I31 madeB madeN madeC allB allN allC i H7 →
   if i < (lN : Int) then (
    ∃ lBA : Addr, lB = some lBA ∧
    ((0 : Int) ≤ i ∧ i < (lN : Int)) ∧
    ∃ xDo : Int, ∃ xXW : Int, ∃ xXOf : Int, ∃ xYW : Int, ∃ xYOf : Int, ∃ xKind : Int, ∃ xN : Int, ∃ xMore : Int, ∃ xLB : Option Addr, ∃ xLN : Nat, ∃ xLC : Nat, ∃ xS : ByteArray, ∃ xNumNeg : Bool, ∃ xNumMagB : Option Addr, ∃ xNumMagN : Nat, ∃ xNumMagC : Nat, RowAt H7 (lBA.add (Int.toNat i * 12)) 0 [.int .i64 xDo, .int .u64 xXW, .int .i64 xXOf, .int .u64 xYW, .int .i64 xYOf, .int .i64 xKind, .int .i64 xN, .int .u64 xMore, .slice xLB xLN xLC, .string xS, .bool xNumNeg, .slice xNumMagB xNumMagN xNumMagC] ∧
    ∀ (b : Nat) (H8 : Array Obj), b = H7.size → H8 = H7.push (.cells #[.int .i64 0, .int .u64 0, .int .i64 0, .int .u64 0, .int .i64 0, .int .i64 0, .int .i64 0, .int .u64 0, .slice none 0 0, .string (ByteArray.mk #[]), .bool false, .slice none 0 0] 72) →
    (CanPuts H8 (Addr.mk b 0 none) 0 12) ∧ ∀ H9 : Array Obj, H9 = hputs H8 (Addr.mk b 0 none) [.int .i64 xDo, .int .u64 xXW, .int .i64 xXOf, .int .u64 xYW, .int .i64 xYOf, .int .i64 xKind, .int .i64 xN, .int .u64 xMore, .slice xLB xLN xLC, .string xS, .bool xNumNeg, .slice xNumMagB xNumMagN xNumMagC] 0 →
    ∃ xW : Int, ∃ xOf : Int, RowAt H9 ((Addr.mk b 0 none).add 1) 0 [.int .u64 xW, .int .i64 xOf] ∧
    ∃ xW_2 : Int, ∃ xOf_2 : Int, RowAt H9 ((Addr.mk b 0 none).add 3) 0 [.int .u64 xW_2, .int .i64 xOf_2] ∧
    morainelaw10_word.C xW xOf madeB madeN madeC H9 (fun v_5 H10 => ∃ x_4 : Int, v_5 = .int .u64 x_4 ∧ RowAt H10 ((Addr.mk b 0 none).add 3) 0 [.int .u64 xW_2, .int .i64 xOf_2] ∧ 
     morainelaw10_word.C xW_2 xOf_2 madeB madeN madeC H10 (fun v_6 H11 => ∃ x_5 : Int, v_6 = .int .u64 x_5 ∧ 
      ∀ (b_2 : Nat) (H12 : Array Obj), b_2 = H11.size → H12 = H11.push (.cells #[.int .u64 0, .int .i64 0, .slice none 0 0] 75) →
      (CanPuts H12 (Addr.mk b_2 0 none) 0 3) ∧ ∀ H13 : Array Obj, H13 = hputs H12 (Addr.mk b_2 0 none) [.int .u64 0, .int .i64 0, .slice none 0 0] 0 →
      ∃ J_3 : Bool → Array Obj → Prop, (
       ∃ x_22 : Int, hat H13 (Addr.mk b 0 none) = some (.int .i64 x_22) ∧
       if x_22 ≥ 6 then (
        ∃ x_23 : Int, hat H13 (Addr.mk b 0 none) = some (.int .i64 x_23) ∧
        if x_23 ≤ 8 then (
         morainelaw10_there.C allB allN allC x_4 H13 (fun v_13 H44 => ∃ x_24 : Bool, v_13 = .bool x_24 ∧ 
          J_3 (!x_24) H44))
        else
        J_3 false H13)
       else
       J_3 false H13) ∧ ∀ (s87 : Bool) (H14 : Array Obj), J_3 s87 H14 →
      if s87 = true then (
       (I31 madeB madeN madeC allB allN allC (IntKind.wrap .i64 (i + 1)) H14 ∧ m31 madeB madeN madeC allB allN allC (IntKind.wrap .i64 (i + 1)) H14 < m31 madeB madeN madeC allB allN allC i H7))
      else
      ∃ x_6 : Int, hat H14 (Addr.mk b 0 none) = some (.int .i64 x_6) ∧
      ∃ J_4 : Int → Array Obj → Prop, (
       if x_6 = 0 then (
        obj_Heap_Cons.C ra x_4 x_5 H14 (fun v_7 H24 => ∃ ra_2 : Int, ∃ rb_2 : Int, v_7 = .tuple #[.int .u64 ra_2, .int .i64 rb_2] ∧ 
         (CanPuts H24 (Addr.mk b_2 0 none) 0 1) ∧ ∀ H25 : Array Obj, H25 = hputs H24 (Addr.mk b_2 0 none) [.int .u64 ra_2] 0 →
         ∀ (b_6 : Nat) (H26 : Array Obj), b_6 = H25.size → H26 = H25.push (.cells #[.int .u64 x_4, .int .u64 x_5] 29) →
         (CanPuts H26 ((Addr.mk b_2 0 none).add 2) 0 1) ∧ ∀ H27 : Array Obj, H27 = hputs H26 ((Addr.mk b_2 0 none).add 2) [.slice (some (Addr.mk b_6 0 none)) 2 2] 0 →
         J_4 rb_2 H27))
       else
       if x_6 = 1 then (
        obj_Heap_Weak.C ra x_4 x_5 H14 (fun v_8 H28 => ∃ ra_3 : Int, ∃ rb_3 : Int, v_8 = .tuple #[.int .u64 ra_3, .int .i64 rb_3] ∧ 
         (CanPuts H28 (Addr.mk b_2 0 none) 0 1) ∧ ∀ H29 : Array Obj, H29 = hputs H28 (Addr.mk b_2 0 none) [.int .u64 ra_3] 0 →
         ∀ (b_7 : Nat) (H30 : Array Obj), b_7 = H29.size → H30 = H29.push (.cells #[.int .u64 x_4, .int .u64 x_5] 29) →
         (CanPuts H30 ((Addr.mk b_2 0 none).add 2) 0 1) ∧ ∀ H31 : Array Obj, H31 = hputs H30 ((Addr.mk b_2 0 none).add 2) [.slice (some (Addr.mk b_7 0 none)) 2 2] 0 →
         J_4 rb_3 H31))
       else
       if x_6 = 2 then (
        ∃ x_10 : Int, hat H14 ((Addr.mk b 0 none).add 5) = some (.int .i64 x_10) ∧
        ∃ xB_2 : Option Addr, ∃ xN_3 : Nat, ∃ xC_2 : Nat, hat H14 ((Addr.mk b 0 none).add 8) = some (.slice xB_2 xN_3 xC_2) ∧
        morainelaw10_words.C xB_2 xN_3 xC_2 madeB madeN madeC H14 (fun v_9 H32 => ∃ xB_3 : Option Addr, ∃ xN_4 : Nat, ∃ xC_3 : Nat, v_9 = .slice xB_3 xN_4 xC_3 ∧ RowAt H32 ((Addr.mk b 0 none).add 5) 0 [.int .i64 x_10] ∧ 
         (CanPuts H32 ((Addr.mk b_2 0 none).add 1) 0 1) ∧ ∀ H33 : Array Obj, H33 = hputs H32 ((Addr.mk b_2 0 none).add 1) [.int .i64 x_10] 0 → 
         (CanPuts H33 ((Addr.mk b_2 0 none).add 2) 0 1) ∧ ∀ H34 : Array Obj, H34 = hputs H33 ((Addr.mk b_2 0 none).add 2) [.slice xB_3 xN_4 xC_3] 0 → 
         ∃ x_11 : Int, hat H34 ((Addr.mk b 0 none).add 5) = some (.int .i64 x_11) ∧
         ∃ x_12 : Int, hat H34 ((Addr.mk b 0 none).add 7) = some (.int .u64 x_12) ∧
         ∃ xB_4 : Option Addr, ∃ xN_5 : Nat, ∃ xC_4 : Nat, hat H34 ((Addr.mk b_2 0 none).add 2) = some (.slice xB_4 xN_5 xC_4) ∧
         obj_Heap_Make.C ra x_11 x_12 xB_4 xN_5 xC_4 H34 (fun v_10 H35 => ∃ ra_4 : Int, ∃ rb_4 : Int, v_10 = .tuple #[.int .u64 ra_4, .int .i64 rb_4] ∧ 
          (CanPuts H35 (Addr.mk b_2 0 none) 0 1) ∧ ∀ H36 : Array Obj, H36 = hputs H35 (Addr.mk b_2 0 none) [.int .u64 ra_4] 0 →
          J_4 rb_4 H36)))
       else
       ∃ J_5 : Bool → Array Obj → Prop, (
        if x_6 = 6 then (
         J_5 true H14)
        else
        J_5 (x_6 == 7) H14) ∧ ∀ (s140 : Bool) (H37 : Array Obj), J_5 s140 H37 →
       if s140 = true then (
        ∃ x_13 : Int, hat H37 (Addr.mk b 0 none) = some (.int .i64 x_13) ∧
        morainelaw10_setHalf.C ra x_13 x_4 x_5 H37 (fun v_11 H38 => ∃ x_14 : Int, v_11 = .int .i64 x_14 ∧ 
         ∃ (I120 : Int → Array Obj → Prop) (m120 : Int → Array Obj → Nat), I120 0 H38 ∧ ∀ (k_2 : Int) (H39 : Array Obj), I120 k_2 H39 →
         if ((decide (k_2 < (allN : Int))) && (x_14 == 0)) = true then (
          ∃ allBA_2 : Addr, allB = some allBA_2 ∧
          ((0 : Int) ≤ k_2 ∧ k_2 < (allN : Int)) ∧
          ∃ x_15 : Int, hat H39 (allBA_2.add (Int.toNat k_2 * 3)) = some (.int .u64 x_15) ∧
          if x_15 = x_4 then (
           ((0 : Int) ≤ k_2 ∧ k_2 < (allN : Int)) ∧
           ∃ xB_5 : Option Addr, ∃ xN_6 : Nat, ∃ xC_5 : Nat, hat H39 ((allBA_2.add (Int.toNat k_2 * 3)).add 2) = some (.slice xB_5 xN_6 xC_5) ∧
           ∃ x_16 : Int, hat H39 (Addr.mk b 0 none) = some (.int .i64 x_16) ∧
           ∃ xB5A : Addr, xB_5 = some xB5A ∧
           ((0 : Int) ≤ (IntKind.wrap .i64 (x_16 - 6)) ∧ (IntKind.wrap .i64 (x_16 - 6)) < (xN_6 : Int)) ∧
           (CanPuts H39 (xB5A.add (Int.toNat (IntKind.wrap .i64 (x_16 - 6)) * 1)) 0 1) ∧ ∀ H40 : Array Obj, H40 = hputs H39 (xB5A.add (Int.toNat (IntKind.wrap .i64 (x_16 - 6)) * 1)) [.int .u64 x_5] 0 → 
           (I120 (IntKind.wrap .i64 (k_2 + 1)) H40 ∧ m120 (IntKind.wrap .i64 (k_2 + 1)) H40 < m120 k_2 H39))
          else
          (I120 (IntKind.wrap .i64 (k_2 + 1)) H39 ∧ m120 (IntKind.wrap .i64 (k_2 + 1)) H39 < m120 k_2 H39))
         else
         J_4 1 H39))
       else
       if x_6 = 8 then (
        ∃ x_17 : Int, hat H37 ((Addr.mk b 0 none).add 5) = some (.int .i64 x_17) ∧
        ∃ x_18 : Int, hat H37 ((Addr.mk b 0 none).add 6) = some (.int .i64 x_18) ∧
        obj_Heap_Set.C ra x_4 x_17 x_18 x_5 H37 (fun v_12 H41 => ∃ x_19 : Int, v_12 = .int .i64 x_19 ∧ 
         ∃ (I143 : Int → Array Obj → Prop) (m143 : Int → Array Obj → Nat), I143 0 H41 ∧ ∀ (k_3 : Int) (H42 : Array Obj), I143 k_3 H42 →
         if ((decide (k_3 < (allN : Int))) && (x_19 == 0)) = true then (
          ∃ allBA_3 : Addr, allB = some allBA_3 ∧
          ((0 : Int) ≤ k_3 ∧ k_3 < (allN : Int)) ∧
          ∃ x_20 : Int, hat H42 (allBA_3.add (Int.toNat k_3 * 3)) = some (.int .u64 x_20) ∧
          if x_20 = x_4 then (
           ((0 : Int) ≤ k_3 ∧ k_3 < (allN : Int)) ∧
           ∃ xB_6 : Option Addr, ∃ xN_7 : Nat, ∃ xC_6 : Nat, hat H42 ((allBA_3.add (Int.toNat k_3 * 3)).add 2) = some (.slice xB_6 xN_7 xC_6) ∧
           ∃ x_21 : Int, hat H42 ((Addr.mk b 0 none).add 6) = some (.int .i64 x_21) ∧
           ∃ xB6A : Addr, xB_6 = some xB6A ∧
           ((0 : Int) ≤ x_21 ∧ x_21 < (xN_7 : Int)) ∧
           (CanPuts H42 (xB6A.add (Int.toNat x_21 * 1)) 0 1) ∧ ∀ H43 : Array Obj, H43 = hputs H42 (xB6A.add (Int.toNat x_21 * 1)) [.int .u64 x_5] 0 → 
           (I143 (IntKind.wrap .i64 (k_3 + 1)) H43 ∧ m143 (IntKind.wrap .i64 (k_3 + 1)) H43 < m143 k_3 H42))
          else
          (I143 (IntKind.wrap .i64 (k_3 + 1)) H42 ∧ m143 (IntKind.wrap .i64 (k_3 + 1)) H42 < m143 k_3 H42))
         else
         J_4 1 H42))
       else
       J_4 1 H37) ∧ ∀ (f : Int) (H15 : Array Obj), J_4 f H15 →
      if f = 0 then (
       ∃ (I73 : Int → Array Obj → Prop) (m73 : Int → Array Obj → Nat), I73 0 H15 ∧ ∀ (k : Int) (H16 : Array Obj), I73 k H16 →
       if k < (allN : Int) then (
        ∃ allBA : Addr, allB = some allBA ∧
        ((0 : Int) ≤ k ∧ k < (allN : Int)) ∧
        ∃ x_7 : Int, hat H16 (allBA.add (Int.toNat k * 3)) = some (.int .u64 x_7) ∧
        ∃ x_8 : Int, hat H16 (Addr.mk b_2 0 none) = some (.int .u64 x_8) ∧
        if x_7 = x_8 then (
         R (.bool false) H16)
        else
        (I73 (IntKind.wrap .i64 (k + 1)) H16 ∧ m73 (IntKind.wrap .i64 (k + 1)) H16 < m73 k H16))
       else
       ∀ (b_3 : Nat) (H17 : Array Obj), b_3 = H16.size → H17 = H16.push (.cells #[] 29) →
       ∃ xB : Option Addr, ∃ xN_2 : Nat, ∃ xC : Nat, hat H17 ((Addr.mk b_2 0 none).add 2) = some (.slice xB xN_2 xC) ∧
       appendK 1 29 8 [.int .u64 0] (some (Addr.mk b_3 0 none)) 0 0 xB xN_2 H17 (fun ap apC H18 =>
        (CanPuts H18 ((Addr.mk b_2 0 none).add 2) 0 1) ∧ ∀ H19 : Array Obj, H19 = hputs H18 ((Addr.mk b_2 0 none).add 2) [.slice ap (0 + xN_2) apC] 0 →
        ∃ xw : Int, ∃ xkind : Int, ∃ xlB : Option Addr, ∃ xlN : Nat, ∃ xlC : Nat, RowAt H19 (Addr.mk b_2 0 none) 0 [.int .u64 xw, .int .i64 xkind, .slice xlB xlN xlC] ∧
        ∀ (b_4 : Nat) (H20 : Array Obj), b_4 = H19.size → H20 = H19.push (.cells #[.int .u64 xw, .int .i64 xkind, .slice xlB xlN xlC] 75) →
        appendK 3 75 40 [.int .u64 0, .int .i64 0, .slice none 0 0] allB allN allC (some (Addr.mk b_4 0 none)) 1 H20 (fun ap_2 apC_2 H21 =>
         ∃ x_9 : Int, hat H21 (Addr.mk b_2 0 none) = some (.int .u64 x_9) ∧
         ∀ (b_5 : Nat) (H22 : Array Obj), b_5 = H21.size → H22 = H21.push (.cells #[.int .u64 x_9] 29) →
         appendK 1 29 8 [.int .u64 0] madeB madeN madeC (some (Addr.mk b_5 0 none)) 1 H22 (fun ap_3 apC_3 H23 =>
          (I31 ap_3 (madeN + 1) apC_3 ap_2 (allN + 1) apC_2 (IntKind.wrap .i64 (i + 1)) H23 ∧ m31 ap_3 (madeN + 1) apC_3 ap_2 (allN + 1) apC_2 (IntKind.wrap .i64 (i + 1)) H23 < m31 madeB madeN madeC allB allN allC i H7)))))
      else
      (I31 madeB madeN madeC allB allN allC (IntKind.wrap .i64 (i + 1)) H15 ∧ m31 madeB madeN madeC allB allN allC (IntKind.wrap .i64 (i + 1)) H15 < m31 madeB madeN madeC allB allN allC i H7))))
   else
   ∃ (I162 : Int → Array Obj → Prop) (m162 : Int → Array Obj → Nat), I162 0 H7 ∧ ∀ (i_2 : Int) (H45 : Array Obj), I162 i_2 H45 →
   if i_2 < (allN : Int) then (
    ∃ allBA_4 : Addr, allB = some allBA_4 ∧
    ((0 : Int) ≤ i_2 ∧ i_2 < (allN : Int)) ∧
    ∃ xw_2 : Int, ∃ xkind_2 : Int, ∃ xlB_2 : Option Addr, ∃ xlN_2 : Nat, ∃ xlC_2 : Nat, RowAt H45 (allBA_4.add (Int.toNat i_2 * 3)) 0 [.int .u64 xw_2, .int .i64 xkind_2, .slice xlB_2 xlN_2 xlC_2] ∧
    ∀ (b_8 : Nat) (H46 : Array Obj), b_8 = H45.size → H46 = H45.push (.cells #[.int .u64 0, .int .i64 0, .slice none 0 0] 75) →
    (CanPuts H46 (Addr.mk b_8 0 none) 0 3) ∧ ∀ H47 : Array Obj, H47 = hputs H46 (Addr.mk b_8 0 none) [.int .u64 xw_2, .int .i64 xkind_2, .slice xlB_2 xlN_2 xlC_2] 0 →
    ∃ x_25 : Int, hat H47 ((Addr.mk b_8 0 none).add 1) = some (.int .i64 x_25) ∧
    if x_25 = 0 then (
     ∃ x_26 : Int, hat H47 (Addr.mk b_8 0 none) = some (.int .u64 x_26) ∧
     obj_Heap_Car.C ra x_26 H47 (fun v_14 H48 => ∃ ra_5 : Int, ∃ rb_5 : Int, v_14 = .tuple #[.int .u64 ra_5, .int .i64 rb_5] ∧ 
      ∃ x_27 : Int, hat H48 (Addr.mk b_8 0 none) = some (.int .u64 x_27) ∧
      obj_Heap_Cdr.C ra x_27 H48 (fun v_15 H49 => ∃ ra_6 : Int, ∃ rb_6 : Int, v_15 = .tuple #[.int .u64 ra_6, .int .i64 rb_6] ∧ 
       if rb_5 = 0 then (
        if rb_6 = 0 then (
         ∃ xB_7 : Option Addr, ∃ xN_8 : Nat, ∃ xC_7 : Nat, hat H49 ((Addr.mk b_8 0 none).add 2) = some (.slice xB_7 xN_8 xC_7) ∧
         ∃ xB7A : Addr, xB_7 = some xB7A ∧
         ((0 : Int) ≤ 0 ∧ 0 < (xN_8 : Int)) ∧
         ∃ x_28 : Int, hat H49 (xB7A.add (Int.toNat 0 * 1)) = some (.int .u64 x_28) ∧
         if ra_5 = x_28 then (
          ∃ xB_8 : Option Addr, ∃ xN_9 : Nat, ∃ xC_8 : Nat, hat H49 ((Addr.mk b_8 0 none).add 2) = some (.slice xB_8 xN_9 xC_8) ∧
          ∃ xB8A : Addr, xB_8 = some xB8A ∧
          ((0 : Int) ≤ 1 ∧ 1 < (xN_9 : Int)) ∧
          ∃ x_29 : Int, hat H49 (xB8A.add (Int.toNat 1 * 1)) = some (.int .u64 x_29) ∧
          if ra_6 = x_29 then (
           ∃ x_30 : Int, hat H49 (Addr.mk b_8 0 none) = some (.int .u64 x_30) ∧
           obj_Heap_Size.C ra x_30 H49 (fun v_16 H50 => ∃ x_31 : Int, v_16 = .int .i64 x_31 ∧ 
            if x_31 = 2 then (
             (I162 (IntKind.wrap .i64 (i_2 + 1)) H50 ∧ m162 (IntKind.wrap .i64 (i_2 + 1)) H50 < m162 i_2 H45))
            else
            R (.bool false) H50))
          else
          R (.bool false) H49)
         else
         R (.bool false) H49)
        else
        R (.bool false) H49)
       else
       R (.bool false) H49)))
    else
    ∃ x_32 : Int, hat H47 (Addr.mk b_8 0 none) = some (.int .u64 x_32) ∧
    ∃ x_33 : Int, hat H47 ((Addr.mk b_8 0 none).add 1) = some (.int .i64 x_33) ∧
    ∃ x_34 : Int, hat H47 (Addr.mk b_8 0 none) = some (.int .u64 x_34) ∧
    ∃ xB_9 : Option Addr, ∃ xN_10 : Nat, ∃ xC_9 : Nat, hat H47 ((Addr.mk b_8 0 none).add 2) = some (.slice xB_9 xN_10 xC_9) ∧
    ∃ x_35 : Int, hat H47 (Addr.mk b_8 0 none) = some (.int .u64 x_35) ∧
    ∃ xB_10 : Option Addr, ∃ xN_11 : Nat, ∃ xC_10 : Nat, hat H47 ((Addr.mk b_8 0 none).add 2) = some (.slice xB_10 xN_11 xC_10) ∧
    obj_Heap_Type.C ra x_32 H47 (fun v_17 H51 => ∃ x_36 : Int, v_17 = .int .i64 x_36 ∧ RowAt H51 ((Addr.mk b_8 0 none).add 1) 0 [.int .i64 x_33] ∧ RowAt H51 (Addr.mk b_8 0 none) 0 [.int .u64 x_34] ∧ RowAt H51 ((Addr.mk b_8 0 none).add 2) 0 [.slice xB_9 xN_10 xC_9] ∧ RowAt H51 (Addr.mk b_8 0 none) 0 [.int .u64 x_35] ∧ RowAt H51 ((Addr.mk b_8 0 none).add 2) 0 [.slice xB_10 xN_11 xC_10] ∧ 
     if x_36 = x_33 then (
      obj_Heap_Len.C ra x_34 H51 (fun v_18 H52 => ∃ x_37 : Int, v_18 = .int .i64 x_37 ∧ RowAt H52 ((Addr.mk b_8 0 none).add 1) 0 [.int .i64 x_33] ∧ RowAt H52 (Addr.mk b_8 0 none) 0 [.int .u64 x_34] ∧ RowAt H52 ((Addr.mk b_8 0 none).add 2) 0 [.slice xB_9 xN_10 xC_9] ∧ RowAt H52 (Addr.mk b_8 0 none) 0 [.int .u64 x_35] ∧ RowAt H52 ((Addr.mk b_8 0 none).add 2) 0 [.slice xB_10 xN_11 xC_10] ∧ 
       if x_37 = (xN_10 : Int) then (
        obj_Heap_Size.C ra x_35 H52 (fun v_19 H53 => ∃ x_38 : Int, v_19 = .int .i64 x_38 ∧ RowAt H53 ((Addr.mk b_8 0 none).add 1) 0 [.int .i64 x_33] ∧ RowAt H53 (Addr.mk b_8 0 none) 0 [.int .u64 x_34] ∧ RowAt H53 ((Addr.mk b_8 0 none).add 2) 0 [.slice xB_9 xN_10 xC_9] ∧ RowAt H53 (Addr.mk b_8 0 none) 0 [.int .u64 x_35] ∧ RowAt H53 ((Addr.mk b_8 0 none).add 2) 0 [.slice xB_10 xN_11 xC_10] ∧ 
         if x_38 = (IntKind.wrap .i64 (1 + (xN_11 : Int))) then (
          ∃ (I201 : Int → Array Obj → Prop) (m201 : Int → Array Obj → Nat), I201 0 H53 ∧ ∀ (k_4 : Int) (H54 : Array Obj), I201 k_4 H54 →
          ∃ xB_11 : Option Addr, ∃ xN_12 : Nat, ∃ xC_11 : Nat, hat H54 ((Addr.mk b_8 0 none).add 2) = some (.slice xB_11 xN_12 xC_11) ∧
          if k_4 < (xN_12 : Int) then (
           ∃ x_39 : Int, hat H54 (Addr.mk b_8 0 none) = some (.int .u64 x_39) ∧
           ∃ x_40 : Int, hat H54 ((Addr.mk b_8 0 none).add 1) = some (.int .i64 x_40) ∧
           obj_Heap_Get.C ra x_39 x_40 k_4 H54 (fun v_20 H55 => ∃ ra_7 : Int, ∃ rb_7 : Int, v_20 = .tuple #[.int .u64 ra_7, .int .i64 rb_7] ∧ 
            if rb_7 = 0 then (
             ∃ xB_12 : Option Addr, ∃ xN_13 : Nat, ∃ xC_12 : Nat, hat H55 ((Addr.mk b_8 0 none).add 2) = some (.slice xB_12 xN_13 xC_12) ∧
             ∃ xB12A : Addr, xB_12 = some xB12A ∧
             ((0 : Int) ≤ k_4 ∧ k_4 < (xN_13 : Int)) ∧
             ∃ x_41 : Int, hat H55 (xB12A.add (Int.toNat k_4 * 1)) = some (.int .u64 x_41) ∧
             if ra_7 = x_41 then (
              (I201 (IntKind.wrap .i64 (k_4 + 1)) H55 ∧ m201 (IntKind.wrap .i64 (k_4 + 1)) H55 < m201 k_4 H54))
             else
             R (.bool false) H55)
            else
            R (.bool false) H55))
          else
          (I162 (IntKind.wrap .i64 (i_2 + 1)) H54 ∧ m162 (IntKind.wrap .i64 (i_2 + 1)) H54 < m162 i_2 H45))
         else
         R (.bool false) H53))
       else
       R (.bool false) H52))
     else
     R (.bool false) H51))
   else
   morainelaw10_awake.C  H45 (fun v_21 H56 => ∃ x_42 : Bool, v_21 = .bool x_42 ∧ 
    R (.bool x_42) H56)))
namespace morainelaw10_ObjKeeps
set_option maxRecDepth 100000 in
theorem link {limit : Int} {lB : Option Addr} {lN : Nat} {lC : Nat} {H : Array Obj} {R : Value → Array Obj → Prop} (h : pt limit lB lN lC H R) : C limit lB lN lC H R := by
  refine S_enter (fn := Try.f7) (c := kk0) 355 Try.func7 (by kernel_rfl) (by kernel_rfl) (Nat.le_of_ble_eq_true (by kernel_rfl)) ?_
  intro w0 Q hQ
  unfold pt at h
  refine S_sub [(0, .int .i64 limit), (1, .slice lB lN lC)] (sb (by kernel_rfl)) ?_
  refine S_seq kk1 kk2 (by kernel_rfl) ?_
  refine S_region 0 (Code.ops kk1) (by kernel_rfl) ?_
  refine N_run 1 [(0, .int .i64 limit), (1, .slice lB lN lC)] (fun w => by kernel_rfl) ?_
  refine N_end (by kernel_rfl) ?_
  refine S_then ?_
  refine S_seq kk3 kk4 (by kernel_rfl) ?_
  refine S_region 1 (Code.ops kk3) (by kernel_rfl) ?_
  refine N_run 1 [(1, .slice lB lN lC), (30, .int .i64 limit)] (fun w => by kernel_rfl) ?_
  refine N_call (some 31) 11 #[.int .i64 limit] (fun w => by kernel_rfl) h ?_; clear h
  rintro v H1 ⟨ra, rb, rfl, h⟩
  refine ⟨[(1, .slice lB lN lC), (31, .tuple #[.pointer ra, .int .i64 rb])], ps (by kernel_rfl), ?_⟩
  refine N_run 5 [(1, .slice lB lN lC), (5, .pointer ra), (6, .int .i64 rb)] (fun w => by kernel_rfl) ?_
  refine N_end (by kernel_rfl) ?_
  refine S_then ?_
  refine S_seq kk5 kk6 (by kernel_rfl) ?_
  refine S_seq kk7 kk8 (by kernel_rfl) ?_
  obtain ⟨J, h, j2⟩ := h
  refine S_join (σ := Bool) (fun s_ => [(1, .slice lB lN lC), (5, .pointer ra), (6, .int .i64 rb), (39, .bool s_)]) (fun s_ H => J s_ H) ?_ ?_
  · rintro s39 H2 j3
    replace h := j2 s39 H2 j3
    refine S_sub [(1, .slice lB lN lC), (5, .pointer ra), (6, .int .i64 rb), (39, .bool s39)] (sb (by kernel_rfl)) ?_
    refine S_then ?_
    by_cases c4 : s39 = true
    · rw [if_pos c4] at h
      have b5 : s39 = true := c4
      refine S_env [(1, .slice lB lN lC), (5, .pointer ra), (6, .int .i64 rb), (39, .bool true)] (by simp only [b5, Bool.not_true, Bool.not_false]) ?_
      clear b5
      refine S_condT (.tmp 39) kk9 kk10 (by kernel_rfl) (by kernel_rfl) ?_
      refine S_seq kk11 kk12 (by kernel_rfl) ?_
      refine S_region 3 (Code.ops kk11) (by kernel_rfl) ?_
      refine N_run 1 [(4, .bool false)] (fun w => by kernel_rfl) ?_
      refine N_end (by kernel_rfl) ?_
      refine S_then ?_
      refine S_ret (by kernel_rfl) ?_
      show At _ _ _ _ _ (Q .ret)
      exact S_done (fn := Try.f7) [.bool false] hQ (show ResOK _ _ _ [.tmp 4] _ from .tmp (by kernel_rfl) (.nil)) h
    · rw [if_neg c4] at h
      have b5 : s39 = false := eq_false_of_ne_true c4
      refine S_env [(1, .slice lB lN lC), (5, .pointer ra), (6, .int .i64 rb), (39, .bool false)] (by simp only [b5, Bool.not_true, Bool.not_false]) ?_
      clear b5
      refine S_condF (.tmp 39) kk9 kk10 (by kernel_rfl) (by kernel_rfl) ?_
      refine S_skip (by kernel_rfl) ?_
      refine S_then ?_
      refine S_seq kk13 kk14 (by kernel_rfl) ?_
      refine S_seq kk15 kk16 (by kernel_rfl) ?_
      refine S_region 4 (Code.ops kk15) (by kernel_rfl) ?_
      refine N_run 1 [(1, .slice lB lN lC), (5, .pointer ra), (6, .int .i64 rb), (40, .slice lB lN lC)] (fun w => by kernel_rfl) ?_
      refine N_call (some 41) 23 #[.slice lB lN lC] (fun w => by kernel_rfl) h ?_; clear h
      rintro v_2 H3 ⟨x, rfl, h⟩
      refine ⟨[(1, .slice lB lN lC), (5, .pointer ra), (6, .int .i64 rb), (41, .bool x)], ps (by kernel_rfl), ?_⟩
      refine N_run 1 [(1, .slice lB lN lC), (5, .pointer ra), (6, .int .i64 rb), (42, .bool x)] (fun w => by kernel_rfl) ?_
      refine N_cut [(1, .slice lB lN lC), (5, .pointer ra), (6, .int .i64 rb), (45, .bool (x || (rb != 0)))] ?_ ?_
      · refine S_then ?_
        by_cases c8 : (x || (rb != 0)) = true
        · rw [if_pos c8] at h
          have b9 : (x || (rb != 0)) = true := c8
          refine S_env [(1, .slice lB lN lC), (5, .pointer ra), (6, .int .i64 rb), (45, .bool true)] (by simp only [b9, Bool.not_true, Bool.not_false]) ?_
          clear b9
          refine S_condT (.tmp 45) kk17 kk18 (by kernel_rfl) (by kernel_rfl) ?_
          refine S_seq kk19 kk20 (by kernel_rfl) ?_
          obtain ⟨J_2, h, j11⟩ := h
          refine S_join (σ := Bool) (fun s_ => [(4, .bool s_)]) (fun s_ H => J_2 s_ H) ?_ ?_
          · rintro s4 H4 j12
            replace h := j11 s4 H4 j12
            refine S_sub [(4, .bool s4)] (sb (by kernel_rfl)) ?_
            refine S_then ?_
            refine S_ret (by kernel_rfl) ?_
            show At _ _ _ _ _ (Q .ret)
            exact S_done (fn := Try.f7) [.bool s4] hQ (show ResOK _ _ _ [.tmp 4] _ from .tmp (by kernel_rfl) (.nil)) h
          · refine S_region 5 (Code.ops kk19) (by kernel_rfl) ?_
            refine N_run 3 [(6, .int .i64 rb), (48, .bool (rb == 0))] (fun w => by kernel_rfl) ?_
            by_cases c13 : rb = 0
            · rw [if_pos c13] at h
              have b14 : (rb == 0) = true := beq_iff_eq.mpr c13
              refine N_env [(6, .int .i64 rb), (48, .bool true)] (by simp only [b14, Bool.not_true, Bool.not_false]) ?_
              clear b14
              refine N_run 4 [(52, .bool true)] (fun w => by kernel_rfl) ?_
              refine N_call (some 53) 24 #[] (fun w => by kernel_rfl) h ?_; clear h
              rintro v_3 H5 ⟨x_2, rfl, h⟩
              refine ⟨[(52, .bool true), (53, .bool x_2)], ps (by kernel_rfl), ?_⟩
              refine N_run 2 [(4, .bool x_2)] (fun w => by kernel_rfl) ?_
              refine N_end (by kernel_rfl) ?_
              refine S_then ?_
              exact S_meet (x_2 : Bool) (sb (by kernel_rfl)) h
            · rw [if_neg c13] at h
              have b14 : (rb == 0) = false := beq_eq_false_iff_ne.mpr c13
              refine N_env [(6, .int .i64 rb), (48, .bool false)] (by simp only [b14, Bool.not_true, Bool.not_false]) ?_
              clear b14
              refine N_run 4 [(52, .bool (rb == 1))] (fun w => by kernel_rfl) ?_
              by_cases c15 : rb = 1
              · rw [if_pos c15] at h
                have b16 : (rb == 1) = true := beq_iff_eq.mpr c15
                refine N_env [(52, .bool true)] (by simp only [b16, Bool.not_true, Bool.not_false]) ?_
                clear b16
                refine N_call (some 53) 24 #[] (fun w => by kernel_rfl) h ?_; clear h
                rintro v_4 H6 ⟨x_3, rfl, h⟩
                refine ⟨[(52, .bool true), (53, .bool x_3)], ps (by kernel_rfl), ?_⟩
                refine N_run 2 [(4, .bool x_3)] (fun w => by kernel_rfl) ?_
                refine N_end (by kernel_rfl) ?_
                refine S_then ?_
                exact S_meet (x_3 : Bool) (sb (by kernel_rfl)) h
              · rw [if_neg c15] at h
                have b16 : (rb == 1) = false := beq_eq_false_iff_ne.mpr c15
                refine N_env [(52, .bool false)] (by simp only [b16, Bool.not_true, Bool.not_false]) ?_
                clear b16
                refine N_run 3 [(4, .bool false)] (fun w => by kernel_rfl) ?_
                refine N_end (by kernel_rfl) ?_
                refine S_then ?_
                exact S_meet (false : Bool) (sb (by kernel_rfl)) h
        · rw [if_neg c8] at h
          have b9 : (x || (rb != 0)) = false := eq_false_of_ne_true c8
          refine S_env [(1, .slice lB lN lC), (5, .pointer ra), (6, .int .i64 rb), (45, .bool false)] (by simp only [b9, Bool.not_true, Bool.not_false]) ?_
          clear b9
          refine S_condF (.tmp 45) kk17 kk18 (by kernel_rfl) (by kernel_rfl) ?_
          refine S_skip (by kernel_rfl) ?_
          refine S_then ?_
          refine S_seq kk21 kk22 (by kernel_rfl) ?_
          refine S_region 6 (Code.ops kk21) (by kernel_rfl) ?_
          refine N_run 1 [(1, .slice lB lN lC), (5, .pointer ra), (7, .slice none 0 0)] (fun w => by kernel_rfl) ?_
          refine N_end (by kernel_rfl) ?_
          refine S_then ?_
          refine S_seq kk23 kk24 (by kernel_rfl) ?_
          refine S_region 7 (Code.ops kk23) (by kernel_rfl) ?_
          refine N_run 1 [(1, .slice lB lN lC), (5, .pointer ra), (7, .slice none 0 0), (8, .slice none 0 0)] (fun w => by kernel_rfl) ?_
          refine N_end (by kernel_rfl) ?_
          refine S_then ?_
          refine S_seq kk25 kk26 (by kernel_rfl) ?_
          refine S_seq kk27 kk28 (by kernel_rfl) ?_
          refine S_region 8 (Code.ops kk27) (by kernel_rfl) ?_
          refine N_run 1 [(1, .slice lB lN lC), (5, .pointer ra), (7, .slice none 0 0), (8, .slice none 0 0), (9, .int .i64 0)] (fun w => by kernel_rfl) ?_
          refine N_end (by kernel_rfl) ?_
          refine S_then ?_
          refine S_block 0 kk29 (by kernel_rfl) ?_
          obtain ⟨I31, m31, i17, i18⟩ := h
          refine S_loop (x := kk30) (σ := (Option Addr) × Nat × Nat × (Option Addr) × Nat × Nat × Int) (fun s_ => [(1, .slice lB lN lC), (5, .pointer ra), (7, .slice s_.1 s_.2.1 s_.2.2.1), (8, .slice s_.2.2.2.1 s_.2.2.2.2.1 s_.2.2.2.2.2.1), (9, .int .i64 s_.2.2.2.2.2.2)]) (fun s_ H => I31 s_.1 s_.2.1 s_.2.2.1 s_.2.2.2.1 s_.2.2.2.2.1 s_.2.2.2.2.2.1 s_.2.2.2.2.2.2 H) (fun s_ H => m31 s_.1 s_.2.1 s_.2.2.1 s_.2.2.2.1 s_.2.2.2.2.1 s_.2.2.2.2.2.1 s_.2.2.2.2.2.2 H) ((none, 0, 0, none, 0, 0, 0) : (Option Addr) × Nat × Nat × (Option Addr) × Nat × Nat × Int) (by kernel_rfl) i17 (sb (by kernel_rfl)) ?_
          rintro ⟨madeB, madeN, madeC, allB, allN, allC, i⟩ H7 i19
          have h := i18 madeB madeN madeC allB allN allC i H7 i19
          refine S_sub [(1, .slice lB lN lC), (5, .pointer ra), (7, .slice madeB madeN madeC), (8, .slice allB allN allC), (9, .int .i64 i)] (sb (by kernel_rfl)) ?_
          refine S_seq kk31 kk32 (by kernel_rfl) ?_
          refine S_seq kk33 kk34 (by kernel_rfl) ?_
          refine S_region 9 (Code.ops kk33) (by kernel_rfl) ?_
          refine N_run 4 [(1, .slice lB lN lC), (5, .pointer ra), (7, .slice madeB madeN madeC), (8, .slice allB allN allC), (9, .int .i64 i), (58, .bool (decide (i < (lN : Int))))] (fun w => by kernel_rfl) ?_
          refine N_end (by kernel_rfl) ?_
          refine S_then ?_
          by_cases c20 : i < (lN : Int)
          · rw [if_pos c20] at h
            have b21 : (decide (i < (lN : Int))) = true := decide_eq_true c20
            refine S_env [(1, .slice lB lN lC), (5, .pointer ra), (7, .slice madeB madeN madeC), (8, .slice allB allN allC), (9, .int .i64 i), (58, .bool true)] (by simp only [b21, Bool.not_true, Bool.not_false]) ?_
            clear b21
            refine S_condT (.tmp 58) kk35 kk36 (by kernel_rfl) (by kernel_rfl) ?_
            refine S_skip (by kernel_rfl) ?_
            refine S_then ?_
            refine S_seq kk37 kk38 (by kernel_rfl) ?_
            refine S_block 1 kk39 (by kernel_rfl) ?_
            refine S_seq kk40 kk41 (by kernel_rfl) ?_
            refine S_region 11 (Code.ops kk40) (by kernel_rfl) ?_
            refine N_run 2 [(1, .slice lB lN lC), (5, .pointer ra), (7, .slice madeB madeN madeC), (8, .slice allB allN allC), (9, .int .i64 i), (61, .slice lB lN lC), (62, .int .i64 i)] (fun w => by kernel_rfl) ?_
            obtain ⟨lBA, rfl, h⟩ := h
            obtain ⟨q22, h⟩ := h
            refine N_val (some 63) (indexAtN 63 (.slice (some lBA) lN lC) (.int .i64 i)) (.pointer (some (lBA.add (Int.toNat i * 12)))) (fun w => by kernel_rfl) (fun w _ => indexAt_run (P := Try.prog) (t := 63) (elem := 72) (sz := 12) (a := lBA) (len := lN) (cap := lC) (k := .i64) (i := i) Try.underlying63 (fun w => by kernel_rfl) q22.1 q22.2 w) [(1, .slice (some lBA) lN lC), (5, .pointer ra), (7, .slice madeB madeN madeC), (8, .slice allB allN allC), (9, .int .i64 i), (63, .pointer (some (lBA.add (Int.toNat i * 12))))] (ps (by kernel_rfl)) ?_
            obtain ⟨xDo, xXW, xXOf, xYW, xYOf, xKind, xN, xMore, xLB, xLN, xLC, xS, xNumNeg, xNumMagB, xNumMagN, xNumMagC, q23, h⟩ := h
            refine N_val (some 64) (loadN 72 (.pointer (some (lBA.add (Int.toNat i * 12))))) (.agg #[.int .i64 xDo, .int .u64 xXW, .int .i64 xXOf, .int .u64 xYW, .int .i64 xYOf, .int .i64 xKind, .int .i64 xN, .int .u64 xMore, .slice xLB xLN xLC, .string xS, .bool xNumNeg, .slice xNumMagB xNumMagN xNumMagC]) (fun w => by kernel_rfl) (loadN_run (loadOK_row (fun w => by kernel_rfl) (fun w => by kernel_rfl) q23)) [(1, .slice (some lBA) lN lC), (5, .pointer ra), (7, .slice madeB madeN madeC), (8, .slice allB allN allC), (9, .int .i64 i), (64, .agg #[.int .i64 xDo, .int .u64 xXW, .int .i64 xXOf, .int .u64 xYW, .int .i64 xYOf, .int .i64 xKind, .int .i64 xN, .int .u64 xMore, .slice xLB xLN xLC, .string xS, .bool xNumNeg, .slice xNumMagB xNumMagN xNumMagC])] (ps (by kernel_rfl)) ?_
            refine N_new (some 10) (fun b => .pointer (some (Addr.mk b 0 none))) (.cells #[.int .i64 0, .int .u64 0, .int .i64 0, .int .u64 0, .int .i64 0, .int .i64 0, .int .i64 0, .int .u64 0, .slice none 0 0, .string (ByteArray.mk #[]), .bool false, .slice none 0 0] 72) (fun w => by kernel_rfl) ?_
            intro b H8 e24 e25
            replace h := h b H8 e24 e25
            refine ⟨[(1, .slice (some lBA) lN lC), (5, .pointer ra), (7, .slice madeB madeN madeC), (8, .slice allB allN allC), (9, .int .i64 i), (10, .pointer (some (Addr.mk b 0 none))), (64, .agg #[.int .i64 xDo, .int .u64 xXW, .int .i64 xXOf, .int .u64 xYW, .int .i64 xYOf, .int .i64 xKind, .int .i64 xN, .int .u64 xMore, .slice xLB xLN xLC, .string xS, .bool xNumNeg, .slice xNumMagB xNumMagN xNumMagC])], ps (by kernel_rfl), ?_⟩
            obtain ⟨q27, h⟩ := h
            refine N_skipop none (storeN 72 (.pointer (some (Addr.mk b 0 none))) (.agg #[.int .i64 xDo, .int .u64 xXW, .int .i64 xXOf, .int .u64 xYW, .int .i64 xYOf, .int .i64 xKind, .int .i64 xN, .int .u64 xMore, .slice xLB xLN xLC, .string xS, .bool xNumNeg, .slice xNumMagB xNumMagN xNumMagC])) (fun Hz => Hz = hputs H8 (Addr.mk b 0 none) [.int .i64 xDo, .int .u64 xXW, .int .i64 xXOf, .int .u64 xYW, .int .i64 xYOf, .int .i64 xKind, .int .i64 xN, .int .u64 xMore, .slice xLB xLN xLC, .string xS, .bool xNumNeg, .slice xNumMagB xNumMagN xNumMagC] 0) (fun w => by kernel_rfl) (ss_store [.int .i64 xDo, .int .u64 xXW, .int .i64 xXOf, .int .u64 xYW, .int .i64 xYOf, .int .i64 xKind, .int .i64 xN, .int .u64 xMore, .slice xLB xLN xLC, .string xS, .bool xNumNeg, .slice xNumMagB xNumMagN xNumMagC] 12 (by kernel_rfl) (by kernel_rfl) (fun w => by kernel_rfl) (by kernel_rfl) q27) ?_
            intro H9 e26
            replace h := h H9 e26
            refine ⟨[(1, .slice (some lBA) lN lC), (5, .pointer ra), (7, .slice madeB madeN madeC), (8, .slice allB allN allC), (9, .int .i64 i), (10, .pointer (some (Addr.mk b 0 none)))], ps (by kernel_rfl), ?_⟩
            refine N_end (by kernel_rfl) ?_
            refine S_then ?_
            refine S_seq kk42 kk43 (by kernel_rfl) ?_
            obtain ⟨xW, xOf, q28, h⟩ := h
            obtain ⟨xW_2, xOf_2, q29, h⟩ := h
            refine S_regionG 12 (Code.ops kk42) [(3, ((Addr.mk b 0 none).add 1), [.int .u64 xW, .int .i64 xOf]), (7, ((Addr.mk b 0 none).add 3), [.int .u64 xW_2, .int .i64 xOf_2])] 10 #[false, false, false, false, false, false, false, false, false, false] (by kernel_rfl) (by kernel_rfl) (by kernel_rfl) (by kernel_rfl) (by kernel_rfl) (show FactsAt _ _ _ from ⟨q28, q29, trivial⟩) ?_
            refine G_take 0 (some 65) (.pointer (some ((Addr.mk b 0 none).add 1))) #[true, false, false, false, false, false, false, false, false, false] [(1, .slice (some lBA) lN lC), (5, .pointer ra), (7, .slice madeB madeN madeC), (8, .slice allB allN allC), (9, .int .i64 i), (10, .pointer (some (Addr.mk b 0 none))), (65, .pointer (some ((Addr.mk b 0 none).add 1)))] ((pure (.value (.pointer (some ((Addr.mk b 0 none).add 1)))) : Sem Next)) (fun w => by kernel_rfl) (fun _ _ _ _ _ => rfl) (by kernel_rfl) (by kernel_rfl) (by kernel_rfl) (by kernel_rfl) (by kernel_rfl) (by kernel_rfl) (ps (by kernel_rfl)) ?_
            refine G_take 1 (some 66) (.agg #[.int .u64 xW, .int .i64 xOf]) #[true, true, false, false, false, false, false, false, false, false] [(1, .slice (some lBA) lN lC), (5, .pointer ra), (7, .slice madeB madeN madeC), (8, .slice allB allN allC), (9, .int .i64 i), (10, .pointer (some (Addr.mk b 0 none))), (66, .agg #[.int .u64 xW, .int .i64 xOf])] (loadN 67 (.pointer (some ((Addr.mk b 0 none).add 1)))) (fun w => by kernel_rfl) (held_row 3 (fun w => by kernel_rfl) (fun w => by kernel_rfl) (List.Mem.head _) (.inl (by kernel_rfl))) (by kernel_rfl) (by kernel_rfl) (by kernel_rfl) (by kernel_rfl) (by kernel_rfl) (by kernel_rfl) (ps (by kernel_rfl)) ?_
            refine G_take 2 (some 67) (.slice madeB madeN madeC) #[true, true, true, false, false, false, false, false, false, false] [(1, .slice (some lBA) lN lC), (5, .pointer ra), (7, .slice madeB madeN madeC), (8, .slice allB allN allC), (9, .int .i64 i), (10, .pointer (some (Addr.mk b 0 none))), (66, .agg #[.int .u64 xW, .int .i64 xOf]), (67, .slice madeB madeN madeC)] ((pure (.value (.slice madeB madeN madeC)) : Sem Next)) (fun w => by kernel_rfl) (fun _ _ _ _ _ => rfl) (by kernel_rfl) (by kernel_rfl) (by kernel_rfl) (by kernel_rfl) (by kernel_rfl) (by kernel_rfl) (ps (by kernel_rfl)) ?_
            refine G_take 4 (some 69) (.pointer (some ((Addr.mk b 0 none).add 3))) #[true, true, true, false, true, false, false, false, false, false] [(1, .slice (some lBA) lN lC), (5, .pointer ra), (7, .slice madeB madeN madeC), (8, .slice allB allN allC), (9, .int .i64 i), (10, .pointer (some (Addr.mk b 0 none))), (66, .agg #[.int .u64 xW, .int .i64 xOf]), (67, .slice madeB madeN madeC), (69, .pointer (some ((Addr.mk b 0 none).add 3)))] ((pure (.value (.pointer (some ((Addr.mk b 0 none).add 3)))) : Sem Next)) (fun w => by kernel_rfl) (fun _ _ _ _ _ => rfl) (by kernel_rfl) (by kernel_rfl) (by kernel_rfl) (by kernel_rfl) (by kernel_rfl) (by kernel_rfl) (ps (by kernel_rfl)) ?_
            refine G_take 5 (some 70) (.agg #[.int .u64 xW_2, .int .i64 xOf_2]) #[true, true, true, false, true, true, false, false, false, false] [(1, .slice (some lBA) lN lC), (5, .pointer ra), (7, .slice madeB madeN madeC), (8, .slice allB allN allC), (9, .int .i64 i), (10, .pointer (some (Addr.mk b 0 none))), (66, .agg #[.int .u64 xW, .int .i64 xOf]), (67, .slice madeB madeN madeC), (70, .agg #[.int .u64 xW_2, .int .i64 xOf_2])] (loadN 67 (.pointer (some ((Addr.mk b 0 none).add 3)))) (fun w => by kernel_rfl) (held_row 7 (fun w => by kernel_rfl) (fun w => by kernel_rfl) (List.Mem.tail _ (List.Mem.head _)) (.inl (by kernel_rfl))) (by kernel_rfl) (by kernel_rfl) (by kernel_rfl) (by kernel_rfl) (by kernel_rfl) (by kernel_rfl) (ps (by kernel_rfl)) ?_
            refine G_take 6 (some 71) (.slice madeB madeN madeC) #[true, true, true, false, true, true, true, false, false, false] [(1, .slice (some lBA) lN lC), (5, .pointer ra), (7, .slice madeB madeN madeC), (8, .slice allB allN allC), (9, .int .i64 i), (10, .pointer (some (Addr.mk b 0 none))), (66, .agg #[.int .u64 xW, .int .i64 xOf]), (67, .slice madeB madeN madeC), (70, .agg #[.int .u64 xW_2, .int .i64 xOf_2]), (71, .slice madeB madeN madeC)] ((pure (.value (.slice madeB madeN madeC)) : Sem Next)) (fun w => by kernel_rfl) (fun _ _ _ _ _ => rfl) (by kernel_rfl) (by kernel_rfl) (by kernel_rfl) (by kernel_rfl) (by kernel_rfl) (by kernel_rfl) (ps (by kernel_rfl)) ?_
            refine G_call 3 (some 68) #[true, true, true, true, true, true, true, false, false, false] 25 #[.agg #[.int .u64 xW, .int .i64 xOf], .slice madeB madeN madeC] (by kernel_rfl) (fun w => by kernel_rfl) h (by kernel_rfl) ?_; clear h
            rintro v_5 H10 ⟨x_4, rfl, h⟩
            obtain ⟨f30, h⟩ := h
            refine ⟨[(1, .slice (some lBA) lN lC), (5, .pointer ra), (7, .slice madeB madeN madeC), (8, .slice allB allN allC), (9, .int .i64 i), (10, .pointer (some (Addr.mk b 0 none))), (68, .int .u64 x_4), (70, .agg #[.int .u64 xW_2, .int .i64 xOf_2]), (71, .slice madeB madeN madeC)], ps (by kernel_rfl), (show FactsAt _ _ _ from ⟨trivial, f30, trivial⟩), ?_⟩
            refine G_call 7 (some 72) #[true, true, true, true, true, true, true, true, false, false] 25 #[.agg #[.int .u64 xW_2, .int .i64 xOf_2], .slice madeB madeN madeC] (by kernel_rfl) (fun w => by kernel_rfl) h (by kernel_rfl) ?_; clear h
            rintro v_6 H11 ⟨x_5, rfl, h⟩
            refine ⟨[(1, .slice (some lBA) lN lC), (5, .pointer ra), (7, .slice madeB madeN madeC), (8, .slice allB allN allC), (9, .int .i64 i), (10, .pointer (some (Addr.mk b 0 none))), (68, .int .u64 x_4), (72, .int .u64 x_5)], ps (by kernel_rfl), (show FactsAt _ _ _ from ⟨trivial, trivial, trivial⟩), ?_⟩
            refine G_take 8 (some 11) (.int .u64 x_4) #[true, true, true, true, true, true, true, true, true, false] [(1, .slice (some lBA) lN lC), (5, .pointer ra), (7, .slice madeB madeN madeC), (8, .slice allB allN allC), (9, .int .i64 i), (10, .pointer (some (Addr.mk b 0 none))), (11, .int .u64 x_4), (72, .int .u64 x_5)] (pure (.value (.int .u64 x_4)) : Sem Next) (fun w => by kernel_rfl) (fun _ _ _ _ _ => rfl) (by kernel_rfl) (by kernel_rfl) (by kernel_rfl) (by kernel_rfl) (by kernel_rfl) (by kernel_rfl) (ps (by kernel_rfl)) ?_
            refine G_take 9 (some 12) (.int .u64 x_5) #[true, true, true, true, true, true, true, true, true, true] [(1, .slice (some lBA) lN lC), (5, .pointer ra), (7, .slice madeB madeN madeC), (8, .slice allB allN allC), (9, .int .i64 i), (10, .pointer (some (Addr.mk b 0 none))), (11, .int .u64 x_4), (12, .int .u64 x_5)] (pure (.value (.int .u64 x_5)) : Sem Next) (fun w => by kernel_rfl) (fun _ _ _ _ _ => rfl) (by kernel_rfl) (by kernel_rfl) (by kernel_rfl) (by kernel_rfl) (by kernel_rfl) (by kernel_rfl) (ps (by kernel_rfl)) ?_
            refine G_sub [(1, .slice (some lBA) lN lC), (5, .pointer ra), (7, .slice madeB madeN madeC), (8, .slice allB allN allC), (9, .int .i64 i), (10, .pointer (some (Addr.mk b 0 none))), (11, .int .u64 x_4), (12, .int .u64 x_5)] (sb (by kernel_rfl)) ?_
            refine G_end (by kernel_rfl) ?_
            refine S_then ?_
            refine S_seq kk44 kk45 (by kernel_rfl) ?_
            refine S_region 13 (Code.ops kk44) (by kernel_rfl) ?_
            refine N_run 1 [(1, .slice (some lBA) lN lC), (5, .pointer ra), (7, .slice madeB madeN madeC), (8, .slice allB allN allC), (9, .int .i64 i), (10, .pointer (some (Addr.mk b 0 none))), (11, .int .u64 x_4), (12, .int .u64 x_5), (73, .agg #[.int .u64 0, .int .i64 0, .slice none 0 0])] (fun w => by kernel_rfl) ?_
            refine N_new (some 13) (fun b => .pointer (some (Addr.mk b 0 none))) (.cells #[.int .u64 0, .int .i64 0, .slice none 0 0] 75) (fun w => by kernel_rfl) ?_
            intro b_2 H12 e31 e32
            replace h := h b_2 H12 e31 e32
            refine ⟨[(1, .slice (some lBA) lN lC), (5, .pointer ra), (7, .slice madeB madeN madeC), (8, .slice allB allN allC), (9, .int .i64 i), (10, .pointer (some (Addr.mk b 0 none))), (11, .int .u64 x_4), (12, .int .u64 x_5), (13, .pointer (some (Addr.mk b_2 0 none))), (73, .agg #[.int .u64 0, .int .i64 0, .slice none 0 0])], ps (by kernel_rfl), ?_⟩
            obtain ⟨q34, h⟩ := h
            refine N_skipop none (storeN 75 (.pointer (some (Addr.mk b_2 0 none))) (.agg #[.int .u64 0, .int .i64 0, .slice none 0 0])) (fun Hz => Hz = hputs H12 (Addr.mk b_2 0 none) [.int .u64 0, .int .i64 0, .slice none 0 0] 0) (fun w => by kernel_rfl) (ss_store [.int .u64 0, .int .i64 0, .slice none 0 0] 3 (by kernel_rfl) (by kernel_rfl) (fun w => by kernel_rfl) (by kernel_rfl) q34) ?_
            intro H13 e33
            replace h := h H13 e33
            refine ⟨[(1, .slice (some lBA) lN lC), (5, .pointer ra), (7, .slice madeB madeN madeC), (8, .slice allB allN allC), (9, .int .i64 i), (10, .pointer (some (Addr.mk b 0 none))), (11, .int .u64 x_4), (12, .int .u64 x_5), (13, .pointer (some (Addr.mk b_2 0 none)))], ps (by kernel_rfl), ?_⟩
            refine N_end (by kernel_rfl) ?_
            refine S_then ?_
            refine S_seq kk46 kk47 (by kernel_rfl) ?_
            refine S_region 14 (Code.ops kk46) (by kernel_rfl) ?_
            refine N_run 1 [(1, .slice (some lBA) lN lC), (5, .pointer ra), (7, .slice madeB madeN madeC), (8, .slice allB allN allC), (9, .int .i64 i), (10, .pointer (some (Addr.mk b 0 none))), (11, .int .u64 x_4), (12, .int .u64 x_5), (13, .pointer (some (Addr.mk b_2 0 none))), (14, .int .i64 1)] (fun w => by kernel_rfl) ?_
            refine N_end (by kernel_rfl) ?_
            refine S_then ?_
            refine S_seq kk48 kk49 (by kernel_rfl) ?_
            refine S_seq kk50 kk51 (by kernel_rfl) ?_
            obtain ⟨J_3, h, j36⟩ := h
            refine S_join (σ := Bool) (fun s_ => [(1, .slice (some lBA) lN lC), (5, .pointer ra), (7, .slice madeB madeN madeC), (8, .slice allB allN allC), (9, .int .i64 i), (10, .pointer (some (Addr.mk b 0 none))), (11, .int .u64 x_4), (12, .int .u64 x_5), (13, .pointer (some (Addr.mk b_2 0 none))), (14, .int .i64 1), (87, .bool s_)]) (fun s_ H => J_3 s_ H) ?_ ?_
            · rintro s87 H14 j37
              replace h := j36 s87 H14 j37
              refine S_sub [(1, .slice (some lBA) lN lC), (5, .pointer ra), (7, .slice madeB madeN madeC), (8, .slice allB allN allC), (9, .int .i64 i), (10, .pointer (some (Addr.mk b 0 none))), (11, .int .u64 x_4), (12, .int .u64 x_5), (13, .pointer (some (Addr.mk b_2 0 none))), (14, .int .i64 1), (87, .bool s87)] (sb (by kernel_rfl)) ?_
              refine S_then ?_
              by_cases c38 : s87 = true
              · rw [if_pos c38] at h
                have b39 : s87 = true := c38
                refine S_env [(1, .slice (some lBA) lN lC), (5, .pointer ra), (7, .slice madeB madeN madeC), (8, .slice allB allN allC), (9, .int .i64 i), (10, .pointer (some (Addr.mk b 0 none))), (11, .int .u64 x_4), (12, .int .u64 x_5), (13, .pointer (some (Addr.mk b_2 0 none))), (14, .int .i64 1), (87, .bool true)] (by simp only [b39, Bool.not_true, Bool.not_false]) ?_
                clear b39
                refine S_condT (.tmp 87) kk52 kk53 (by kernel_rfl) (by kernel_rfl) ?_
                refine S_exit 1 (by kernel_rfl) ?_
                refine S_exitThen ?_
                refine S_exitHere ?_
                refine S_then ?_
                refine S_region 10 (Code.ops kk38) (by kernel_rfl) ?_
                refine N_run 3 [(1, .slice (some lBA) lN lC), (5, .pointer ra), (7, .slice madeB madeN madeC), (8, .slice allB allN allC), (9, .int .i64 (IntKind.wrap .i64 (i + 1)))] (fun w => by kernel_rfl) ?_
                refine N_end (by kernel_rfl) ?_
                refine S_then ?_
                exact S_round ((madeB, madeN, madeC, allB, allN, allC, (IntKind.wrap .i64 (i + 1))) : (Option Addr) × Nat × Nat × (Option Addr) × Nat × Nat × Int) (sb (by kernel_rfl)) h
              · rw [if_neg c38] at h
                have b39 : s87 = false := eq_false_of_ne_true c38
                refine S_env [(1, .slice (some lBA) lN lC), (5, .pointer ra), (7, .slice madeB madeN madeC), (8, .slice allB allN allC), (9, .int .i64 i), (10, .pointer (some (Addr.mk b 0 none))), (11, .int .u64 x_4), (12, .int .u64 x_5), (13, .pointer (some (Addr.mk b_2 0 none))), (14, .int .i64 1), (87, .bool false)] (by simp only [b39, Bool.not_true, Bool.not_false]) ?_
                clear b39
                refine S_condF (.tmp 87) kk52 kk53 (by kernel_rfl) (by kernel_rfl) ?_
                refine S_skip (by kernel_rfl) ?_
                refine S_then ?_
                refine S_seq kk54 kk55 (by kernel_rfl) ?_
                refine S_seq kk56 kk57 (by kernel_rfl) ?_
                refine S_region 16 (Code.ops kk56) (by kernel_rfl) ?_
                refine N_run 1 [(1, .slice (some lBA) lN lC), (5, .pointer ra), (7, .slice madeB madeN madeC), (8, .slice allB allN allC), (9, .int .i64 i), (10, .pointer (some (Addr.mk b 0 none))), (11, .int .u64 x_4), (12, .int .u64 x_5), (13, .pointer (some (Addr.mk b_2 0 none))), (14, .int .i64 1), (88, .pointer (some (Addr.mk b 0 none)))] (fun w => by kernel_rfl) ?_
                obtain ⟨x_6, q40, h⟩ := h
                refine N_val (some 89) (loadN 3 (.pointer (some (Addr.mk b 0 none)))) (.int .i64 x_6) (fun w => by kernel_rfl) (loadN_run (loadOK_one (fun w => by kernel_rfl) q40)) [(1, .slice (some lBA) lN lC), (5, .pointer ra), (7, .slice madeB madeN madeC), (8, .slice allB allN allC), (9, .int .i64 i), (10, .pointer (some (Addr.mk b 0 none))), (11, .int .u64 x_4), (12, .int .u64 x_5), (13, .pointer (some (Addr.mk b_2 0 none))), (14, .int .i64 1), (89, .int .i64 x_6)] (ps (by kernel_rfl)) ?_
                refine N_end (by kernel_rfl) ?_
                refine S_then ?_
                refine S_block 2 kk58 (by kernel_rfl) ?_
                refine S_seq kk59 kk60 (by kernel_rfl) ?_
                refine S_region 17 (Code.ops kk59) (by kernel_rfl) ?_
                refine N_run 2 [(1, .slice (some lBA) lN lC), (5, .pointer ra), (7, .slice madeB madeN madeC), (8, .slice allB allN allC), (9, .int .i64 i), (10, .pointer (some (Addr.mk b 0 none))), (11, .int .u64 x_4), (12, .int .u64 x_5), (13, .pointer (some (Addr.mk b_2 0 none))), (14, .int .i64 1), (89, .int .i64 x_6), (90, .bool (x_6 == 0))] (fun w => by kernel_rfl) ?_
                refine N_end (by kernel_rfl) ?_
                refine S_then ?_
                obtain ⟨J_4, h, j42⟩ := h
                refine S_join (σ := Int) (fun s_ => [(1, .slice (some lBA) lN lC), (5, .pointer ra), (7, .slice madeB madeN madeC), (8, .slice allB allN allC), (9, .int .i64 i), (13, .pointer (some (Addr.mk b_2 0 none))), (14, .int .i64 s_)]) (fun s_ H => J_4 s_ H) ?_ ?_
                · rintro f H15 j43
                  replace h := j42 f H15 j43
                  refine S_sub [(1, .slice (some lBA) lN lC), (5, .pointer ra), (7, .slice madeB madeN madeC), (8, .slice allB allN allC), (9, .int .i64 i), (13, .pointer (some (Addr.mk b_2 0 none))), (14, .int .i64 f)] (sb (by kernel_rfl)) ?_
                  refine S_blockEnd ?_
                  refine S_then ?_
                  refine S_seq kk63 kk64 (by kernel_rfl) ?_
                  refine S_region 41 (Code.ops kk63) (by kernel_rfl) ?_
                  refine N_run 2 [(1, .slice (some lBA) lN lC), (5, .pointer ra), (7, .slice madeB madeN madeC), (8, .slice allB allN allC), (9, .int .i64 i), (13, .pointer (some (Addr.mk b_2 0 none))), (213, .bool (f == 0))] (fun w => by kernel_rfl) ?_
                  refine N_end (by kernel_rfl) ?_
                  refine S_then ?_
                  by_cases c44 : f = 0
                  · rw [if_pos c44] at h
                    have b45 : (f == 0) = true := beq_iff_eq.mpr c44
                    refine S_env [(1, .slice (some lBA) lN lC), (5, .pointer ra), (7, .slice madeB madeN madeC), (8, .slice allB allN allC), (9, .int .i64 i), (13, .pointer (some (Addr.mk b_2 0 none))), (213, .bool true)] (by simp only [b45, Bool.not_true, Bool.not_false]) ?_
                    clear b45
                    refine S_condT (.tmp 213) kk65 kk66 (by kernel_rfl) (by kernel_rfl) ?_
                    refine S_seq kk67 kk68 (by kernel_rfl) ?_
                    refine S_seq kk69 kk70 (by kernel_rfl) ?_
                    refine S_region 42 (Code.ops kk69) (by kernel_rfl) ?_
                    refine N_run 1 [(1, .slice (some lBA) lN lC), (5, .pointer ra), (7, .slice madeB madeN madeC), (8, .slice allB allN allC), (9, .int .i64 i), (13, .pointer (some (Addr.mk b_2 0 none))), (19, .int .i64 0)] (fun w => by kernel_rfl) ?_
                    refine N_end (by kernel_rfl) ?_
                    refine S_then ?_
                    refine S_block 7 kk71 (by kernel_rfl) ?_
                    obtain ⟨I73, m73, i46, i47⟩ := h
                    refine S_loop (x := kk72) (σ := Int) (fun s_ => [(1, .slice (some lBA) lN lC), (5, .pointer ra), (7, .slice madeB madeN madeC), (8, .slice allB allN allC), (9, .int .i64 i), (13, .pointer (some (Addr.mk b_2 0 none))), (19, .int .i64 s_)]) (fun s_ H => I73 s_ H) (fun s_ H => m73 s_ H) (0 : Int) (by kernel_rfl) i46 (sb (by kernel_rfl)) ?_
                    rintro k H16 i48
                    have h := i47 k H16 i48
                    refine S_sub [(1, .slice (some lBA) lN lC), (5, .pointer ra), (7, .slice madeB madeN madeC), (8, .slice allB allN allC), (9, .int .i64 i), (13, .pointer (some (Addr.mk b_2 0 none))), (19, .int .i64 k)] (sb (by kernel_rfl)) ?_
                    refine S_seq kk73 kk74 (by kernel_rfl) ?_
                    refine S_seq kk75 kk76 (by kernel_rfl) ?_
                    refine S_region 43 (Code.ops kk75) (by kernel_rfl) ?_
                    refine N_run 4 [(1, .slice (some lBA) lN lC), (5, .pointer ra), (7, .slice madeB madeN madeC), (8, .slice allB allN allC), (9, .int .i64 i), (13, .pointer (some (Addr.mk b_2 0 none))), (19, .int .i64 k), (217, .bool (decide (k < (allN : Int))))] (fun w => by kernel_rfl) ?_
                    refine N_end (by kernel_rfl) ?_
                    refine S_then ?_
                    by_cases c49 : k < (allN : Int)
                    · rw [if_pos c49] at h
                      have b50 : (decide (k < (allN : Int))) = true := decide_eq_true c49
                      refine S_env [(1, .slice (some lBA) lN lC), (5, .pointer ra), (7, .slice madeB madeN madeC), (8, .slice allB allN allC), (9, .int .i64 i), (13, .pointer (some (Addr.mk b_2 0 none))), (19, .int .i64 k), (217, .bool true)] (by simp only [b50, Bool.not_true, Bool.not_false]) ?_
                      clear b50
                      refine S_condT (.tmp 217) kk77 kk78 (by kernel_rfl) (by kernel_rfl) ?_
                      refine S_skip (by kernel_rfl) ?_
                      refine S_then ?_
                      refine S_seq kk79 kk80 (by kernel_rfl) ?_
                      refine S_block 8 kk81 (by kernel_rfl) ?_
                      refine S_seq kk82 kk83 (by kernel_rfl) ?_
                      refine S_regionQ 45 (Code.ops kk82) (by kernel_rfl) (by kernel_rfl) (by kernel_rfl) ?_
                      refine Q_one (.slice allB allN allC) [(1, .slice (some lBA) lN lC), (5, .pointer ra), (7, .slice madeB madeN madeC), (8, .slice allB allN allC), (9, .int .i64 i), (13, .pointer (some (Addr.mk b_2 0 none))), (19, .int .i64 k), (220, .slice allB allN allC)] (some 220) (by kernel_rfl) (fun w => by kernel_rfl) (ps (by kernel_rfl)) ?_
                      refine Q_one (.int .i64 k) [(1, .slice (some lBA) lN lC), (5, .pointer ra), (7, .slice madeB madeN madeC), (8, .slice allB allN allC), (9, .int .i64 i), (13, .pointer (some (Addr.mk b_2 0 none))), (19, .int .i64 k), (220, .slice allB allN allC), (221, .int .i64 k)] (some 221) (by kernel_rfl) (fun w => by kernel_rfl) (ps (by kernel_rfl)) ?_
                      obtain ⟨allBA, rfl, h⟩ := h
                      obtain ⟨q51, h⟩ := h
                      refine Q_op (some 222) (indexAtN 65 (.slice (some allBA) allN allC) (.int .i64 k)) (.pointer (some (allBA.add (Int.toNat k * 3)))) (fun w => by kernel_rfl) (fun w _ => indexAt_run (P := Try.prog) (t := 65) (elem := 75) (sz := 3) (a := allBA) (len := allN) (cap := allC) (k := .i64) (i := k) Try.underlying65 (fun w => by kernel_rfl) q51.1 q51.2 w) [(1, .slice (some lBA) lN lC), (5, .pointer ra), (7, .slice madeB madeN madeC), (8, .slice (some allBA) allN allC), (9, .int .i64 i), (13, .pointer (some (Addr.mk b_2 0 none))), (19, .int .i64 k), (222, .pointer (some (allBA.add (Int.toNat k * 3))))] (ps (by kernel_rfl)) ?_
                      refine Q_one (.pointer (some (allBA.add (Int.toNat k * 3)))) [(1, .slice (some lBA) lN lC), (5, .pointer ra), (7, .slice madeB madeN madeC), (8, .slice (some allBA) allN allC), (9, .int .i64 i), (13, .pointer (some (Addr.mk b_2 0 none))), (19, .int .i64 k), (223, .pointer (some (allBA.add (Int.toNat k * 3))))] (some 223) (by kernel_rfl) (fun w => by kernel_rfl) (ps (by kernel_rfl)) ?_
                      obtain ⟨x_7, q52, h⟩ := h
                      refine Q_op (some 224) (loadN 29 (.pointer (some (allBA.add (Int.toNat k * 3))))) (.int .u64 x_7) (fun w => by kernel_rfl) (loadN_run (loadOK_one (fun w => by kernel_rfl) q52)) [(1, .slice (some lBA) lN lC), (5, .pointer ra), (7, .slice madeB madeN madeC), (8, .slice (some allBA) allN allC), (9, .int .i64 i), (13, .pointer (some (Addr.mk b_2 0 none))), (19, .int .i64 k), (224, .int .u64 x_7)] (ps (by kernel_rfl)) ?_
                      refine Q_one (.pointer (some (Addr.mk b_2 0 none))) [(1, .slice (some lBA) lN lC), (5, .pointer ra), (7, .slice madeB madeN madeC), (8, .slice (some allBA) allN allC), (9, .int .i64 i), (13, .pointer (some (Addr.mk b_2 0 none))), (19, .int .i64 k), (224, .int .u64 x_7), (225, .pointer (some (Addr.mk b_2 0 none)))] (some 225) (by kernel_rfl) (fun w => by kernel_rfl) (ps (by kernel_rfl)) ?_
                      obtain ⟨x_8, q53, h⟩ := h
                      refine Q_op (some 226) (loadN 29 (.pointer (some (Addr.mk b_2 0 none)))) (.int .u64 x_8) (fun w => by kernel_rfl) (loadN_run (loadOK_one (fun w => by kernel_rfl) q53)) [(1, .slice (some lBA) lN lC), (5, .pointer ra), (7, .slice madeB madeN madeC), (8, .slice (some allBA) allN allC), (9, .int .i64 i), (13, .pointer (some (Addr.mk b_2 0 none))), (19, .int .i64 k), (224, .int .u64 x_7), (226, .int .u64 x_8)] (ps (by kernel_rfl)) ?_
                      refine Q_one (.bool (x_7 == x_8)) [(1, .slice (some lBA) lN lC), (5, .pointer ra), (7, .slice madeB madeN madeC), (8, .slice (some allBA) allN allC), (9, .int .i64 i), (13, .pointer (some (Addr.mk b_2 0 none))), (19, .int .i64 k), (227, .bool (x_7 == x_8))] (some 227) (by kernel_rfl) (fun w => by kernel_rfl) (ps (by kernel_rfl)) ?_
                      refine Q_sub [(1, .slice (some lBA) lN lC), (5, .pointer ra), (7, .slice madeB madeN madeC), (8, .slice (some allBA) allN allC), (9, .int .i64 i), (13, .pointer (some (Addr.mk b_2 0 none))), (19, .int .i64 k), (227, .bool (x_7 == x_8))] (sb (by kernel_rfl)) ?_
                      refine Q_end (by kernel_rfl) ?_
                      refine S_then ?_
                      by_cases c54 : x_7 = x_8
                      · rw [if_pos c54] at h
                        have b55 : (x_7 == x_8) = true := beq_iff_eq.mpr c54
                        refine S_env [(1, .slice (some lBA) lN lC), (5, .pointer ra), (7, .slice madeB madeN madeC), (8, .slice (some allBA) allN allC), (9, .int .i64 i), (13, .pointer (some (Addr.mk b_2 0 none))), (19, .int .i64 k), (227, .bool true)] (by simp only [b55, Bool.not_true, Bool.not_false]) ?_
                        clear b55
                        refine S_condT (.tmp 227) kk84 kk85 (by kernel_rfl) (by kernel_rfl) ?_
                        refine S_seq kk86 kk87 (by kernel_rfl) ?_
                        refine S_region 46 (Code.ops kk86) (by kernel_rfl) ?_
                        refine N_run 1 [(4, .bool false)] (fun w => by kernel_rfl) ?_
                        refine N_end (by kernel_rfl) ?_
                        refine S_then ?_
                        refine S_ret (by kernel_rfl) ?_
                        show At _ _ _ _ _ (Q .ret)
                        exact S_done (fn := Try.f7) [.bool false] hQ (show ResOK _ _ _ [.tmp 4] _ from .tmp (by kernel_rfl) (.nil)) h
                      · rw [if_neg c54] at h
                        have b55 : (x_7 == x_8) = false := beq_eq_false_iff_ne.mpr c54
                        refine S_env [(1, .slice (some lBA) lN lC), (5, .pointer ra), (7, .slice madeB madeN madeC), (8, .slice (some allBA) allN allC), (9, .int .i64 i), (13, .pointer (some (Addr.mk b_2 0 none))), (19, .int .i64 k), (227, .bool false)] (by simp only [b55, Bool.not_true, Bool.not_false]) ?_
                        clear b55
                        refine S_condF (.tmp 227) kk84 kk85 (by kernel_rfl) (by kernel_rfl) ?_
                        refine S_skip (by kernel_rfl) ?_
                        refine S_blockEnd ?_
                        refine S_then ?_
                        refine S_region 44 (Code.ops kk80) (by kernel_rfl) ?_
                        refine N_run 3 [(1, .slice (some lBA) lN lC), (5, .pointer ra), (7, .slice madeB madeN madeC), (8, .slice (some allBA) allN allC), (9, .int .i64 i), (13, .pointer (some (Addr.mk b_2 0 none))), (19, .int .i64 (IntKind.wrap .i64 (k + 1)))] (fun w => by kernel_rfl) ?_
                        refine N_end (by kernel_rfl) ?_
                        refine S_then ?_
                        exact S_round ((IntKind.wrap .i64 (k + 1)) : Int) (sb (by kernel_rfl)) h
                    · rw [if_neg c49] at h
                      have b50 : (decide (k < (allN : Int))) = false := decide_eq_false c49
                      refine S_env [(1, .slice (some lBA) lN lC), (5, .pointer ra), (7, .slice madeB madeN madeC), (8, .slice allB allN allC), (9, .int .i64 i), (13, .pointer (some (Addr.mk b_2 0 none))), (19, .int .i64 k), (217, .bool false)] (by simp only [b50, Bool.not_true, Bool.not_false]) ?_
                      clear b50
                      refine S_condF (.tmp 217) kk77 kk78 (by kernel_rfl) (by kernel_rfl) ?_
                      refine S_exit 7 (by kernel_rfl) ?_
                      refine S_exitThen ?_
                      refine S_exitThen ?_
                      refine S_exitHere ?_
                      refine S_then ?_
                      refine S_seq kk88 kk89 (by kernel_rfl) ?_
                      refine S_region 47 (Code.ops kk88) (by kernel_rfl) ?_
                      refine N_sub [(1, .slice (some lBA) lN lC), (5, .pointer ra), (7, .slice madeB madeN madeC), (8, .slice allB allN allC), (9, .int .i64 i), (13, .pointer (some (Addr.mk b_2 0 none)))] (sb (by kernel_rfl)) ?_
                      refine N_new (some 228) (fun b => .slice (some (Addr.mk b 0 none)) 0 0) (.cells #[] 29) (fun w => by kernel_rfl) ?_
                      intro b_3 H17 e56 e57
                      replace h := h b_3 H17 e56 e57
                      refine ⟨[(1, .slice (some lBA) lN lC), (5, .pointer ra), (7, .slice madeB madeN madeC), (8, .slice allB allN allC), (9, .int .i64 i), (13, .pointer (some (Addr.mk b_2 0 none))), (228, .slice (some (Addr.mk b_3 0 none)) 0 0)], ps (by kernel_rfl), ?_⟩
                      refine N_run 1 [(1, .slice (some lBA) lN lC), (5, .pointer ra), (7, .slice madeB madeN madeC), (8, .slice allB allN allC), (9, .int .i64 i), (13, .pointer (some (Addr.mk b_2 0 none))), (228, .slice (some (Addr.mk b_3 0 none)) 0 0), (229, .pointer (some ((Addr.mk b_2 0 none).add 2)))] (fun w => by kernel_rfl) ?_
                      obtain ⟨xB, xN_2, xC, q58, h⟩ := h
                      refine N_val (some 230) (loadN 39 (.pointer (some ((Addr.mk b_2 0 none).add 2)))) (.slice xB xN_2 xC) (fun w => by kernel_rfl) (loadN_run (loadOK_one (fun w => by kernel_rfl) q58)) [(1, .slice (some lBA) lN lC), (5, .pointer ra), (7, .slice madeB madeN madeC), (8, .slice allB allN allC), (9, .int .i64 i), (13, .pointer (some (Addr.mk b_2 0 none))), (228, .slice (some (Addr.mk b_3 0 none)) 0 0), (230, .slice xB xN_2 xC)] (ps (by kernel_rfl)) ?_
                      refine N_op (some 231) (appendN #[39, 39] 39 #[.slice (some (Addr.mk b_3 0 none)) 0 0, .slice xB xN_2 xC]) _ (fun w => by kernel_rfl) (ss_append (T := 29) (sz := 1) (bytes := 8) (zero := (.int .u64 0 : Value)) Try.underlying39 Try.underlying39 rfl (show Try.prog.info? 29 = some Try.t29 from by kernel_rfl) (by kernel_rfl) (by kernel_rfl) (by decide) (by kernel_rfl) (by first | exact h | (simpa only [Value.cells, List.toList_toArray] using h))) ?_
                      rintro _ H18 ⟨ap, apC, rfl, h⟩
                      refine ⟨[(1, .slice (some lBA) lN lC), (5, .pointer ra), (7, .slice madeB madeN madeC), (8, .slice allB allN allC), (9, .int .i64 i), (13, .pointer (some (Addr.mk b_2 0 none))), (231, .slice ap (0 + xN_2) apC)], ps (by kernel_rfl), ?_⟩
                      refine N_run 1 [(1, .slice (some lBA) lN lC), (5, .pointer ra), (7, .slice madeB madeN madeC), (8, .slice allB allN allC), (9, .int .i64 i), (13, .pointer (some (Addr.mk b_2 0 none))), (231, .slice ap (0 + xN_2) apC), (232, .pointer (some ((Addr.mk b_2 0 none).add 2)))] (fun w => by kernel_rfl) ?_
                      obtain ⟨q60, h⟩ := h
                      refine N_skipop none (storeN 39 (.pointer (some ((Addr.mk b_2 0 none).add 2))) (.slice ap (0 + xN_2) apC)) (fun Hz => Hz = hputs H18 ((Addr.mk b_2 0 none).add 2) [.slice ap (0 + xN_2) apC] 0) (fun w => by kernel_rfl) (ss_store [.slice ap (0 + xN_2) apC] 1 (by kernel_rfl) (by kernel_rfl) (fun w => by kernel_rfl) (by kernel_rfl) q60) ?_
                      intro H19 e59
                      replace h := h H19 e59
                      refine ⟨[(1, .slice (some lBA) lN lC), (5, .pointer ra), (7, .slice madeB madeN madeC), (8, .slice allB allN allC), (9, .int .i64 i), (13, .pointer (some (Addr.mk b_2 0 none)))], ps (by kernel_rfl), ?_⟩
                      refine N_end (by kernel_rfl) ?_
                      refine S_then ?_
                      refine S_seq kk90 kk91 (by kernel_rfl) ?_
                      refine S_region 48 (Code.ops kk90) (by kernel_rfl) ?_
                      refine N_run 1 [(1, .slice (some lBA) lN lC), (5, .pointer ra), (7, .slice madeB madeN madeC), (9, .int .i64 i), (13, .pointer (some (Addr.mk b_2 0 none))), (233, .slice allB allN allC)] (fun w => by kernel_rfl) ?_
                      obtain ⟨xw, xkind, xlB, xlN, xlC, q61, h⟩ := h
                      refine N_val (some 234) (loadN 75 (.pointer (some (Addr.mk b_2 0 none)))) (.agg #[.int .u64 xw, .int .i64 xkind, .slice xlB xlN xlC]) (fun w => by kernel_rfl) (loadN_run (loadOK_row (fun w => by kernel_rfl) (fun w => by kernel_rfl) q61)) [(1, .slice (some lBA) lN lC), (5, .pointer ra), (7, .slice madeB madeN madeC), (9, .int .i64 i), (13, .pointer (some (Addr.mk b_2 0 none))), (233, .slice allB allN allC), (234, .agg #[.int .u64 xw, .int .i64 xkind, .slice xlB xlN xlC])] (ps (by kernel_rfl)) ?_
                      refine N_new (some 235) (fun b => .slice (some (Addr.mk b 0 none)) 1 1) (.cells #[.int .u64 xw, .int .i64 xkind, .slice xlB xlN xlC] 75) (fun w => by kernel_rfl) ?_
                      intro b_4 H20 e62 e63
                      replace h := h b_4 H20 e62 e63
                      refine ⟨[(1, .slice (some lBA) lN lC), (5, .pointer ra), (7, .slice madeB madeN madeC), (9, .int .i64 i), (13, .pointer (some (Addr.mk b_2 0 none))), (233, .slice allB allN allC), (235, .slice (some (Addr.mk b_4 0 none)) 1 1)], ps (by kernel_rfl), ?_⟩
                      refine N_op (some 236) (appendN #[65, 65] 65 #[.slice allB allN allC, .slice (some (Addr.mk b_4 0 none)) 1 1]) _ (fun w => by kernel_rfl) (ss_append (T := 75) (sz := 3) (bytes := 40) (zero := (.agg #[.int .u64 0, .int .i64 0, .slice none 0 0] : Value)) Try.underlying65 Try.underlying65 rfl (show Try.prog.info? 75 = some Try.t75 from by kernel_rfl) (by kernel_rfl) (by kernel_rfl) (by decide) (by kernel_rfl) (by first | exact h | (simpa only [Value.cells, List.toList_toArray] using h))) ?_
                      rintro _ H21 ⟨ap_2, apC_2, rfl, h⟩
                      refine ⟨[(1, .slice (some lBA) lN lC), (5, .pointer ra), (7, .slice madeB madeN madeC), (9, .int .i64 i), (13, .pointer (some (Addr.mk b_2 0 none))), (236, .slice ap_2 (allN + 1) apC_2)], ps (by kernel_rfl), ?_⟩
                      refine N_run 1 [(1, .slice (some lBA) lN lC), (5, .pointer ra), (7, .slice madeB madeN madeC), (8, .slice ap_2 (allN + 1) apC_2), (9, .int .i64 i), (13, .pointer (some (Addr.mk b_2 0 none)))] (fun w => by kernel_rfl) ?_
                      refine N_end (by kernel_rfl) ?_
                      refine S_then ?_
                      refine S_region 49 (Code.ops kk91) (by kernel_rfl) ?_
                      refine N_run 2 [(1, .slice (some lBA) lN lC), (5, .pointer ra), (8, .slice ap_2 (allN + 1) apC_2), (9, .int .i64 i), (237, .slice madeB madeN madeC), (238, .pointer (some (Addr.mk b_2 0 none)))] (fun w => by kernel_rfl) ?_
                      obtain ⟨x_9, q64, h⟩ := h
                      refine N_val (some 239) (loadN 29 (.pointer (some (Addr.mk b_2 0 none)))) (.int .u64 x_9) (fun w => by kernel_rfl) (loadN_run (loadOK_one (fun w => by kernel_rfl) q64)) [(1, .slice (some lBA) lN lC), (5, .pointer ra), (8, .slice ap_2 (allN + 1) apC_2), (9, .int .i64 i), (237, .slice madeB madeN madeC), (239, .int .u64 x_9)] (ps (by kernel_rfl)) ?_
                      refine N_new (some 240) (fun b => .slice (some (Addr.mk b 0 none)) 1 1) (.cells #[.int .u64 x_9] 29) (fun w => by kernel_rfl) ?_
                      intro b_5 H22 e65 e66
                      replace h := h b_5 H22 e65 e66
                      refine ⟨[(1, .slice (some lBA) lN lC), (5, .pointer ra), (8, .slice ap_2 (allN + 1) apC_2), (9, .int .i64 i), (237, .slice madeB madeN madeC), (240, .slice (some (Addr.mk b_5 0 none)) 1 1)], ps (by kernel_rfl), ?_⟩
                      refine N_op (some 241) (appendN #[39, 39] 39 #[.slice madeB madeN madeC, .slice (some (Addr.mk b_5 0 none)) 1 1]) _ (fun w => by kernel_rfl) (ss_append (T := 29) (sz := 1) (bytes := 8) (zero := (.int .u64 0 : Value)) Try.underlying39 Try.underlying39 rfl (show Try.prog.info? 29 = some Try.t29 from by kernel_rfl) (by kernel_rfl) (by kernel_rfl) (by decide) (by kernel_rfl) (by first | exact h | (simpa only [Value.cells, List.toList_toArray] using h))) ?_
                      rintro _ H23 ⟨ap_3, apC_3, rfl, h⟩
                      refine ⟨[(1, .slice (some lBA) lN lC), (5, .pointer ra), (8, .slice ap_2 (allN + 1) apC_2), (9, .int .i64 i), (241, .slice ap_3 (madeN + 1) apC_3)], ps (by kernel_rfl), ?_⟩
                      refine N_run 1 [(1, .slice (some lBA) lN lC), (5, .pointer ra), (7, .slice ap_3 (madeN + 1) apC_3), (8, .slice ap_2 (allN + 1) apC_2), (9, .int .i64 i)] (fun w => by kernel_rfl) ?_
                      refine N_end (by kernel_rfl) ?_
                      refine S_blockEnd ?_
                      refine S_then ?_
                      refine S_region 10 (Code.ops kk38) (by kernel_rfl) ?_
                      refine N_run 3 [(1, .slice (some lBA) lN lC), (5, .pointer ra), (7, .slice ap_3 (madeN + 1) apC_3), (8, .slice ap_2 (allN + 1) apC_2), (9, .int .i64 (IntKind.wrap .i64 (i + 1)))] (fun w => by kernel_rfl) ?_
                      refine N_end (by kernel_rfl) ?_
                      refine S_then ?_
                      exact S_round ((ap_3, (madeN + 1), apC_3, ap_2, (allN + 1), apC_2, (IntKind.wrap .i64 (i + 1))) : (Option Addr) × Nat × Nat × (Option Addr) × Nat × Nat × Int) (sb (by kernel_rfl)) h
                  · rw [if_neg c44] at h
                    have b45 : (f == 0) = false := beq_eq_false_iff_ne.mpr c44
                    refine S_env [(1, .slice (some lBA) lN lC), (5, .pointer ra), (7, .slice madeB madeN madeC), (8, .slice allB allN allC), (9, .int .i64 i), (13, .pointer (some (Addr.mk b_2 0 none))), (213, .bool false)] (by simp only [b45, Bool.not_true, Bool.not_false]) ?_
                    clear b45
                    refine S_condF (.tmp 213) kk65 kk66 (by kernel_rfl) (by kernel_rfl) ?_
                    refine S_skip (by kernel_rfl) ?_
                    refine S_blockEnd ?_
                    refine S_then ?_
                    refine S_region 10 (Code.ops kk38) (by kernel_rfl) ?_
                    refine N_run 3 [(1, .slice (some lBA) lN lC), (5, .pointer ra), (7, .slice madeB madeN madeC), (8, .slice allB allN allC), (9, .int .i64 (IntKind.wrap .i64 (i + 1)))] (fun w => by kernel_rfl) ?_
                    refine N_end (by kernel_rfl) ?_
                    refine S_then ?_
                    exact S_round ((madeB, madeN, madeC, allB, allN, allC, (IntKind.wrap .i64 (i + 1))) : (Option Addr) × Nat × Nat × (Option Addr) × Nat × Nat × Int) (sb (by kernel_rfl)) h
                · by_cases c67 : x_6 = 0
                  · rw [if_pos c67] at h
                    have b68 : (x_6 == 0) = true := beq_iff_eq.mpr c67
                    refine S_env [(1, .slice (some lBA) lN lC), (5, .pointer ra), (7, .slice madeB madeN madeC), (8, .slice allB allN allC), (9, .int .i64 i), (10, .pointer (some (Addr.mk b 0 none))), (11, .int .u64 x_4), (12, .int .u64 x_5), (13, .pointer (some (Addr.mk b_2 0 none))), (14, .int .i64 1), (89, .int .i64 x_6), (90, .bool true)] (by simp only [b68, Bool.not_true, Bool.not_false]) ?_
                    clear b68
                    refine S_condT (.tmp 90) kk61 kk62 (by kernel_rfl) (by kernel_rfl) ?_
                    refine S_seq kk92 kk93 (by kernel_rfl) ?_
                    refine S_region 18 (Code.ops kk92) (by kernel_rfl) ?_
                    refine N_run 3 [(1, .slice (some lBA) lN lC), (5, .pointer ra), (7, .slice madeB madeN madeC), (8, .slice allB allN allC), (9, .int .i64 i), (11, .int .u64 x_4), (12, .int .u64 x_5), (13, .pointer (some (Addr.mk b_2 0 none))), (93, .pointer ra), (94, .int .u64 x_4), (95, .int .u64 x_5)] (fun w => by kernel_rfl) ?_
                    refine N_call (some 96) 27 #[.pointer ra, .int .u64 x_4, .int .u64 x_5] (fun w => by kernel_rfl) h ?_; clear h
                    rintro v_7 H24 ⟨ra_2, rb_2, rfl, h⟩
                    refine ⟨[(1, .slice (some lBA) lN lC), (5, .pointer ra), (7, .slice madeB madeN madeC), (8, .slice allB allN allC), (9, .int .i64 i), (11, .int .u64 x_4), (12, .int .u64 x_5), (13, .pointer (some (Addr.mk b_2 0 none))), (96, .tuple #[.int .u64 ra_2, .int .i64 rb_2])], ps (by kernel_rfl), ?_⟩
                    refine N_run 4 [(1, .slice (some lBA) lN lC), (5, .pointer ra), (7, .slice madeB madeN madeC), (8, .slice allB allN allC), (9, .int .i64 i), (11, .int .u64 x_4), (12, .int .u64 x_5), (13, .pointer (some (Addr.mk b_2 0 none))), (97, .int .u64 ra_2), (98, .int .i64 rb_2), (99, .pointer (some (Addr.mk b_2 0 none)))] (fun w => by kernel_rfl) ?_
                    obtain ⟨q70, h⟩ := h
                    refine N_skipop none (storeN 29 (.pointer (some (Addr.mk b_2 0 none))) (.int .u64 ra_2)) (fun Hz => Hz = hputs H24 (Addr.mk b_2 0 none) [.int .u64 ra_2] 0) (fun w => by kernel_rfl) (ss_store [.int .u64 ra_2] 1 (by kernel_rfl) (by kernel_rfl) (fun w => by kernel_rfl) (by kernel_rfl) q70) ?_
                    intro H25 e69
                    replace h := h H25 e69
                    refine ⟨[(1, .slice (some lBA) lN lC), (5, .pointer ra), (7, .slice madeB madeN madeC), (8, .slice allB allN allC), (9, .int .i64 i), (11, .int .u64 x_4), (12, .int .u64 x_5), (13, .pointer (some (Addr.mk b_2 0 none))), (98, .int .i64 rb_2)], ps (by kernel_rfl), ?_⟩
                    refine N_run 1 [(1, .slice (some lBA) lN lC), (5, .pointer ra), (7, .slice madeB madeN madeC), (8, .slice allB allN allC), (9, .int .i64 i), (11, .int .u64 x_4), (12, .int .u64 x_5), (13, .pointer (some (Addr.mk b_2 0 none))), (14, .int .i64 rb_2)] (fun w => by kernel_rfl) ?_
                    refine N_end (by kernel_rfl) ?_
                    refine S_then ?_
                    refine S_region 19 (Code.ops kk93) (by kernel_rfl) ?_
                    refine N_run 2 [(1, .slice (some lBA) lN lC), (5, .pointer ra), (7, .slice madeB madeN madeC), (8, .slice allB allN allC), (9, .int .i64 i), (13, .pointer (some (Addr.mk b_2 0 none))), (14, .int .i64 rb_2), (100, .int .u64 x_4), (101, .int .u64 x_5)] (fun w => by kernel_rfl) ?_
                    refine N_new (some 102) (fun b => .slice (some (Addr.mk b 0 none)) 2 2) (.cells #[.int .u64 x_4, .int .u64 x_5] 29) (fun w => by kernel_rfl) ?_
                    intro b_6 H26 e71 e72
                    replace h := h b_6 H26 e71 e72
                    refine ⟨[(1, .slice (some lBA) lN lC), (5, .pointer ra), (7, .slice madeB madeN madeC), (8, .slice allB allN allC), (9, .int .i64 i), (13, .pointer (some (Addr.mk b_2 0 none))), (14, .int .i64 rb_2), (102, .slice (some (Addr.mk b_6 0 none)) 2 2)], ps (by kernel_rfl), ?_⟩
                    refine N_run 1 [(1, .slice (some lBA) lN lC), (5, .pointer ra), (7, .slice madeB madeN madeC), (8, .slice allB allN allC), (9, .int .i64 i), (13, .pointer (some (Addr.mk b_2 0 none))), (14, .int .i64 rb_2), (102, .slice (some (Addr.mk b_6 0 none)) 2 2), (103, .pointer (some ((Addr.mk b_2 0 none).add 2)))] (fun w => by kernel_rfl) ?_
                    obtain ⟨q74, h⟩ := h
                    refine N_skipop none (storeN 39 (.pointer (some ((Addr.mk b_2 0 none).add 2))) (.slice (some (Addr.mk b_6 0 none)) 2 2)) (fun Hz => Hz = hputs H26 ((Addr.mk b_2 0 none).add 2) [.slice (some (Addr.mk b_6 0 none)) 2 2] 0) (fun w => by kernel_rfl) (ss_store [.slice (some (Addr.mk b_6 0 none)) 2 2] 1 (by kernel_rfl) (by kernel_rfl) (fun w => by kernel_rfl) (by kernel_rfl) q74) ?_
                    intro H27 e73
                    replace h := h H27 e73
                    refine ⟨[(1, .slice (some lBA) lN lC), (5, .pointer ra), (7, .slice madeB madeN madeC), (8, .slice allB allN allC), (9, .int .i64 i), (13, .pointer (some (Addr.mk b_2 0 none))), (14, .int .i64 rb_2)], ps (by kernel_rfl), ?_⟩
                    refine N_end (by kernel_rfl) ?_
                    refine S_then ?_
                    exact S_meet (rb_2 : Int) (sb (by kernel_rfl)) h
                  · rw [if_neg c67] at h
                    have b68 : (x_6 == 0) = false := beq_eq_false_iff_ne.mpr c67
                    refine S_env [(1, .slice (some lBA) lN lC), (5, .pointer ra), (7, .slice madeB madeN madeC), (8, .slice allB allN allC), (9, .int .i64 i), (10, .pointer (some (Addr.mk b 0 none))), (11, .int .u64 x_4), (12, .int .u64 x_5), (13, .pointer (some (Addr.mk b_2 0 none))), (14, .int .i64 1), (89, .int .i64 x_6), (90, .bool false)] (by simp only [b68, Bool.not_true, Bool.not_false]) ?_
                    clear b68
                    refine S_condF (.tmp 90) kk61 kk62 (by kernel_rfl) (by kernel_rfl) ?_
                    refine S_seq kk94 kk95 (by kernel_rfl) ?_
                    refine S_region 20 (Code.ops kk94) (by kernel_rfl) ?_
                    refine N_run 2 [(1, .slice (some lBA) lN lC), (5, .pointer ra), (7, .slice madeB madeN madeC), (8, .slice allB allN allC), (9, .int .i64 i), (10, .pointer (some (Addr.mk b 0 none))), (11, .int .u64 x_4), (12, .int .u64 x_5), (13, .pointer (some (Addr.mk b_2 0 none))), (14, .int .i64 1), (89, .int .i64 x_6), (104, .bool (x_6 == 1))] (fun w => by kernel_rfl) ?_
                    refine N_end (by kernel_rfl) ?_
                    refine S_then ?_
                    by_cases c75 : x_6 = 1
                    · rw [if_pos c75] at h
                      have b76 : (x_6 == 1) = true := beq_iff_eq.mpr c75
                      refine S_env [(1, .slice (some lBA) lN lC), (5, .pointer ra), (7, .slice madeB madeN madeC), (8, .slice allB allN allC), (9, .int .i64 i), (10, .pointer (some (Addr.mk b 0 none))), (11, .int .u64 x_4), (12, .int .u64 x_5), (13, .pointer (some (Addr.mk b_2 0 none))), (14, .int .i64 1), (89, .int .i64 x_6), (104, .bool true)] (by simp only [b76, Bool.not_true, Bool.not_false]) ?_
                      clear b76
                      refine S_condT (.tmp 104) kk96 kk97 (by kernel_rfl) (by kernel_rfl) ?_
                      refine S_seq kk98 kk99 (by kernel_rfl) ?_
                      refine S_region 21 (Code.ops kk98) (by kernel_rfl) ?_
                      refine N_run 3 [(1, .slice (some lBA) lN lC), (5, .pointer ra), (7, .slice madeB madeN madeC), (8, .slice allB allN allC), (9, .int .i64 i), (11, .int .u64 x_4), (12, .int .u64 x_5), (13, .pointer (some (Addr.mk b_2 0 none))), (107, .pointer ra), (108, .int .u64 x_4), (109, .int .u64 x_5)] (fun w => by kernel_rfl) ?_
                      refine N_call (some 110) 28 #[.pointer ra, .int .u64 x_4, .int .u64 x_5] (fun w => by kernel_rfl) h ?_; clear h
                      rintro v_8 H28 ⟨ra_3, rb_3, rfl, h⟩
                      refine ⟨[(1, .slice (some lBA) lN lC), (5, .pointer ra), (7, .slice madeB madeN madeC), (8, .slice allB allN allC), (9, .int .i64 i), (11, .int .u64 x_4), (12, .int .u64 x_5), (13, .pointer (some (Addr.mk b_2 0 none))), (110, .tuple #[.int .u64 ra_3, .int .i64 rb_3])], ps (by kernel_rfl), ?_⟩
                      refine N_run 4 [(1, .slice (some lBA) lN lC), (5, .pointer ra), (7, .slice madeB madeN madeC), (8, .slice allB allN allC), (9, .int .i64 i), (11, .int .u64 x_4), (12, .int .u64 x_5), (13, .pointer (some (Addr.mk b_2 0 none))), (111, .int .u64 ra_3), (112, .int .i64 rb_3), (113, .pointer (some (Addr.mk b_2 0 none)))] (fun w => by kernel_rfl) ?_
                      obtain ⟨q78, h⟩ := h
                      refine N_skipop none (storeN 29 (.pointer (some (Addr.mk b_2 0 none))) (.int .u64 ra_3)) (fun Hz => Hz = hputs H28 (Addr.mk b_2 0 none) [.int .u64 ra_3] 0) (fun w => by kernel_rfl) (ss_store [.int .u64 ra_3] 1 (by kernel_rfl) (by kernel_rfl) (fun w => by kernel_rfl) (by kernel_rfl) q78) ?_
                      intro H29 e77
                      replace h := h H29 e77
                      refine ⟨[(1, .slice (some lBA) lN lC), (5, .pointer ra), (7, .slice madeB madeN madeC), (8, .slice allB allN allC), (9, .int .i64 i), (11, .int .u64 x_4), (12, .int .u64 x_5), (13, .pointer (some (Addr.mk b_2 0 none))), (112, .int .i64 rb_3)], ps (by kernel_rfl), ?_⟩
                      refine N_run 1 [(1, .slice (some lBA) lN lC), (5, .pointer ra), (7, .slice madeB madeN madeC), (8, .slice allB allN allC), (9, .int .i64 i), (11, .int .u64 x_4), (12, .int .u64 x_5), (13, .pointer (some (Addr.mk b_2 0 none))), (14, .int .i64 rb_3)] (fun w => by kernel_rfl) ?_
                      refine N_end (by kernel_rfl) ?_
                      refine S_then ?_
                      refine S_region 22 (Code.ops kk99) (by kernel_rfl) ?_
                      refine N_run 2 [(1, .slice (some lBA) lN lC), (5, .pointer ra), (7, .slice madeB madeN madeC), (8, .slice allB allN allC), (9, .int .i64 i), (13, .pointer (some (Addr.mk b_2 0 none))), (14, .int .i64 rb_3), (114, .int .u64 x_4), (115, .int .u64 x_5)] (fun w => by kernel_rfl) ?_
                      refine N_new (some 116) (fun b => .slice (some (Addr.mk b 0 none)) 2 2) (.cells #[.int .u64 x_4, .int .u64 x_5] 29) (fun w => by kernel_rfl) ?_
                      intro b_7 H30 e79 e80
                      replace h := h b_7 H30 e79 e80
                      refine ⟨[(1, .slice (some lBA) lN lC), (5, .pointer ra), (7, .slice madeB madeN madeC), (8, .slice allB allN allC), (9, .int .i64 i), (13, .pointer (some (Addr.mk b_2 0 none))), (14, .int .i64 rb_3), (116, .slice (some (Addr.mk b_7 0 none)) 2 2)], ps (by kernel_rfl), ?_⟩
                      refine N_run 1 [(1, .slice (some lBA) lN lC), (5, .pointer ra), (7, .slice madeB madeN madeC), (8, .slice allB allN allC), (9, .int .i64 i), (13, .pointer (some (Addr.mk b_2 0 none))), (14, .int .i64 rb_3), (116, .slice (some (Addr.mk b_7 0 none)) 2 2), (117, .pointer (some ((Addr.mk b_2 0 none).add 2)))] (fun w => by kernel_rfl) ?_
                      obtain ⟨q82, h⟩ := h
                      refine N_skipop none (storeN 39 (.pointer (some ((Addr.mk b_2 0 none).add 2))) (.slice (some (Addr.mk b_7 0 none)) 2 2)) (fun Hz => Hz = hputs H30 ((Addr.mk b_2 0 none).add 2) [.slice (some (Addr.mk b_7 0 none)) 2 2] 0) (fun w => by kernel_rfl) (ss_store [.slice (some (Addr.mk b_7 0 none)) 2 2] 1 (by kernel_rfl) (by kernel_rfl) (fun w => by kernel_rfl) (by kernel_rfl) q82) ?_
                      intro H31 e81
                      replace h := h H31 e81
                      refine ⟨[(1, .slice (some lBA) lN lC), (5, .pointer ra), (7, .slice madeB madeN madeC), (8, .slice allB allN allC), (9, .int .i64 i), (13, .pointer (some (Addr.mk b_2 0 none))), (14, .int .i64 rb_3)], ps (by kernel_rfl), ?_⟩
                      refine N_end (by kernel_rfl) ?_
                      refine S_then ?_
                      exact S_meet (rb_3 : Int) (sb (by kernel_rfl)) h
                    · rw [if_neg c75] at h
                      have b76 : (x_6 == 1) = false := beq_eq_false_iff_ne.mpr c75
                      refine S_env [(1, .slice (some lBA) lN lC), (5, .pointer ra), (7, .slice madeB madeN madeC), (8, .slice allB allN allC), (9, .int .i64 i), (10, .pointer (some (Addr.mk b 0 none))), (11, .int .u64 x_4), (12, .int .u64 x_5), (13, .pointer (some (Addr.mk b_2 0 none))), (14, .int .i64 1), (89, .int .i64 x_6), (104, .bool false)] (by simp only [b76, Bool.not_true, Bool.not_false]) ?_
                      clear b76
                      refine S_condF (.tmp 104) kk96 kk97 (by kernel_rfl) (by kernel_rfl) ?_
                      refine S_seq kk100 kk101 (by kernel_rfl) ?_
                      refine S_region 23 (Code.ops kk100) (by kernel_rfl) ?_
                      refine N_run 2 [(1, .slice (some lBA) lN lC), (5, .pointer ra), (7, .slice madeB madeN madeC), (8, .slice allB allN allC), (9, .int .i64 i), (10, .pointer (some (Addr.mk b 0 none))), (11, .int .u64 x_4), (12, .int .u64 x_5), (13, .pointer (some (Addr.mk b_2 0 none))), (14, .int .i64 1), (89, .int .i64 x_6), (118, .bool (x_6 == 2))] (fun w => by kernel_rfl) ?_
                      refine N_end (by kernel_rfl) ?_
                      refine S_then ?_
                      by_cases c83 : x_6 = 2
                      · rw [if_pos c83] at h
                        have b84 : (x_6 == 2) = true := beq_iff_eq.mpr c83
                        refine S_env [(1, .slice (some lBA) lN lC), (5, .pointer ra), (7, .slice madeB madeN madeC), (8, .slice allB allN allC), (9, .int .i64 i), (10, .pointer (some (Addr.mk b 0 none))), (11, .int .u64 x_4), (12, .int .u64 x_5), (13, .pointer (some (Addr.mk b_2 0 none))), (14, .int .i64 1), (89, .int .i64 x_6), (118, .bool true)] (by simp only [b84, Bool.not_true, Bool.not_false]) ?_
                        clear b84
                        refine S_condT (.tmp 118) kk102 kk103 (by kernel_rfl) (by kernel_rfl) ?_
                        refine S_seq kk104 kk105 (by kernel_rfl) ?_
                        obtain ⟨x_10, q85, h⟩ := h
                        obtain ⟨xB_2, xN_3, xC_2, q86, h⟩ := h
                        refine S_regionG 24 (Code.ops kk104) [(7, ((Addr.mk b 0 none).add 5), [.int .i64 x_10]), (5, ((Addr.mk b 0 none).add 8), [.slice xB_2 xN_3 xC_2])] 10 #[false, false, false, false, false, false, false, false, false, false] (by kernel_rfl) (by kernel_rfl) (by kernel_rfl) (by kernel_rfl) (by kernel_rfl) (show FactsAt _ _ _ from ⟨⟨q85, trivial⟩, ⟨q86, trivial⟩, trivial⟩) ?_
                        refine G_take 0 (some 120) (.pointer (some ((Addr.mk b 0 none).add 5))) #[true, false, false, false, false, false, false, false, false, false] [(1, .slice (some lBA) lN lC), (5, .pointer ra), (7, .slice madeB madeN madeC), (8, .slice allB allN allC), (9, .int .i64 i), (10, .pointer (some (Addr.mk b 0 none))), (13, .pointer (some (Addr.mk b_2 0 none))), (120, .pointer (some ((Addr.mk b 0 none).add 5)))] ((pure (.value (.pointer (some ((Addr.mk b 0 none).add 5)))) : Sem Next)) (fun w => by kernel_rfl) (fun _ _ _ _ _ => rfl) (by kernel_rfl) (by kernel_rfl) (by kernel_rfl) (by kernel_rfl) (by kernel_rfl) (by kernel_rfl) (ps (by kernel_rfl)) ?_
                        refine G_take 1 (some 121) (.int .i64 x_10) #[true, true, false, false, false, false, false, false, false, false] [(1, .slice (some lBA) lN lC), (5, .pointer ra), (7, .slice madeB madeN madeC), (8, .slice allB allN allC), (9, .int .i64 i), (10, .pointer (some (Addr.mk b 0 none))), (13, .pointer (some (Addr.mk b_2 0 none))), (121, .int .i64 x_10)] (loadN 3 (.pointer (some ((Addr.mk b 0 none).add 5)))) (fun w => by kernel_rfl) (held_one 7 (fun w => by kernel_rfl) (List.Mem.head _) (.inl (by kernel_rfl))) (by kernel_rfl) (by kernel_rfl) (by kernel_rfl) (by kernel_rfl) (by kernel_rfl) (by kernel_rfl) (ps (by kernel_rfl)) ?_
                        refine G_take 2 (some 122) (.pointer (some ((Addr.mk b 0 none).add 8))) #[true, true, true, false, false, false, false, false, false, false] [(1, .slice (some lBA) lN lC), (5, .pointer ra), (7, .slice madeB madeN madeC), (8, .slice allB allN allC), (9, .int .i64 i), (10, .pointer (some (Addr.mk b 0 none))), (13, .pointer (some (Addr.mk b_2 0 none))), (121, .int .i64 x_10), (122, .pointer (some ((Addr.mk b 0 none).add 8)))] ((pure (.value (.pointer (some ((Addr.mk b 0 none).add 8)))) : Sem Next)) (fun w => by kernel_rfl) (fun _ _ _ _ _ => rfl) (by kernel_rfl) (by kernel_rfl) (by kernel_rfl) (by kernel_rfl) (by kernel_rfl) (by kernel_rfl) (ps (by kernel_rfl)) ?_
                        refine G_take 3 (some 123) (.slice xB_2 xN_3 xC_2) #[true, true, true, true, false, false, false, false, false, false] [(1, .slice (some lBA) lN lC), (5, .pointer ra), (7, .slice madeB madeN madeC), (8, .slice allB allN allC), (9, .int .i64 i), (10, .pointer (some (Addr.mk b 0 none))), (13, .pointer (some (Addr.mk b_2 0 none))), (121, .int .i64 x_10), (123, .slice xB_2 xN_3 xC_2)] (loadN 68 (.pointer (some ((Addr.mk b 0 none).add 8)))) (fun w => by kernel_rfl) (held_one 5 (fun w => by kernel_rfl) (List.Mem.tail _ (List.Mem.head _)) (.inl (by kernel_rfl))) (by kernel_rfl) (by kernel_rfl) (by kernel_rfl) (by kernel_rfl) (by kernel_rfl) (by kernel_rfl) (ps (by kernel_rfl)) ?_
                        refine G_take 4 (some 124) (.slice madeB madeN madeC) #[true, true, true, true, true, false, false, false, false, false] [(1, .slice (some lBA) lN lC), (5, .pointer ra), (7, .slice madeB madeN madeC), (8, .slice allB allN allC), (9, .int .i64 i), (10, .pointer (some (Addr.mk b 0 none))), (13, .pointer (some (Addr.mk b_2 0 none))), (121, .int .i64 x_10), (123, .slice xB_2 xN_3 xC_2), (124, .slice madeB madeN madeC)] ((pure (.value (.slice madeB madeN madeC)) : Sem Next)) (fun w => by kernel_rfl) (fun _ _ _ _ _ => rfl) (by kernel_rfl) (by kernel_rfl) (by kernel_rfl) (by kernel_rfl) (by kernel_rfl) (by kernel_rfl) (ps (by kernel_rfl)) ?_
                        refine G_take 6 (some 126) (.pointer (some ((Addr.mk b_2 0 none).add 1))) #[true, true, true, true, true, false, true, false, false, false] [(1, .slice (some lBA) lN lC), (5, .pointer ra), (7, .slice madeB madeN madeC), (8, .slice allB allN allC), (9, .int .i64 i), (10, .pointer (some (Addr.mk b 0 none))), (13, .pointer (some (Addr.mk b_2 0 none))), (121, .int .i64 x_10), (123, .slice xB_2 xN_3 xC_2), (124, .slice madeB madeN madeC), (126, .pointer (some ((Addr.mk b_2 0 none).add 1)))] ((pure (.value (.pointer (some ((Addr.mk b_2 0 none).add 1)))) : Sem Next)) (fun w => by kernel_rfl) (fun _ _ _ _ _ => rfl) (by kernel_rfl) (by kernel_rfl) (by kernel_rfl) (by kernel_rfl) (by kernel_rfl) (by kernel_rfl) (ps (by kernel_rfl)) ?_
                        refine G_call 5 (some 125) #[true, true, true, true, true, true, true, false, false, false] 29 #[.slice xB_2 xN_3 xC_2, .slice madeB madeN madeC] (by kernel_rfl) (fun w => by kernel_rfl) h (by kernel_rfl) ?_; clear h
                        rintro v_9 H32 ⟨xB_3, xN_4, xC_3, rfl, h⟩
                        obtain ⟨f87, h⟩ := h
                        refine ⟨[(1, .slice (some lBA) lN lC), (5, .pointer ra), (7, .slice madeB madeN madeC), (8, .slice allB allN allC), (9, .int .i64 i), (10, .pointer (some (Addr.mk b 0 none))), (13, .pointer (some (Addr.mk b_2 0 none))), (121, .int .i64 x_10), (125, .slice xB_3 xN_4 xC_3), (126, .pointer (some ((Addr.mk b_2 0 none).add 1)))], ps (by kernel_rfl), (show FactsAt _ _ _ from ⟨f87, trivial, trivial⟩), ?_⟩
                        obtain ⟨q89, h⟩ := h
                        refine G_onlyskip 7 none #[true, true, true, true, true, true, true, true, false, false] (storeN 3 (.pointer (some ((Addr.mk b_2 0 none).add 1))) (.int .i64 x_10)) (fun Hz => Hz = hputs H32 ((Addr.mk b_2 0 none).add 1) [.int .i64 x_10] 0) (by kernel_rfl) (fun w => by kernel_rfl) (ss_store [.int .i64 x_10] 1 (by kernel_rfl) (by kernel_rfl) (fun w => by kernel_rfl) (by kernel_rfl) q89) (by kernel_rfl) ?_
                        intro H33 e88
                        replace h := h H33 e88
                        refine ⟨[(1, .slice (some lBA) lN lC), (5, .pointer ra), (7, .slice madeB madeN madeC), (8, .slice allB allN allC), (9, .int .i64 i), (10, .pointer (some (Addr.mk b 0 none))), (13, .pointer (some (Addr.mk b_2 0 none))), (125, .slice xB_3 xN_4 xC_3)], ps (by kernel_rfl), (show FactsAt _ _ _ from ⟨trivial, trivial, trivial⟩), ?_⟩
                        refine G_take 8 (some 127) (.pointer (some ((Addr.mk b_2 0 none).add 2))) #[true, true, true, true, true, true, true, true, true, false] [(1, .slice (some lBA) lN lC), (5, .pointer ra), (7, .slice madeB madeN madeC), (8, .slice allB allN allC), (9, .int .i64 i), (10, .pointer (some (Addr.mk b 0 none))), (13, .pointer (some (Addr.mk b_2 0 none))), (125, .slice xB_3 xN_4 xC_3), (127, .pointer (some ((Addr.mk b_2 0 none).add 2)))] (pure (.value (.pointer (some ((Addr.mk b_2 0 none).add 2)))) : Sem Next) (fun w => by kernel_rfl) (fun _ _ _ _ _ => rfl) (by kernel_rfl) (by kernel_rfl) (by kernel_rfl) (by kernel_rfl) (by kernel_rfl) (by kernel_rfl) (ps (by kernel_rfl)) ?_
                        obtain ⟨q91, h⟩ := h
                        refine G_onlyskip 9 none #[true, true, true, true, true, true, true, true, true, true] (storeN 39 (.pointer (some ((Addr.mk b_2 0 none).add 2))) (.slice xB_3 xN_4 xC_3)) (fun Hz => Hz = hputs H33 ((Addr.mk b_2 0 none).add 2) [.slice xB_3 xN_4 xC_3] 0) (by kernel_rfl) (fun w => by kernel_rfl) (ss_store [.slice xB_3 xN_4 xC_3] 1 (by kernel_rfl) (by kernel_rfl) (fun w => by kernel_rfl) (by kernel_rfl) q91) (by kernel_rfl) ?_
                        intro H34 e90
                        replace h := h H34 e90
                        refine ⟨[(1, .slice (some lBA) lN lC), (5, .pointer ra), (7, .slice madeB madeN madeC), (8, .slice allB allN allC), (9, .int .i64 i), (10, .pointer (some (Addr.mk b 0 none))), (13, .pointer (some (Addr.mk b_2 0 none)))], ps (by kernel_rfl), (show FactsAt _ _ _ from ⟨trivial, trivial, trivial⟩), ?_⟩
                        refine G_sub [(1, .slice (some lBA) lN lC), (5, .pointer ra), (7, .slice madeB madeN madeC), (8, .slice allB allN allC), (9, .int .i64 i), (10, .pointer (some (Addr.mk b 0 none))), (13, .pointer (some (Addr.mk b_2 0 none)))] (sb (by kernel_rfl)) ?_
                        refine G_end (by kernel_rfl) ?_
                        refine S_then ?_
                        refine S_region 25 (Code.ops kk105) (by kernel_rfl) ?_
                        refine N_run 2 [(1, .slice (some lBA) lN lC), (5, .pointer ra), (7, .slice madeB madeN madeC), (8, .slice allB allN allC), (9, .int .i64 i), (10, .pointer (some (Addr.mk b 0 none))), (13, .pointer (some (Addr.mk b_2 0 none))), (129, .pointer ra), (130, .pointer (some ((Addr.mk b 0 none).add 5)))] (fun w => by kernel_rfl) ?_
                        obtain ⟨x_11, q92, h⟩ := h
                        refine N_val (some 131) (loadN 3 (.pointer (some ((Addr.mk b 0 none).add 5)))) (.int .i64 x_11) (fun w => by kernel_rfl) (loadN_run (loadOK_one (fun w => by kernel_rfl) q92)) [(1, .slice (some lBA) lN lC), (5, .pointer ra), (7, .slice madeB madeN madeC), (8, .slice allB allN allC), (9, .int .i64 i), (10, .pointer (some (Addr.mk b 0 none))), (13, .pointer (some (Addr.mk b_2 0 none))), (129, .pointer ra), (131, .int .i64 x_11)] (ps (by kernel_rfl)) ?_
                        refine N_run 1 [(1, .slice (some lBA) lN lC), (5, .pointer ra), (7, .slice madeB madeN madeC), (8, .slice allB allN allC), (9, .int .i64 i), (13, .pointer (some (Addr.mk b_2 0 none))), (129, .pointer ra), (131, .int .i64 x_11), (132, .pointer (some ((Addr.mk b 0 none).add 7)))] (fun w => by kernel_rfl) ?_
                        obtain ⟨x_12, q93, h⟩ := h
                        refine N_val (some 133) (loadN 28 (.pointer (some ((Addr.mk b 0 none).add 7)))) (.int .u64 x_12) (fun w => by kernel_rfl) (loadN_run (loadOK_one (fun w => by kernel_rfl) q93)) [(1, .slice (some lBA) lN lC), (5, .pointer ra), (7, .slice madeB madeN madeC), (8, .slice allB allN allC), (9, .int .i64 i), (13, .pointer (some (Addr.mk b_2 0 none))), (129, .pointer ra), (131, .int .i64 x_11), (133, .int .u64 x_12)] (ps (by kernel_rfl)) ?_
                        refine N_run 1 [(1, .slice (some lBA) lN lC), (5, .pointer ra), (7, .slice madeB madeN madeC), (8, .slice allB allN allC), (9, .int .i64 i), (13, .pointer (some (Addr.mk b_2 0 none))), (129, .pointer ra), (131, .int .i64 x_11), (133, .int .u64 x_12), (134, .pointer (some ((Addr.mk b_2 0 none).add 2)))] (fun w => by kernel_rfl) ?_
                        obtain ⟨xB_4, xN_5, xC_4, q94, h⟩ := h
                        refine N_val (some 135) (loadN 39 (.pointer (some ((Addr.mk b_2 0 none).add 2)))) (.slice xB_4 xN_5 xC_4) (fun w => by kernel_rfl) (loadN_run (loadOK_one (fun w => by kernel_rfl) q94)) [(1, .slice (some lBA) lN lC), (5, .pointer ra), (7, .slice madeB madeN madeC), (8, .slice allB allN allC), (9, .int .i64 i), (13, .pointer (some (Addr.mk b_2 0 none))), (129, .pointer ra), (131, .int .i64 x_11), (133, .int .u64 x_12), (135, .slice xB_4 xN_5 xC_4)] (ps (by kernel_rfl)) ?_
                        refine N_call (some 136) 30 #[.pointer ra, .int .i64 x_11, .int .u64 x_12, .slice xB_4 xN_5 xC_4] (fun w => by kernel_rfl) h ?_; clear h
                        rintro v_10 H35 ⟨ra_4, rb_4, rfl, h⟩
                        refine ⟨[(1, .slice (some lBA) lN lC), (5, .pointer ra), (7, .slice madeB madeN madeC), (8, .slice allB allN allC), (9, .int .i64 i), (13, .pointer (some (Addr.mk b_2 0 none))), (136, .tuple #[.int .u64 ra_4, .int .i64 rb_4])], ps (by kernel_rfl), ?_⟩
                        refine N_run 4 [(1, .slice (some lBA) lN lC), (5, .pointer ra), (7, .slice madeB madeN madeC), (8, .slice allB allN allC), (9, .int .i64 i), (13, .pointer (some (Addr.mk b_2 0 none))), (137, .int .u64 ra_4), (138, .int .i64 rb_4), (139, .pointer (some (Addr.mk b_2 0 none)))] (fun w => by kernel_rfl) ?_
                        obtain ⟨q96, h⟩ := h
                        refine N_skipop none (storeN 29 (.pointer (some (Addr.mk b_2 0 none))) (.int .u64 ra_4)) (fun Hz => Hz = hputs H35 (Addr.mk b_2 0 none) [.int .u64 ra_4] 0) (fun w => by kernel_rfl) (ss_store [.int .u64 ra_4] 1 (by kernel_rfl) (by kernel_rfl) (fun w => by kernel_rfl) (by kernel_rfl) q96) ?_
                        intro H36 e95
                        replace h := h H36 e95
                        refine ⟨[(1, .slice (some lBA) lN lC), (5, .pointer ra), (7, .slice madeB madeN madeC), (8, .slice allB allN allC), (9, .int .i64 i), (13, .pointer (some (Addr.mk b_2 0 none))), (138, .int .i64 rb_4)], ps (by kernel_rfl), ?_⟩
                        refine N_run 1 [(1, .slice (some lBA) lN lC), (5, .pointer ra), (7, .slice madeB madeN madeC), (8, .slice allB allN allC), (9, .int .i64 i), (13, .pointer (some (Addr.mk b_2 0 none))), (14, .int .i64 rb_4)] (fun w => by kernel_rfl) ?_
                        refine N_end (by kernel_rfl) ?_
                        refine S_then ?_
                        exact S_meet (rb_4 : Int) (sb (by kernel_rfl)) h
                      · rw [if_neg c83] at h
                        have b84 : (x_6 == 2) = false := beq_eq_false_iff_ne.mpr c83
                        refine S_env [(1, .slice (some lBA) lN lC), (5, .pointer ra), (7, .slice madeB madeN madeC), (8, .slice allB allN allC), (9, .int .i64 i), (10, .pointer (some (Addr.mk b 0 none))), (11, .int .u64 x_4), (12, .int .u64 x_5), (13, .pointer (some (Addr.mk b_2 0 none))), (14, .int .i64 1), (89, .int .i64 x_6), (118, .bool false)] (by simp only [b84, Bool.not_true, Bool.not_false]) ?_
                        clear b84
                        refine S_condF (.tmp 118) kk102 kk103 (by kernel_rfl) (by kernel_rfl) ?_
                        refine S_seq kk106 kk107 (by kernel_rfl) ?_
                        refine S_seq kk108 kk109 (by kernel_rfl) ?_
                        refine S_region 26 (Code.ops kk108) (by kernel_rfl) ?_
                        refine N_run 2 [(1, .slice (some lBA) lN lC), (5, .pointer ra), (7, .slice madeB madeN madeC), (8, .slice allB allN allC), (9, .int .i64 i), (10, .pointer (some (Addr.mk b 0 none))), (11, .int .u64 x_4), (12, .int .u64 x_5), (13, .pointer (some (Addr.mk b_2 0 none))), (14, .int .i64 1), (89, .int .i64 x_6), (140, .bool (x_6 == 6))] (fun w => by kernel_rfl) ?_
                        refine N_end (by kernel_rfl) ?_
                        refine S_then ?_
                        obtain ⟨J_5, h, j98⟩ := h
                        refine S_join (σ := Bool) (fun s_ => [(1, .slice (some lBA) lN lC), (5, .pointer ra), (7, .slice madeB madeN madeC), (8, .slice allB allN allC), (9, .int .i64 i), (10, .pointer (some (Addr.mk b 0 none))), (11, .int .u64 x_4), (12, .int .u64 x_5), (13, .pointer (some (Addr.mk b_2 0 none))), (14, .int .i64 1), (89, .int .i64 x_6), (140, .bool s_)]) (fun s_ H => J_5 s_ H) ?_ ?_
                        · rintro s140 H37 j99
                          replace h := j98 s140 H37 j99
                          refine S_sub [(1, .slice (some lBA) lN lC), (5, .pointer ra), (7, .slice madeB madeN madeC), (8, .slice allB allN allC), (9, .int .i64 i), (10, .pointer (some (Addr.mk b 0 none))), (11, .int .u64 x_4), (12, .int .u64 x_5), (13, .pointer (some (Addr.mk b_2 0 none))), (14, .int .i64 1), (89, .int .i64 x_6), (140, .bool s140)] (sb (by kernel_rfl)) ?_
                          refine S_then ?_
                          by_cases c100 : s140 = true
                          · rw [if_pos c100] at h
                            have b101 : s140 = true := c100
                            refine S_env [(1, .slice (some lBA) lN lC), (5, .pointer ra), (7, .slice madeB madeN madeC), (8, .slice allB allN allC), (9, .int .i64 i), (10, .pointer (some (Addr.mk b 0 none))), (11, .int .u64 x_4), (12, .int .u64 x_5), (13, .pointer (some (Addr.mk b_2 0 none))), (14, .int .i64 1), (89, .int .i64 x_6), (140, .bool true)] (by simp only [b101, Bool.not_true, Bool.not_false]) ?_
                            clear b101
                            refine S_condT (.tmp 140) kk112 kk113 (by kernel_rfl) (by kernel_rfl) ?_
                            refine S_seq kk114 kk115 (by kernel_rfl) ?_
                            refine S_region 28 (Code.ops kk114) (by kernel_rfl) ?_
                            refine N_run 2 [(1, .slice (some lBA) lN lC), (5, .pointer ra), (7, .slice madeB madeN madeC), (8, .slice allB allN allC), (9, .int .i64 i), (10, .pointer (some (Addr.mk b 0 none))), (11, .int .u64 x_4), (12, .int .u64 x_5), (13, .pointer (some (Addr.mk b_2 0 none))), (14, .int .i64 1), (143, .pointer ra), (144, .pointer (some (Addr.mk b 0 none)))] (fun w => by kernel_rfl) ?_
                            obtain ⟨x_13, q102, h⟩ := h
                            refine N_val (some 145) (loadN 3 (.pointer (some (Addr.mk b 0 none)))) (.int .i64 x_13) (fun w => by kernel_rfl) (loadN_run (loadOK_one (fun w => by kernel_rfl) q102)) [(1, .slice (some lBA) lN lC), (5, .pointer ra), (7, .slice madeB madeN madeC), (8, .slice allB allN allC), (9, .int .i64 i), (10, .pointer (some (Addr.mk b 0 none))), (11, .int .u64 x_4), (12, .int .u64 x_5), (13, .pointer (some (Addr.mk b_2 0 none))), (14, .int .i64 1), (143, .pointer ra), (145, .int .i64 x_13)] (ps (by kernel_rfl)) ?_
                            refine N_run 2 [(1, .slice (some lBA) lN lC), (5, .pointer ra), (7, .slice madeB madeN madeC), (8, .slice allB allN allC), (9, .int .i64 i), (10, .pointer (some (Addr.mk b 0 none))), (11, .int .u64 x_4), (12, .int .u64 x_5), (13, .pointer (some (Addr.mk b_2 0 none))), (14, .int .i64 1), (143, .pointer ra), (145, .int .i64 x_13), (146, .int .u64 x_4), (147, .int .u64 x_5)] (fun w => by kernel_rfl) ?_
                            refine N_call (some 148) 31 #[.pointer ra, .int .i64 x_13, .int .u64 x_4, .int .u64 x_5] (fun w => by kernel_rfl) h ?_; clear h
                            rintro v_11 H38 ⟨x_14, rfl, h⟩
                            refine ⟨[(1, .slice (some lBA) lN lC), (5, .pointer ra), (7, .slice madeB madeN madeC), (8, .slice allB allN allC), (9, .int .i64 i), (10, .pointer (some (Addr.mk b 0 none))), (11, .int .u64 x_4), (12, .int .u64 x_5), (13, .pointer (some (Addr.mk b_2 0 none))), (14, .int .i64 1), (148, .int .i64 x_14)], ps (by kernel_rfl), ?_⟩
                            refine N_run 1 [(1, .slice (some lBA) lN lC), (5, .pointer ra), (7, .slice madeB madeN madeC), (8, .slice allB allN allC), (9, .int .i64 i), (10, .pointer (some (Addr.mk b 0 none))), (11, .int .u64 x_4), (12, .int .u64 x_5), (13, .pointer (some (Addr.mk b_2 0 none))), (14, .int .i64 1), (15, .int .i64 x_14)] (fun w => by kernel_rfl) ?_
                            refine N_end (by kernel_rfl) ?_
                            refine S_then ?_
                            refine S_seq kk116 kk117 (by kernel_rfl) ?_
                            refine S_region 29 (Code.ops kk116) (by kernel_rfl) ?_
                            refine N_run 1 [(1, .slice (some lBA) lN lC), (5, .pointer ra), (7, .slice madeB madeN madeC), (8, .slice allB allN allC), (9, .int .i64 i), (10, .pointer (some (Addr.mk b 0 none))), (11, .int .u64 x_4), (12, .int .u64 x_5), (13, .pointer (some (Addr.mk b_2 0 none))), (14, .int .i64 1), (15, .int .i64 x_14), (16, .int .i64 0)] (fun w => by kernel_rfl) ?_
                            refine N_end (by kernel_rfl) ?_
                            refine S_then ?_
                            refine S_block 3 kk118 (by kernel_rfl) ?_
                            obtain ⟨I120, m120, i103, i104⟩ := h
                            refine S_loop (x := kk119) (σ := Int) (fun s_ => [(1, .slice (some lBA) lN lC), (5, .pointer ra), (7, .slice madeB madeN madeC), (8, .slice allB allN allC), (9, .int .i64 i), (10, .pointer (some (Addr.mk b 0 none))), (11, .int .u64 x_4), (12, .int .u64 x_5), (13, .pointer (some (Addr.mk b_2 0 none))), (14, .int .i64 1), (15, .int .i64 x_14), (16, .int .i64 s_)]) (fun s_ H => I120 s_ H) (fun s_ H => m120 s_ H) (0 : Int) (by kernel_rfl) i103 (sb (by kernel_rfl)) ?_
                            rintro k_2 H39 i105
                            have h := i104 k_2 H39 i105
                            refine S_sub [(1, .slice (some lBA) lN lC), (5, .pointer ra), (7, .slice madeB madeN madeC), (8, .slice allB allN allC), (9, .int .i64 i), (10, .pointer (some (Addr.mk b 0 none))), (11, .int .u64 x_4), (12, .int .u64 x_5), (13, .pointer (some (Addr.mk b_2 0 none))), (14, .int .i64 1), (15, .int .i64 x_14), (16, .int .i64 k_2)] (sb (by kernel_rfl)) ?_
                            refine S_seq kk120 kk121 (by kernel_rfl) ?_
                            refine S_seq kk122 kk123 (by kernel_rfl) ?_
                            refine S_region 30 (Code.ops kk122) (by kernel_rfl) ?_
                            refine N_cut [(1, .slice (some lBA) lN lC), (5, .pointer ra), (7, .slice madeB madeN madeC), (8, .slice allB allN allC), (9, .int .i64 i), (10, .pointer (some (Addr.mk b 0 none))), (11, .int .u64 x_4), (12, .int .u64 x_5), (13, .pointer (some (Addr.mk b_2 0 none))), (14, .int .i64 1), (15, .int .i64 x_14), (16, .int .i64 k_2), (156, .bool ((decide (k_2 < (allN : Int))) && (x_14 == 0)))] ?_ ?_
                            · refine S_then ?_
                              by_cases c108 : ((decide (k_2 < (allN : Int))) && (x_14 == 0)) = true
                              · rw [if_pos c108] at h
                                have b109 : ((decide (k_2 < (allN : Int))) && (x_14 == 0)) = true := c108
                                refine S_env [(1, .slice (some lBA) lN lC), (5, .pointer ra), (7, .slice madeB madeN madeC), (8, .slice allB allN allC), (9, .int .i64 i), (10, .pointer (some (Addr.mk b 0 none))), (11, .int .u64 x_4), (12, .int .u64 x_5), (13, .pointer (some (Addr.mk b_2 0 none))), (14, .int .i64 1), (15, .int .i64 x_14), (16, .int .i64 k_2), (156, .bool true)] (by simp only [b109, Bool.not_true, Bool.not_false]) ?_
                                clear b109
                                refine S_condT (.tmp 156) kk124 kk125 (by kernel_rfl) (by kernel_rfl) ?_
                                refine S_skip (by kernel_rfl) ?_
                                refine S_then ?_
                                refine S_seq kk126 kk127 (by kernel_rfl) ?_
                                refine S_block 4 kk128 (by kernel_rfl) ?_
                                refine S_seq kk129 kk130 (by kernel_rfl) ?_
                                refine S_region 32 (Code.ops kk129) (by kernel_rfl) ?_
                                refine N_run 2 [(1, .slice (some lBA) lN lC), (5, .pointer ra), (7, .slice madeB madeN madeC), (8, .slice allB allN allC), (9, .int .i64 i), (10, .pointer (some (Addr.mk b 0 none))), (11, .int .u64 x_4), (12, .int .u64 x_5), (13, .pointer (some (Addr.mk b_2 0 none))), (14, .int .i64 1), (15, .int .i64 x_14), (16, .int .i64 k_2), (159, .slice allB allN allC), (160, .int .i64 k_2)] (fun w => by kernel_rfl) ?_
                                obtain ⟨allBA_2, rfl, h⟩ := h
                                obtain ⟨q110, h⟩ := h
                                refine N_val (some 161) (indexAtN 65 (.slice (some allBA_2) allN allC) (.int .i64 k_2)) (.pointer (some (allBA_2.add (Int.toNat k_2 * 3)))) (fun w => by kernel_rfl) (fun w _ => indexAt_run (P := Try.prog) (t := 65) (elem := 75) (sz := 3) (a := allBA_2) (len := allN) (cap := allC) (k := .i64) (i := k_2) Try.underlying65 (fun w => by kernel_rfl) q110.1 q110.2 w) [(1, .slice (some lBA) lN lC), (5, .pointer ra), (7, .slice madeB madeN madeC), (8, .slice (some allBA_2) allN allC), (9, .int .i64 i), (10, .pointer (some (Addr.mk b 0 none))), (11, .int .u64 x_4), (12, .int .u64 x_5), (13, .pointer (some (Addr.mk b_2 0 none))), (14, .int .i64 1), (15, .int .i64 x_14), (16, .int .i64 k_2), (161, .pointer (some (allBA_2.add (Int.toNat k_2 * 3))))] (ps (by kernel_rfl)) ?_
                                refine N_run 1 [(1, .slice (some lBA) lN lC), (5, .pointer ra), (7, .slice madeB madeN madeC), (8, .slice (some allBA_2) allN allC), (9, .int .i64 i), (10, .pointer (some (Addr.mk b 0 none))), (11, .int .u64 x_4), (12, .int .u64 x_5), (13, .pointer (some (Addr.mk b_2 0 none))), (14, .int .i64 1), (15, .int .i64 x_14), (16, .int .i64 k_2), (162, .pointer (some (allBA_2.add (Int.toNat k_2 * 3))))] (fun w => by kernel_rfl) ?_
                                obtain ⟨x_15, q111, h⟩ := h
                                refine N_val (some 163) (loadN 29 (.pointer (some (allBA_2.add (Int.toNat k_2 * 3))))) (.int .u64 x_15) (fun w => by kernel_rfl) (loadN_run (loadOK_one (fun w => by kernel_rfl) q111)) [(1, .slice (some lBA) lN lC), (5, .pointer ra), (7, .slice madeB madeN madeC), (8, .slice (some allBA_2) allN allC), (9, .int .i64 i), (10, .pointer (some (Addr.mk b 0 none))), (11, .int .u64 x_4), (12, .int .u64 x_5), (13, .pointer (some (Addr.mk b_2 0 none))), (14, .int .i64 1), (15, .int .i64 x_14), (16, .int .i64 k_2), (163, .int .u64 x_15)] (ps (by kernel_rfl)) ?_
                                refine N_run 2 [(1, .slice (some lBA) lN lC), (5, .pointer ra), (7, .slice madeB madeN madeC), (8, .slice (some allBA_2) allN allC), (9, .int .i64 i), (10, .pointer (some (Addr.mk b 0 none))), (11, .int .u64 x_4), (12, .int .u64 x_5), (13, .pointer (some (Addr.mk b_2 0 none))), (14, .int .i64 1), (15, .int .i64 x_14), (16, .int .i64 k_2), (165, .bool (x_15 == x_4))] (fun w => by kernel_rfl) ?_
                                refine N_end (by kernel_rfl) ?_
                                refine S_then ?_
                                by_cases c112 : x_15 = x_4
                                · rw [if_pos c112] at h
                                  have b113 : (x_15 == x_4) = true := beq_iff_eq.mpr c112
                                  refine S_env [(1, .slice (some lBA) lN lC), (5, .pointer ra), (7, .slice madeB madeN madeC), (8, .slice (some allBA_2) allN allC), (9, .int .i64 i), (10, .pointer (some (Addr.mk b 0 none))), (11, .int .u64 x_4), (12, .int .u64 x_5), (13, .pointer (some (Addr.mk b_2 0 none))), (14, .int .i64 1), (15, .int .i64 x_14), (16, .int .i64 k_2), (165, .bool true)] (by simp only [b113, Bool.not_true, Bool.not_false]) ?_
                                  clear b113
                                  refine S_condT (.tmp 165) kk131 kk132 (by kernel_rfl) (by kernel_rfl) ?_
                                  obtain ⟨q114, h⟩ := h
                                  obtain ⟨xB_5, xN_6, xC_5, q115, h⟩ := h
                                  obtain ⟨x_16, q116, h⟩ := h
                                  obtain ⟨xB5A, rfl, h⟩ := h
                                  obtain ⟨q117, h⟩ := h
                                  refine S_regionG 33 (Code.ops kk131) [(10, ((allBA_2.add (Int.toNat k_2 * 3)).add 2), [.slice (some xB5A) xN_6 xC_5]), (10, (Addr.mk b 0 none), [.int .i64 x_16])] 11 #[false, false, false, false, false, false, false, false, false, false, false] (by kernel_rfl) (by kernel_rfl) (by kernel_rfl) (by kernel_rfl) (by kernel_rfl) (show FactsAt _ _ _ from ⟨⟨q115, trivial⟩, ⟨q116, trivial⟩, trivial⟩) ?_
                                  refine G_take 0 (some 166) (.slice (some allBA_2) allN allC) #[true, false, false, false, false, false, false, false, false, false, false] [(1, .slice (some lBA) lN lC), (5, .pointer ra), (7, .slice madeB madeN madeC), (8, .slice (some allBA_2) allN allC), (9, .int .i64 i), (10, .pointer (some (Addr.mk b 0 none))), (11, .int .u64 x_4), (12, .int .u64 x_5), (13, .pointer (some (Addr.mk b_2 0 none))), (14, .int .i64 1), (15, .int .i64 x_14), (16, .int .i64 k_2), (166, .slice (some allBA_2) allN allC)] ((pure (.value (.slice (some allBA_2) allN allC)) : Sem Next)) (fun w => by kernel_rfl) (fun _ _ _ _ _ => rfl) (by kernel_rfl) (by kernel_rfl) (by kernel_rfl) (by kernel_rfl) (by kernel_rfl) (by kernel_rfl) (ps (by kernel_rfl)) ?_
                                  refine G_take 1 (some 167) (.int .i64 k_2) #[true, true, false, false, false, false, false, false, false, false, false] [(1, .slice (some lBA) lN lC), (5, .pointer ra), (7, .slice madeB madeN madeC), (8, .slice (some allBA_2) allN allC), (9, .int .i64 i), (10, .pointer (some (Addr.mk b 0 none))), (11, .int .u64 x_4), (12, .int .u64 x_5), (13, .pointer (some (Addr.mk b_2 0 none))), (14, .int .i64 1), (15, .int .i64 x_14), (16, .int .i64 k_2), (166, .slice (some allBA_2) allN allC), (167, .int .i64 k_2)] ((pure (.value (.int .i64 k_2)) : Sem Next)) (fun w => by kernel_rfl) (fun _ _ _ _ _ => rfl) (by kernel_rfl) (by kernel_rfl) (by kernel_rfl) (by kernel_rfl) (by kernel_rfl) (by kernel_rfl) (ps (by kernel_rfl)) ?_
                                  refine G_take 2 (some 168) (.pointer (some (allBA_2.add (Int.toNat k_2 * 3)))) #[true, true, true, false, false, false, false, false, false, false, false] [(1, .slice (some lBA) lN lC), (5, .pointer ra), (7, .slice madeB madeN madeC), (8, .slice (some allBA_2) allN allC), (9, .int .i64 i), (10, .pointer (some (Addr.mk b 0 none))), (11, .int .u64 x_4), (12, .int .u64 x_5), (13, .pointer (some (Addr.mk b_2 0 none))), (14, .int .i64 1), (15, .int .i64 x_14), (16, .int .i64 k_2), (168, .pointer (some (allBA_2.add (Int.toNat k_2 * 3))))] (indexAtN 65 (.slice (some allBA_2) allN allC) (.int .i64 k_2)) (fun w => by kernel_rfl) (fun _ w _ _ _ => indexAt_run (P := Try.prog) (t := 65) (elem := 75) (sz := 3) (a := allBA_2) (len := allN) (cap := allC) (k := .i64) (i := k_2) Try.underlying65 (fun w => by kernel_rfl) q114.1 q114.2 w) (by kernel_rfl) (by kernel_rfl) (by kernel_rfl) (by kernel_rfl) (by kernel_rfl) (by kernel_rfl) (ps (by kernel_rfl)) ?_
                                  refine G_take 3 (some 169) (.pointer (some ((allBA_2.add (Int.toNat k_2 * 3)).add 2))) #[true, true, true, true, false, false, false, false, false, false, false] [(1, .slice (some lBA) lN lC), (5, .pointer ra), (7, .slice madeB madeN madeC), (8, .slice (some allBA_2) allN allC), (9, .int .i64 i), (10, .pointer (some (Addr.mk b 0 none))), (11, .int .u64 x_4), (12, .int .u64 x_5), (13, .pointer (some (Addr.mk b_2 0 none))), (14, .int .i64 1), (15, .int .i64 x_14), (16, .int .i64 k_2), (169, .pointer (some ((allBA_2.add (Int.toNat k_2 * 3)).add 2)))] ((pure (.value (.pointer (some ((allBA_2.add (Int.toNat k_2 * 3)).add 2)))) : Sem Next)) (fun w => by kernel_rfl) (fun _ _ _ _ _ => rfl) (by kernel_rfl) (by kernel_rfl) (by kernel_rfl) (by kernel_rfl) (by kernel_rfl) (by kernel_rfl) (ps (by kernel_rfl)) ?_
                                  refine G_take 4 (some 170) (.slice (some xB5A) xN_6 xC_5) #[true, true, true, true, true, false, false, false, false, false, false] [(1, .slice (some lBA) lN lC), (5, .pointer ra), (7, .slice madeB madeN madeC), (8, .slice (some allBA_2) allN allC), (9, .int .i64 i), (10, .pointer (some (Addr.mk b 0 none))), (11, .int .u64 x_4), (12, .int .u64 x_5), (13, .pointer (some (Addr.mk b_2 0 none))), (14, .int .i64 1), (15, .int .i64 x_14), (16, .int .i64 k_2), (170, .slice (some xB5A) xN_6 xC_5)] (loadN 39 (.pointer (some ((allBA_2.add (Int.toNat k_2 * 3)).add 2)))) (fun w => by kernel_rfl) (held_one 10 (fun w => by kernel_rfl) (List.Mem.head _) (.inl (by kernel_rfl))) (by kernel_rfl) (by kernel_rfl) (by kernel_rfl) (by kernel_rfl) (by kernel_rfl) (by kernel_rfl) (ps (by kernel_rfl)) ?_
                                  refine G_take 5 (some 171) (.pointer (some (Addr.mk b 0 none))) #[true, true, true, true, true, true, false, false, false, false, false] [(1, .slice (some lBA) lN lC), (5, .pointer ra), (7, .slice madeB madeN madeC), (8, .slice (some allBA_2) allN allC), (9, .int .i64 i), (10, .pointer (some (Addr.mk b 0 none))), (11, .int .u64 x_4), (12, .int .u64 x_5), (13, .pointer (some (Addr.mk b_2 0 none))), (14, .int .i64 1), (15, .int .i64 x_14), (16, .int .i64 k_2), (170, .slice (some xB5A) xN_6 xC_5), (171, .pointer (some (Addr.mk b 0 none)))] ((pure (.value (.pointer (some (Addr.mk b 0 none)))) : Sem Next)) (fun w => by kernel_rfl) (fun _ _ _ _ _ => rfl) (by kernel_rfl) (by kernel_rfl) (by kernel_rfl) (by kernel_rfl) (by kernel_rfl) (by kernel_rfl) (ps (by kernel_rfl)) ?_
                                  refine G_take 6 (some 172) (.int .i64 x_16) #[true, true, true, true, true, true, true, false, false, false, false] [(1, .slice (some lBA) lN lC), (5, .pointer ra), (7, .slice madeB madeN madeC), (8, .slice (some allBA_2) allN allC), (9, .int .i64 i), (10, .pointer (some (Addr.mk b 0 none))), (11, .int .u64 x_4), (12, .int .u64 x_5), (13, .pointer (some (Addr.mk b_2 0 none))), (14, .int .i64 1), (15, .int .i64 x_14), (16, .int .i64 k_2), (170, .slice (some xB5A) xN_6 xC_5), (172, .int .i64 x_16)] (loadN 3 (.pointer (some (Addr.mk b 0 none)))) (fun w => by kernel_rfl) (held_one 10 (fun w => by kernel_rfl) (List.Mem.tail _ (List.Mem.head _)) (.inl (by kernel_rfl))) (by kernel_rfl) (by kernel_rfl) (by kernel_rfl) (by kernel_rfl) (by kernel_rfl) (by kernel_rfl) (ps (by kernel_rfl)) ?_
                                  refine G_take 7 (some 173) (.int .i64 (IntKind.wrap .i64 (x_16 - 6))) #[true, true, true, true, true, true, true, true, false, false, false] [(1, .slice (some lBA) lN lC), (5, .pointer ra), (7, .slice madeB madeN madeC), (8, .slice (some allBA_2) allN allC), (9, .int .i64 i), (10, .pointer (some (Addr.mk b 0 none))), (11, .int .u64 x_4), (12, .int .u64 x_5), (13, .pointer (some (Addr.mk b_2 0 none))), (14, .int .i64 1), (15, .int .i64 x_14), (16, .int .i64 k_2), (170, .slice (some xB5A) xN_6 xC_5), (173, .int .i64 (IntKind.wrap .i64 (x_16 - 6)))] ((pure (.value (.int .i64 (IntKind.wrap .i64 (x_16 - 6)))) : Sem Next)) (fun w => by kernel_rfl) (fun _ _ _ _ _ => rfl) (by kernel_rfl) (by kernel_rfl) (by kernel_rfl) (by kernel_rfl) (by kernel_rfl) (by kernel_rfl) (ps (by kernel_rfl)) ?_
                                  refine G_take 8 (some 174) (.int .u64 x_5) #[true, true, true, true, true, true, true, true, true, false, false] [(1, .slice (some lBA) lN lC), (5, .pointer ra), (7, .slice madeB madeN madeC), (8, .slice (some allBA_2) allN allC), (9, .int .i64 i), (10, .pointer (some (Addr.mk b 0 none))), (11, .int .u64 x_4), (12, .int .u64 x_5), (13, .pointer (some (Addr.mk b_2 0 none))), (14, .int .i64 1), (15, .int .i64 x_14), (16, .int .i64 k_2), (170, .slice (some xB5A) xN_6 xC_5), (173, .int .i64 (IntKind.wrap .i64 (x_16 - 6))), (174, .int .u64 x_5)] ((pure (.value (.int .u64 x_5)) : Sem Next)) (fun w => by kernel_rfl) (fun _ _ _ _ _ => rfl) (by kernel_rfl) (by kernel_rfl) (by kernel_rfl) (by kernel_rfl) (by kernel_rfl) (by kernel_rfl) (ps (by kernel_rfl)) ?_
                                  refine G_take 9 (some 175) (.pointer (some (xB5A.add (Int.toNat (IntKind.wrap .i64 (x_16 - 6)) * 1)))) #[true, true, true, true, true, true, true, true, true, true, false] [(1, .slice (some lBA) lN lC), (5, .pointer ra), (7, .slice madeB madeN madeC), (8, .slice (some allBA_2) allN allC), (9, .int .i64 i), (10, .pointer (some (Addr.mk b 0 none))), (11, .int .u64 x_4), (12, .int .u64 x_5), (13, .pointer (some (Addr.mk b_2 0 none))), (14, .int .i64 1), (15, .int .i64 x_14), (16, .int .i64 k_2), (174, .int .u64 x_5), (175, .pointer (some (xB5A.add (Int.toNat (IntKind.wrap .i64 (x_16 - 6)) * 1))))] (indexAtN 39 (.slice (some xB5A) xN_6 xC_5) (.int .i64 (IntKind.wrap .i64 (x_16 - 6)))) (fun w => by kernel_rfl) (fun _ w _ _ _ => indexAt_run (P := Try.prog) (t := 39) (elem := 29) (sz := 1) (a := xB5A) (len := xN_6) (cap := xC_5) (k := .i64) (i := (IntKind.wrap .i64 (x_16 - 6))) Try.underlying39 (fun w => by kernel_rfl) q117.1 q117.2 w) (by kernel_rfl) (by kernel_rfl) (by kernel_rfl) (by kernel_rfl) (by kernel_rfl) (by kernel_rfl) (ps (by kernel_rfl)) ?_
                                  obtain ⟨q119, h⟩ := h
                                  refine G_onlyskip 10 none #[true, true, true, true, true, true, true, true, true, true, true] (storeN 29 (.pointer (some (xB5A.add (Int.toNat (IntKind.wrap .i64 (x_16 - 6)) * 1)))) (.int .u64 x_5)) (fun Hz => Hz = hputs H39 (xB5A.add (Int.toNat (IntKind.wrap .i64 (x_16 - 6)) * 1)) [.int .u64 x_5] 0) (by kernel_rfl) (fun w => by kernel_rfl) (ss_store [.int .u64 x_5] 1 (by kernel_rfl) (by kernel_rfl) (fun w => by kernel_rfl) (by kernel_rfl) q119) (by kernel_rfl) ?_
                                  intro H40 e118
                                  replace h := h H40 e118
                                  refine ⟨[(1, .slice (some lBA) lN lC), (5, .pointer ra), (7, .slice madeB madeN madeC), (8, .slice (some allBA_2) allN allC), (9, .int .i64 i), (10, .pointer (some (Addr.mk b 0 none))), (11, .int .u64 x_4), (12, .int .u64 x_5), (13, .pointer (some (Addr.mk b_2 0 none))), (14, .int .i64 1), (15, .int .i64 x_14), (16, .int .i64 k_2)], ps (by kernel_rfl), (show FactsAt _ _ _ from ⟨trivial, trivial, trivial⟩), ?_⟩
                                  refine G_sub [(1, .slice (some lBA) lN lC), (5, .pointer ra), (7, .slice madeB madeN madeC), (8, .slice (some allBA_2) allN allC), (9, .int .i64 i), (10, .pointer (some (Addr.mk b 0 none))), (11, .int .u64 x_4), (12, .int .u64 x_5), (13, .pointer (some (Addr.mk b_2 0 none))), (14, .int .i64 1), (15, .int .i64 x_14), (16, .int .i64 k_2)] (sb (by kernel_rfl)) ?_
                                  refine G_end (by kernel_rfl) ?_
                                  refine S_blockEnd ?_
                                  refine S_then ?_
                                  refine S_region 31 (Code.ops kk127) (by kernel_rfl) ?_
                                  refine N_run 3 [(1, .slice (some lBA) lN lC), (5, .pointer ra), (7, .slice madeB madeN madeC), (8, .slice (some allBA_2) allN allC), (9, .int .i64 i), (10, .pointer (some (Addr.mk b 0 none))), (11, .int .u64 x_4), (12, .int .u64 x_5), (13, .pointer (some (Addr.mk b_2 0 none))), (14, .int .i64 1), (15, .int .i64 x_14), (16, .int .i64 (IntKind.wrap .i64 (k_2 + 1)))] (fun w => by kernel_rfl) ?_
                                  refine N_end (by kernel_rfl) ?_
                                  refine S_then ?_
                                  exact S_round ((IntKind.wrap .i64 (k_2 + 1)) : Int) (sb (by kernel_rfl)) h
                                · rw [if_neg c112] at h
                                  have b113 : (x_15 == x_4) = false := beq_eq_false_iff_ne.mpr c112
                                  refine S_env [(1, .slice (some lBA) lN lC), (5, .pointer ra), (7, .slice madeB madeN madeC), (8, .slice (some allBA_2) allN allC), (9, .int .i64 i), (10, .pointer (some (Addr.mk b 0 none))), (11, .int .u64 x_4), (12, .int .u64 x_5), (13, .pointer (some (Addr.mk b_2 0 none))), (14, .int .i64 1), (15, .int .i64 x_14), (16, .int .i64 k_2), (165, .bool false)] (by simp only [b113, Bool.not_true, Bool.not_false]) ?_
                                  clear b113
                                  refine S_condF (.tmp 165) kk131 kk132 (by kernel_rfl) (by kernel_rfl) ?_
                                  refine S_skip (by kernel_rfl) ?_
                                  refine S_blockEnd ?_
                                  refine S_then ?_
                                  refine S_region 31 (Code.ops kk127) (by kernel_rfl) ?_
                                  refine N_run 3 [(1, .slice (some lBA) lN lC), (5, .pointer ra), (7, .slice madeB madeN madeC), (8, .slice (some allBA_2) allN allC), (9, .int .i64 i), (10, .pointer (some (Addr.mk b 0 none))), (11, .int .u64 x_4), (12, .int .u64 x_5), (13, .pointer (some (Addr.mk b_2 0 none))), (14, .int .i64 1), (15, .int .i64 x_14), (16, .int .i64 (IntKind.wrap .i64 (k_2 + 1)))] (fun w => by kernel_rfl) ?_
                                  refine N_end (by kernel_rfl) ?_
                                  refine S_then ?_
                                  exact S_round ((IntKind.wrap .i64 (k_2 + 1)) : Int) (sb (by kernel_rfl)) h
                              · rw [if_neg c108] at h
                                have b109 : ((decide (k_2 < (allN : Int))) && (x_14 == 0)) = false := eq_false_of_ne_true c108
                                refine S_env [(1, .slice (some lBA) lN lC), (5, .pointer ra), (7, .slice madeB madeN madeC), (8, .slice allB allN allC), (9, .int .i64 i), (10, .pointer (some (Addr.mk b 0 none))), (11, .int .u64 x_4), (12, .int .u64 x_5), (13, .pointer (some (Addr.mk b_2 0 none))), (14, .int .i64 1), (15, .int .i64 x_14), (16, .int .i64 k_2), (156, .bool false)] (by simp only [b109, Bool.not_true, Bool.not_false]) ?_
                                clear b109
                                refine S_condF (.tmp 156) kk124 kk125 (by kernel_rfl) (by kernel_rfl) ?_
                                refine S_exit 3 (by kernel_rfl) ?_
                                refine S_exitThen ?_
                                refine S_exitThen ?_
                                refine S_exitHere ?_
                                refine S_then ?_
                                exact S_meet (1 : Int) (sb (by kernel_rfl)) h
                            · intro hk
                              refine N_run 5 [(1, .slice (some lBA) lN lC), (5, .pointer ra), (7, .slice madeB madeN madeC), (8, .slice allB allN allC), (9, .int .i64 i), (10, .pointer (some (Addr.mk b 0 none))), (11, .int .u64 x_4), (12, .int .u64 x_5), (13, .pointer (some (Addr.mk b_2 0 none))), (14, .int .i64 1), (15, .int .i64 x_14), (16, .int .i64 k_2), (153, .bool (decide (k_2 < (allN : Int))))] (fun w => by kernel_rfl) ?_
                              by_cases c106 : k_2 < (allN : Int)
                              · have b107 : (decide (k_2 < (allN : Int))) = true := decide_eq_true c106
                                refine N_env [(1, .slice (some lBA) lN lC), (5, .pointer ra), (7, .slice madeB madeN madeC), (8, .slice allB allN allC), (9, .int .i64 i), (10, .pointer (some (Addr.mk b 0 none))), (11, .int .u64 x_4), (12, .int .u64 x_5), (13, .pointer (some (Addr.mk b_2 0 none))), (14, .int .i64 1), (15, .int .i64 x_14), (16, .int .i64 k_2), (153, .bool true)] (by simp only [b107, Bool.not_true, Bool.not_false]) ?_
                                refine N_run 3 [(1, .slice (some lBA) lN lC), (5, .pointer ra), (7, .slice madeB madeN madeC), (8, .slice allB allN allC), (9, .int .i64 i), (10, .pointer (some (Addr.mk b 0 none))), (11, .int .u64 x_4), (12, .int .u64 x_5), (13, .pointer (some (Addr.mk b_2 0 none))), (14, .int .i64 1), (15, .int .i64 x_14), (16, .int .i64 k_2), (156, .bool (x_14 == 0))] (fun w => by kernel_rfl) ?_
                                refine N_end (by kernel_rfl) ?_
                                refine S_env [(1, .slice (some lBA) lN lC), (5, .pointer ra), (7, .slice madeB madeN madeC), (8, .slice allB allN allC), (9, .int .i64 i), (10, .pointer (some (Addr.mk b 0 none))), (11, .int .u64 x_4), (12, .int .u64 x_5), (13, .pointer (some (Addr.mk b_2 0 none))), (14, .int .i64 1), (15, .int .i64 x_14), (16, .int .i64 k_2), (156, .bool ((decide (k_2 < (allN : Int))) && (x_14 == 0)))] (by simp only [b107, Bool.true_or, Bool.false_or, Bool.or_true, Bool.or_false, Bool.true_and, Bool.false_and, Bool.and_true, Bool.and_false, Bool.not_true, Bool.not_false, cond_true, cond_false]) ?_
                                exact hk
                              · have b107 : (decide (k_2 < (allN : Int))) = false := decide_eq_false c106
                                refine N_env [(1, .slice (some lBA) lN lC), (5, .pointer ra), (7, .slice madeB madeN madeC), (8, .slice allB allN allC), (9, .int .i64 i), (10, .pointer (some (Addr.mk b 0 none))), (11, .int .u64 x_4), (12, .int .u64 x_5), (13, .pointer (some (Addr.mk b_2 0 none))), (14, .int .i64 1), (15, .int .i64 x_14), (16, .int .i64 k_2), (153, .bool false)] (by simp only [b107, Bool.not_true, Bool.not_false]) ?_
                                refine N_run 3 [(1, .slice (some lBA) lN lC), (5, .pointer ra), (7, .slice madeB madeN madeC), (8, .slice allB allN allC), (9, .int .i64 i), (10, .pointer (some (Addr.mk b 0 none))), (11, .int .u64 x_4), (12, .int .u64 x_5), (13, .pointer (some (Addr.mk b_2 0 none))), (14, .int .i64 1), (15, .int .i64 x_14), (16, .int .i64 k_2), (156, .bool false)] (fun w => by kernel_rfl) ?_
                                refine N_end (by kernel_rfl) ?_
                                refine S_env [(1, .slice (some lBA) lN lC), (5, .pointer ra), (7, .slice madeB madeN madeC), (8, .slice allB allN allC), (9, .int .i64 i), (10, .pointer (some (Addr.mk b 0 none))), (11, .int .u64 x_4), (12, .int .u64 x_5), (13, .pointer (some (Addr.mk b_2 0 none))), (14, .int .i64 1), (15, .int .i64 x_14), (16, .int .i64 k_2), (156, .bool ((decide (k_2 < (allN : Int))) && (x_14 == 0)))] (by simp only [b107, Bool.true_or, Bool.false_or, Bool.or_true, Bool.or_false, Bool.true_and, Bool.false_and, Bool.and_true, Bool.and_false, Bool.not_true, Bool.not_false, cond_true, cond_false]) ?_
                                exact hk
                          · rw [if_neg c100] at h
                            have b101 : s140 = false := eq_false_of_ne_true c100
                            refine S_env [(1, .slice (some lBA) lN lC), (5, .pointer ra), (7, .slice madeB madeN madeC), (8, .slice allB allN allC), (9, .int .i64 i), (10, .pointer (some (Addr.mk b 0 none))), (11, .int .u64 x_4), (12, .int .u64 x_5), (13, .pointer (some (Addr.mk b_2 0 none))), (14, .int .i64 1), (89, .int .i64 x_6), (140, .bool false)] (by simp only [b101, Bool.not_true, Bool.not_false]) ?_
                            clear b101
                            refine S_condF (.tmp 140) kk112 kk113 (by kernel_rfl) (by kernel_rfl) ?_
                            refine S_seq kk133 kk134 (by kernel_rfl) ?_
                            refine S_region 34 (Code.ops kk133) (by kernel_rfl) ?_
                            refine N_run 2 [(1, .slice (some lBA) lN lC), (5, .pointer ra), (7, .slice madeB madeN madeC), (8, .slice allB allN allC), (9, .int .i64 i), (10, .pointer (some (Addr.mk b 0 none))), (11, .int .u64 x_4), (12, .int .u64 x_5), (13, .pointer (some (Addr.mk b_2 0 none))), (14, .int .i64 1), (176, .bool (x_6 == 8))] (fun w => by kernel_rfl) ?_
                            refine N_end (by kernel_rfl) ?_
                            refine S_then ?_
                            by_cases c120 : x_6 = 8
                            · rw [if_pos c120] at h
                              have b121 : (x_6 == 8) = true := beq_iff_eq.mpr c120
                              refine S_env [(1, .slice (some lBA) lN lC), (5, .pointer ra), (7, .slice madeB madeN madeC), (8, .slice allB allN allC), (9, .int .i64 i), (10, .pointer (some (Addr.mk b 0 none))), (11, .int .u64 x_4), (12, .int .u64 x_5), (13, .pointer (some (Addr.mk b_2 0 none))), (14, .int .i64 1), (176, .bool true)] (by simp only [b121, Bool.not_true, Bool.not_false]) ?_
                              clear b121
                              refine S_condT (.tmp 176) kk135 kk136 (by kernel_rfl) (by kernel_rfl) ?_
                              refine S_seq kk137 kk138 (by kernel_rfl) ?_
                              refine S_region 35 (Code.ops kk137) (by kernel_rfl) ?_
                              refine N_run 3 [(1, .slice (some lBA) lN lC), (5, .pointer ra), (7, .slice madeB madeN madeC), (8, .slice allB allN allC), (9, .int .i64 i), (10, .pointer (some (Addr.mk b 0 none))), (11, .int .u64 x_4), (12, .int .u64 x_5), (13, .pointer (some (Addr.mk b_2 0 none))), (14, .int .i64 1), (178, .pointer ra), (179, .int .u64 x_4), (180, .pointer (some ((Addr.mk b 0 none).add 5)))] (fun w => by kernel_rfl) ?_
                              obtain ⟨x_17, q122, h⟩ := h
                              refine N_val (some 181) (loadN 3 (.pointer (some ((Addr.mk b 0 none).add 5)))) (.int .i64 x_17) (fun w => by kernel_rfl) (loadN_run (loadOK_one (fun w => by kernel_rfl) q122)) [(1, .slice (some lBA) lN lC), (5, .pointer ra), (7, .slice madeB madeN madeC), (8, .slice allB allN allC), (9, .int .i64 i), (10, .pointer (some (Addr.mk b 0 none))), (11, .int .u64 x_4), (12, .int .u64 x_5), (13, .pointer (some (Addr.mk b_2 0 none))), (14, .int .i64 1), (178, .pointer ra), (179, .int .u64 x_4), (181, .int .i64 x_17)] (ps (by kernel_rfl)) ?_
                              refine N_run 1 [(1, .slice (some lBA) lN lC), (5, .pointer ra), (7, .slice madeB madeN madeC), (8, .slice allB allN allC), (9, .int .i64 i), (10, .pointer (some (Addr.mk b 0 none))), (11, .int .u64 x_4), (12, .int .u64 x_5), (13, .pointer (some (Addr.mk b_2 0 none))), (14, .int .i64 1), (178, .pointer ra), (179, .int .u64 x_4), (181, .int .i64 x_17), (182, .pointer (some ((Addr.mk b 0 none).add 6)))] (fun w => by kernel_rfl) ?_
                              obtain ⟨x_18, q123, h⟩ := h
                              refine N_val (some 183) (loadN 3 (.pointer (some ((Addr.mk b 0 none).add 6)))) (.int .i64 x_18) (fun w => by kernel_rfl) (loadN_run (loadOK_one (fun w => by kernel_rfl) q123)) [(1, .slice (some lBA) lN lC), (5, .pointer ra), (7, .slice madeB madeN madeC), (8, .slice allB allN allC), (9, .int .i64 i), (10, .pointer (some (Addr.mk b 0 none))), (11, .int .u64 x_4), (12, .int .u64 x_5), (13, .pointer (some (Addr.mk b_2 0 none))), (14, .int .i64 1), (178, .pointer ra), (179, .int .u64 x_4), (181, .int .i64 x_17), (183, .int .i64 x_18)] (ps (by kernel_rfl)) ?_
                              refine N_run 1 [(1, .slice (some lBA) lN lC), (5, .pointer ra), (7, .slice madeB madeN madeC), (8, .slice allB allN allC), (9, .int .i64 i), (10, .pointer (some (Addr.mk b 0 none))), (11, .int .u64 x_4), (12, .int .u64 x_5), (13, .pointer (some (Addr.mk b_2 0 none))), (14, .int .i64 1), (178, .pointer ra), (179, .int .u64 x_4), (181, .int .i64 x_17), (183, .int .i64 x_18), (184, .int .u64 x_5)] (fun w => by kernel_rfl) ?_
                              refine N_call (some 185) 32 #[.pointer ra, .int .u64 x_4, .int .i64 x_17, .int .i64 x_18, .int .u64 x_5] (fun w => by kernel_rfl) h ?_; clear h
                              rintro v_12 H41 ⟨x_19, rfl, h⟩
                              refine ⟨[(1, .slice (some lBA) lN lC), (5, .pointer ra), (7, .slice madeB madeN madeC), (8, .slice allB allN allC), (9, .int .i64 i), (10, .pointer (some (Addr.mk b 0 none))), (11, .int .u64 x_4), (12, .int .u64 x_5), (13, .pointer (some (Addr.mk b_2 0 none))), (14, .int .i64 1), (185, .int .i64 x_19)], ps (by kernel_rfl), ?_⟩
                              refine N_run 1 [(1, .slice (some lBA) lN lC), (5, .pointer ra), (7, .slice madeB madeN madeC), (8, .slice allB allN allC), (9, .int .i64 i), (10, .pointer (some (Addr.mk b 0 none))), (11, .int .u64 x_4), (12, .int .u64 x_5), (13, .pointer (some (Addr.mk b_2 0 none))), (14, .int .i64 1), (17, .int .i64 x_19)] (fun w => by kernel_rfl) ?_
                              refine N_end (by kernel_rfl) ?_
                              refine S_then ?_
                              refine S_seq kk139 kk140 (by kernel_rfl) ?_
                              refine S_region 36 (Code.ops kk139) (by kernel_rfl) ?_
                              refine N_run 1 [(1, .slice (some lBA) lN lC), (5, .pointer ra), (7, .slice madeB madeN madeC), (8, .slice allB allN allC), (9, .int .i64 i), (10, .pointer (some (Addr.mk b 0 none))), (11, .int .u64 x_4), (12, .int .u64 x_5), (13, .pointer (some (Addr.mk b_2 0 none))), (14, .int .i64 1), (17, .int .i64 x_19), (18, .int .i64 0)] (fun w => by kernel_rfl) ?_
                              refine N_end (by kernel_rfl) ?_
                              refine S_then ?_
                              refine S_block 5 kk141 (by kernel_rfl) ?_
                              obtain ⟨I143, m143, i124, i125⟩ := h
                              refine S_loop (x := kk142) (σ := Int) (fun s_ => [(1, .slice (some lBA) lN lC), (5, .pointer ra), (7, .slice madeB madeN madeC), (8, .slice allB allN allC), (9, .int .i64 i), (10, .pointer (some (Addr.mk b 0 none))), (11, .int .u64 x_4), (12, .int .u64 x_5), (13, .pointer (some (Addr.mk b_2 0 none))), (14, .int .i64 1), (17, .int .i64 x_19), (18, .int .i64 s_)]) (fun s_ H => I143 s_ H) (fun s_ H => m143 s_ H) (0 : Int) (by kernel_rfl) i124 (sb (by kernel_rfl)) ?_
                              rintro k_3 H42 i126
                              have h := i125 k_3 H42 i126
                              refine S_sub [(1, .slice (some lBA) lN lC), (5, .pointer ra), (7, .slice madeB madeN madeC), (8, .slice allB allN allC), (9, .int .i64 i), (10, .pointer (some (Addr.mk b 0 none))), (11, .int .u64 x_4), (12, .int .u64 x_5), (13, .pointer (some (Addr.mk b_2 0 none))), (14, .int .i64 1), (17, .int .i64 x_19), (18, .int .i64 k_3)] (sb (by kernel_rfl)) ?_
                              refine S_seq kk143 kk144 (by kernel_rfl) ?_
                              refine S_seq kk145 kk146 (by kernel_rfl) ?_
                              refine S_region 37 (Code.ops kk145) (by kernel_rfl) ?_
                              refine N_cut [(1, .slice (some lBA) lN lC), (5, .pointer ra), (7, .slice madeB madeN madeC), (8, .slice allB allN allC), (9, .int .i64 i), (10, .pointer (some (Addr.mk b 0 none))), (11, .int .u64 x_4), (12, .int .u64 x_5), (13, .pointer (some (Addr.mk b_2 0 none))), (14, .int .i64 1), (17, .int .i64 x_19), (18, .int .i64 k_3), (193, .bool ((decide (k_3 < (allN : Int))) && (x_19 == 0)))] ?_ ?_
                              · refine S_then ?_
                                by_cases c129 : ((decide (k_3 < (allN : Int))) && (x_19 == 0)) = true
                                · rw [if_pos c129] at h
                                  have b130 : ((decide (k_3 < (allN : Int))) && (x_19 == 0)) = true := c129
                                  refine S_env [(1, .slice (some lBA) lN lC), (5, .pointer ra), (7, .slice madeB madeN madeC), (8, .slice allB allN allC), (9, .int .i64 i), (10, .pointer (some (Addr.mk b 0 none))), (11, .int .u64 x_4), (12, .int .u64 x_5), (13, .pointer (some (Addr.mk b_2 0 none))), (14, .int .i64 1), (17, .int .i64 x_19), (18, .int .i64 k_3), (193, .bool true)] (by simp only [b130, Bool.not_true, Bool.not_false]) ?_
                                  clear b130
                                  refine S_condT (.tmp 193) kk147 kk148 (by kernel_rfl) (by kernel_rfl) ?_
                                  refine S_skip (by kernel_rfl) ?_
                                  refine S_then ?_
                                  refine S_seq kk149 kk150 (by kernel_rfl) ?_
                                  refine S_block 6 kk151 (by kernel_rfl) ?_
                                  refine S_seq kk152 kk153 (by kernel_rfl) ?_
                                  refine S_region 39 (Code.ops kk152) (by kernel_rfl) ?_
                                  refine N_run 2 [(1, .slice (some lBA) lN lC), (5, .pointer ra), (7, .slice madeB madeN madeC), (8, .slice allB allN allC), (9, .int .i64 i), (10, .pointer (some (Addr.mk b 0 none))), (11, .int .u64 x_4), (12, .int .u64 x_5), (13, .pointer (some (Addr.mk b_2 0 none))), (14, .int .i64 1), (17, .int .i64 x_19), (18, .int .i64 k_3), (196, .slice allB allN allC), (197, .int .i64 k_3)] (fun w => by kernel_rfl) ?_
                                  obtain ⟨allBA_3, rfl, h⟩ := h
                                  obtain ⟨q131, h⟩ := h
                                  refine N_val (some 198) (indexAtN 65 (.slice (some allBA_3) allN allC) (.int .i64 k_3)) (.pointer (some (allBA_3.add (Int.toNat k_3 * 3)))) (fun w => by kernel_rfl) (fun w _ => indexAt_run (P := Try.prog) (t := 65) (elem := 75) (sz := 3) (a := allBA_3) (len := allN) (cap := allC) (k := .i64) (i := k_3) Try.underlying65 (fun w => by kernel_rfl) q131.1 q131.2 w) [(1, .slice (some lBA) lN lC), (5, .pointer ra), (7, .slice madeB madeN madeC), (8, .slice (some allBA_3) allN allC), (9, .int .i64 i), (10, .pointer (some (Addr.mk b 0 none))), (11, .int .u64 x_4), (12, .int .u64 x_5), (13, .pointer (some (Addr.mk b_2 0 none))), (14, .int .i64 1), (17, .int .i64 x_19), (18, .int .i64 k_3), (198, .pointer (some (allBA_3.add (Int.toNat k_3 * 3))))] (ps (by kernel_rfl)) ?_
                                  refine N_run 1 [(1, .slice (some lBA) lN lC), (5, .pointer ra), (7, .slice madeB madeN madeC), (8, .slice (some allBA_3) allN allC), (9, .int .i64 i), (10, .pointer (some (Addr.mk b 0 none))), (11, .int .u64 x_4), (12, .int .u64 x_5), (13, .pointer (some (Addr.mk b_2 0 none))), (14, .int .i64 1), (17, .int .i64 x_19), (18, .int .i64 k_3), (199, .pointer (some (allBA_3.add (Int.toNat k_3 * 3))))] (fun w => by kernel_rfl) ?_
                                  obtain ⟨x_20, q132, h⟩ := h
                                  refine N_val (some 200) (loadN 29 (.pointer (some (allBA_3.add (Int.toNat k_3 * 3))))) (.int .u64 x_20) (fun w => by kernel_rfl) (loadN_run (loadOK_one (fun w => by kernel_rfl) q132)) [(1, .slice (some lBA) lN lC), (5, .pointer ra), (7, .slice madeB madeN madeC), (8, .slice (some allBA_3) allN allC), (9, .int .i64 i), (10, .pointer (some (Addr.mk b 0 none))), (11, .int .u64 x_4), (12, .int .u64 x_5), (13, .pointer (some (Addr.mk b_2 0 none))), (14, .int .i64 1), (17, .int .i64 x_19), (18, .int .i64 k_3), (200, .int .u64 x_20)] (ps (by kernel_rfl)) ?_
                                  refine N_run 2 [(1, .slice (some lBA) lN lC), (5, .pointer ra), (7, .slice madeB madeN madeC), (8, .slice (some allBA_3) allN allC), (9, .int .i64 i), (10, .pointer (some (Addr.mk b 0 none))), (11, .int .u64 x_4), (12, .int .u64 x_5), (13, .pointer (some (Addr.mk b_2 0 none))), (14, .int .i64 1), (17, .int .i64 x_19), (18, .int .i64 k_3), (202, .bool (x_20 == x_4))] (fun w => by kernel_rfl) ?_
                                  refine N_end (by kernel_rfl) ?_
                                  refine S_then ?_
                                  by_cases c133 : x_20 = x_4
                                  · rw [if_pos c133] at h
                                    have b134 : (x_20 == x_4) = true := beq_iff_eq.mpr c133
                                    refine S_env [(1, .slice (some lBA) lN lC), (5, .pointer ra), (7, .slice madeB madeN madeC), (8, .slice (some allBA_3) allN allC), (9, .int .i64 i), (10, .pointer (some (Addr.mk b 0 none))), (11, .int .u64 x_4), (12, .int .u64 x_5), (13, .pointer (some (Addr.mk b_2 0 none))), (14, .int .i64 1), (17, .int .i64 x_19), (18, .int .i64 k_3), (202, .bool true)] (by simp only [b134, Bool.not_true, Bool.not_false]) ?_
                                    clear b134
                                    refine S_condT (.tmp 202) kk154 kk155 (by kernel_rfl) (by kernel_rfl) ?_
                                    obtain ⟨q135, h⟩ := h
                                    obtain ⟨xB_6, xN_7, xC_6, q136, h⟩ := h
                                    obtain ⟨x_21, q137, h⟩ := h
                                    obtain ⟨xB6A, rfl, h⟩ := h
                                    obtain ⟨q138, h⟩ := h
                                    refine S_regionG 40 (Code.ops kk154) [(9, ((allBA_3.add (Int.toNat k_3 * 3)).add 2), [.slice (some xB6A) xN_7 xC_6]), (9, ((Addr.mk b 0 none).add 6), [.int .i64 x_21])] 10 #[false, false, false, false, false, false, false, false, false, false] (by kernel_rfl) (by kernel_rfl) (by kernel_rfl) (by kernel_rfl) (by kernel_rfl) (show FactsAt _ _ _ from ⟨⟨q136, trivial⟩, ⟨q137, trivial⟩, trivial⟩) ?_
                                    refine G_take 0 (some 203) (.slice (some allBA_3) allN allC) #[true, false, false, false, false, false, false, false, false, false] [(1, .slice (some lBA) lN lC), (5, .pointer ra), (7, .slice madeB madeN madeC), (8, .slice (some allBA_3) allN allC), (9, .int .i64 i), (10, .pointer (some (Addr.mk b 0 none))), (11, .int .u64 x_4), (12, .int .u64 x_5), (13, .pointer (some (Addr.mk b_2 0 none))), (14, .int .i64 1), (17, .int .i64 x_19), (18, .int .i64 k_3), (203, .slice (some allBA_3) allN allC)] ((pure (.value (.slice (some allBA_3) allN allC)) : Sem Next)) (fun w => by kernel_rfl) (fun _ _ _ _ _ => rfl) (by kernel_rfl) (by kernel_rfl) (by kernel_rfl) (by kernel_rfl) (by kernel_rfl) (by kernel_rfl) (ps (by kernel_rfl)) ?_
                                    refine G_take 1 (some 204) (.int .i64 k_3) #[true, true, false, false, false, false, false, false, false, false] [(1, .slice (some lBA) lN lC), (5, .pointer ra), (7, .slice madeB madeN madeC), (8, .slice (some allBA_3) allN allC), (9, .int .i64 i), (10, .pointer (some (Addr.mk b 0 none))), (11, .int .u64 x_4), (12, .int .u64 x_5), (13, .pointer (some (Addr.mk b_2 0 none))), (14, .int .i64 1), (17, .int .i64 x_19), (18, .int .i64 k_3), (203, .slice (some allBA_3) allN allC), (204, .int .i64 k_3)] ((pure (.value (.int .i64 k_3)) : Sem Next)) (fun w => by kernel_rfl) (fun _ _ _ _ _ => rfl) (by kernel_rfl) (by kernel_rfl) (by kernel_rfl) (by kernel_rfl) (by kernel_rfl) (by kernel_rfl) (ps (by kernel_rfl)) ?_
                                    refine G_take 2 (some 205) (.pointer (some (allBA_3.add (Int.toNat k_3 * 3)))) #[true, true, true, false, false, false, false, false, false, false] [(1, .slice (some lBA) lN lC), (5, .pointer ra), (7, .slice madeB madeN madeC), (8, .slice (some allBA_3) allN allC), (9, .int .i64 i), (10, .pointer (some (Addr.mk b 0 none))), (11, .int .u64 x_4), (12, .int .u64 x_5), (13, .pointer (some (Addr.mk b_2 0 none))), (14, .int .i64 1), (17, .int .i64 x_19), (18, .int .i64 k_3), (205, .pointer (some (allBA_3.add (Int.toNat k_3 * 3))))] (indexAtN 65 (.slice (some allBA_3) allN allC) (.int .i64 k_3)) (fun w => by kernel_rfl) (fun _ w _ _ _ => indexAt_run (P := Try.prog) (t := 65) (elem := 75) (sz := 3) (a := allBA_3) (len := allN) (cap := allC) (k := .i64) (i := k_3) Try.underlying65 (fun w => by kernel_rfl) q135.1 q135.2 w) (by kernel_rfl) (by kernel_rfl) (by kernel_rfl) (by kernel_rfl) (by kernel_rfl) (by kernel_rfl) (ps (by kernel_rfl)) ?_
                                    refine G_take 3 (some 206) (.pointer (some ((allBA_3.add (Int.toNat k_3 * 3)).add 2))) #[true, true, true, true, false, false, false, false, false, false] [(1, .slice (some lBA) lN lC), (5, .pointer ra), (7, .slice madeB madeN madeC), (8, .slice (some allBA_3) allN allC), (9, .int .i64 i), (10, .pointer (some (Addr.mk b 0 none))), (11, .int .u64 x_4), (12, .int .u64 x_5), (13, .pointer (some (Addr.mk b_2 0 none))), (14, .int .i64 1), (17, .int .i64 x_19), (18, .int .i64 k_3), (206, .pointer (some ((allBA_3.add (Int.toNat k_3 * 3)).add 2)))] ((pure (.value (.pointer (some ((allBA_3.add (Int.toNat k_3 * 3)).add 2)))) : Sem Next)) (fun w => by kernel_rfl) (fun _ _ _ _ _ => rfl) (by kernel_rfl) (by kernel_rfl) (by kernel_rfl) (by kernel_rfl) (by kernel_rfl) (by kernel_rfl) (ps (by kernel_rfl)) ?_
                                    refine G_take 4 (some 207) (.slice (some xB6A) xN_7 xC_6) #[true, true, true, true, true, false, false, false, false, false] [(1, .slice (some lBA) lN lC), (5, .pointer ra), (7, .slice madeB madeN madeC), (8, .slice (some allBA_3) allN allC), (9, .int .i64 i), (10, .pointer (some (Addr.mk b 0 none))), (11, .int .u64 x_4), (12, .int .u64 x_5), (13, .pointer (some (Addr.mk b_2 0 none))), (14, .int .i64 1), (17, .int .i64 x_19), (18, .int .i64 k_3), (207, .slice (some xB6A) xN_7 xC_6)] (loadN 39 (.pointer (some ((allBA_3.add (Int.toNat k_3 * 3)).add 2)))) (fun w => by kernel_rfl) (held_one 9 (fun w => by kernel_rfl) (List.Mem.head _) (.inl (by kernel_rfl))) (by kernel_rfl) (by kernel_rfl) (by kernel_rfl) (by kernel_rfl) (by kernel_rfl) (by kernel_rfl) (ps (by kernel_rfl)) ?_
                                    refine G_take 5 (some 208) (.pointer (some ((Addr.mk b 0 none).add 6))) #[true, true, true, true, true, true, false, false, false, false] [(1, .slice (some lBA) lN lC), (5, .pointer ra), (7, .slice madeB madeN madeC), (8, .slice (some allBA_3) allN allC), (9, .int .i64 i), (10, .pointer (some (Addr.mk b 0 none))), (11, .int .u64 x_4), (12, .int .u64 x_5), (13, .pointer (some (Addr.mk b_2 0 none))), (14, .int .i64 1), (17, .int .i64 x_19), (18, .int .i64 k_3), (207, .slice (some xB6A) xN_7 xC_6), (208, .pointer (some ((Addr.mk b 0 none).add 6)))] ((pure (.value (.pointer (some ((Addr.mk b 0 none).add 6)))) : Sem Next)) (fun w => by kernel_rfl) (fun _ _ _ _ _ => rfl) (by kernel_rfl) (by kernel_rfl) (by kernel_rfl) (by kernel_rfl) (by kernel_rfl) (by kernel_rfl) (ps (by kernel_rfl)) ?_
                                    refine G_take 6 (some 209) (.int .i64 x_21) #[true, true, true, true, true, true, true, false, false, false] [(1, .slice (some lBA) lN lC), (5, .pointer ra), (7, .slice madeB madeN madeC), (8, .slice (some allBA_3) allN allC), (9, .int .i64 i), (10, .pointer (some (Addr.mk b 0 none))), (11, .int .u64 x_4), (12, .int .u64 x_5), (13, .pointer (some (Addr.mk b_2 0 none))), (14, .int .i64 1), (17, .int .i64 x_19), (18, .int .i64 k_3), (207, .slice (some xB6A) xN_7 xC_6), (209, .int .i64 x_21)] (loadN 3 (.pointer (some ((Addr.mk b 0 none).add 6)))) (fun w => by kernel_rfl) (held_one 9 (fun w => by kernel_rfl) (List.Mem.tail _ (List.Mem.head _)) (.inl (by kernel_rfl))) (by kernel_rfl) (by kernel_rfl) (by kernel_rfl) (by kernel_rfl) (by kernel_rfl) (by kernel_rfl) (ps (by kernel_rfl)) ?_
                                    refine G_take 7 (some 210) (.int .u64 x_5) #[true, true, true, true, true, true, true, true, false, false] [(1, .slice (some lBA) lN lC), (5, .pointer ra), (7, .slice madeB madeN madeC), (8, .slice (some allBA_3) allN allC), (9, .int .i64 i), (10, .pointer (some (Addr.mk b 0 none))), (11, .int .u64 x_4), (12, .int .u64 x_5), (13, .pointer (some (Addr.mk b_2 0 none))), (14, .int .i64 1), (17, .int .i64 x_19), (18, .int .i64 k_3), (207, .slice (some xB6A) xN_7 xC_6), (209, .int .i64 x_21), (210, .int .u64 x_5)] ((pure (.value (.int .u64 x_5)) : Sem Next)) (fun w => by kernel_rfl) (fun _ _ _ _ _ => rfl) (by kernel_rfl) (by kernel_rfl) (by kernel_rfl) (by kernel_rfl) (by kernel_rfl) (by kernel_rfl) (ps (by kernel_rfl)) ?_
                                    refine G_take 8 (some 211) (.pointer (some (xB6A.add (Int.toNat x_21 * 1)))) #[true, true, true, true, true, true, true, true, true, false] [(1, .slice (some lBA) lN lC), (5, .pointer ra), (7, .slice madeB madeN madeC), (8, .slice (some allBA_3) allN allC), (9, .int .i64 i), (10, .pointer (some (Addr.mk b 0 none))), (11, .int .u64 x_4), (12, .int .u64 x_5), (13, .pointer (some (Addr.mk b_2 0 none))), (14, .int .i64 1), (17, .int .i64 x_19), (18, .int .i64 k_3), (210, .int .u64 x_5), (211, .pointer (some (xB6A.add (Int.toNat x_21 * 1))))] (indexAtN 39 (.slice (some xB6A) xN_7 xC_6) (.int .i64 x_21)) (fun w => by kernel_rfl) (fun _ w _ _ _ => indexAt_run (P := Try.prog) (t := 39) (elem := 29) (sz := 1) (a := xB6A) (len := xN_7) (cap := xC_6) (k := .i64) (i := x_21) Try.underlying39 (fun w => by kernel_rfl) q138.1 q138.2 w) (by kernel_rfl) (by kernel_rfl) (by kernel_rfl) (by kernel_rfl) (by kernel_rfl) (by kernel_rfl) (ps (by kernel_rfl)) ?_
                                    obtain ⟨q140, h⟩ := h
                                    refine G_onlyskip 9 none #[true, true, true, true, true, true, true, true, true, true] (storeN 29 (.pointer (some (xB6A.add (Int.toNat x_21 * 1)))) (.int .u64 x_5)) (fun Hz => Hz = hputs H42 (xB6A.add (Int.toNat x_21 * 1)) [.int .u64 x_5] 0) (by kernel_rfl) (fun w => by kernel_rfl) (ss_store [.int .u64 x_5] 1 (by kernel_rfl) (by kernel_rfl) (fun w => by kernel_rfl) (by kernel_rfl) q140) (by kernel_rfl) ?_
                                    intro H43 e139
                                    replace h := h H43 e139
                                    refine ⟨[(1, .slice (some lBA) lN lC), (5, .pointer ra), (7, .slice madeB madeN madeC), (8, .slice (some allBA_3) allN allC), (9, .int .i64 i), (10, .pointer (some (Addr.mk b 0 none))), (11, .int .u64 x_4), (12, .int .u64 x_5), (13, .pointer (some (Addr.mk b_2 0 none))), (14, .int .i64 1), (17, .int .i64 x_19), (18, .int .i64 k_3)], ps (by kernel_rfl), (show FactsAt _ _ _ from ⟨trivial, trivial, trivial⟩), ?_⟩
                                    refine G_sub [(1, .slice (some lBA) lN lC), (5, .pointer ra), (7, .slice madeB madeN madeC), (8, .slice (some allBA_3) allN allC), (9, .int .i64 i), (10, .pointer (some (Addr.mk b 0 none))), (11, .int .u64 x_4), (12, .int .u64 x_5), (13, .pointer (some (Addr.mk b_2 0 none))), (14, .int .i64 1), (17, .int .i64 x_19), (18, .int .i64 k_3)] (sb (by kernel_rfl)) ?_
                                    refine G_end (by kernel_rfl) ?_
                                    refine S_blockEnd ?_
                                    refine S_then ?_
                                    refine S_region 38 (Code.ops kk150) (by kernel_rfl) ?_
                                    refine N_run 3 [(1, .slice (some lBA) lN lC), (5, .pointer ra), (7, .slice madeB madeN madeC), (8, .slice (some allBA_3) allN allC), (9, .int .i64 i), (10, .pointer (some (Addr.mk b 0 none))), (11, .int .u64 x_4), (12, .int .u64 x_5), (13, .pointer (some (Addr.mk b_2 0 none))), (14, .int .i64 1), (17, .int .i64 x_19), (18, .int .i64 (IntKind.wrap .i64 (k_3 + 1)))] (fun w => by kernel_rfl) ?_
                                    refine N_end (by kernel_rfl) ?_
                                    refine S_then ?_
                                    exact S_round ((IntKind.wrap .i64 (k_3 + 1)) : Int) (sb (by kernel_rfl)) h
                                  · rw [if_neg c133] at h
                                    have b134 : (x_20 == x_4) = false := beq_eq_false_iff_ne.mpr c133
                                    refine S_env [(1, .slice (some lBA) lN lC), (5, .pointer ra), (7, .slice madeB madeN madeC), (8, .slice (some allBA_3) allN allC), (9, .int .i64 i), (10, .pointer (some (Addr.mk b 0 none))), (11, .int .u64 x_4), (12, .int .u64 x_5), (13, .pointer (some (Addr.mk b_2 0 none))), (14, .int .i64 1), (17, .int .i64 x_19), (18, .int .i64 k_3), (202, .bool false)] (by simp only [b134, Bool.not_true, Bool.not_false]) ?_
                                    clear b134
                                    refine S_condF (.tmp 202) kk154 kk155 (by kernel_rfl) (by kernel_rfl) ?_
                                    refine S_skip (by kernel_rfl) ?_
                                    refine S_blockEnd ?_
                                    refine S_then ?_
                                    refine S_region 38 (Code.ops kk150) (by kernel_rfl) ?_
                                    refine N_run 3 [(1, .slice (some lBA) lN lC), (5, .pointer ra), (7, .slice madeB madeN madeC), (8, .slice (some allBA_3) allN allC), (9, .int .i64 i), (10, .pointer (some (Addr.mk b 0 none))), (11, .int .u64 x_4), (12, .int .u64 x_5), (13, .pointer (some (Addr.mk b_2 0 none))), (14, .int .i64 1), (17, .int .i64 x_19), (18, .int .i64 (IntKind.wrap .i64 (k_3 + 1)))] (fun w => by kernel_rfl) ?_
                                    refine N_end (by kernel_rfl) ?_
                                    refine S_then ?_
                                    exact S_round ((IntKind.wrap .i64 (k_3 + 1)) : Int) (sb (by kernel_rfl)) h
                                · rw [if_neg c129] at h
                                  have b130 : ((decide (k_3 < (allN : Int))) && (x_19 == 0)) = false := eq_false_of_ne_true c129
                                  refine S_env [(1, .slice (some lBA) lN lC), (5, .pointer ra), (7, .slice madeB madeN madeC), (8, .slice allB allN allC), (9, .int .i64 i), (10, .pointer (some (Addr.mk b 0 none))), (11, .int .u64 x_4), (12, .int .u64 x_5), (13, .pointer (some (Addr.mk b_2 0 none))), (14, .int .i64 1), (17, .int .i64 x_19), (18, .int .i64 k_3), (193, .bool false)] (by simp only [b130, Bool.not_true, Bool.not_false]) ?_
                                  clear b130
                                  refine S_condF (.tmp 193) kk147 kk148 (by kernel_rfl) (by kernel_rfl) ?_
                                  refine S_exit 5 (by kernel_rfl) ?_
                                  refine S_exitThen ?_
                                  refine S_exitThen ?_
                                  refine S_exitHere ?_
                                  refine S_then ?_
                                  exact S_meet (1 : Int) (sb (by kernel_rfl)) h
                              · intro hk
                                refine N_run 5 [(1, .slice (some lBA) lN lC), (5, .pointer ra), (7, .slice madeB madeN madeC), (8, .slice allB allN allC), (9, .int .i64 i), (10, .pointer (some (Addr.mk b 0 none))), (11, .int .u64 x_4), (12, .int .u64 x_5), (13, .pointer (some (Addr.mk b_2 0 none))), (14, .int .i64 1), (17, .int .i64 x_19), (18, .int .i64 k_3), (190, .bool (decide (k_3 < (allN : Int))))] (fun w => by kernel_rfl) ?_
                                by_cases c127 : k_3 < (allN : Int)
                                · have b128 : (decide (k_3 < (allN : Int))) = true := decide_eq_true c127
                                  refine N_env [(1, .slice (some lBA) lN lC), (5, .pointer ra), (7, .slice madeB madeN madeC), (8, .slice allB allN allC), (9, .int .i64 i), (10, .pointer (some (Addr.mk b 0 none))), (11, .int .u64 x_4), (12, .int .u64 x_5), (13, .pointer (some (Addr.mk b_2 0 none))), (14, .int .i64 1), (17, .int .i64 x_19), (18, .int .i64 k_3), (190, .bool true)] (by simp only [b128, Bool.not_true, Bool.not_false]) ?_
                                  refine N_run 3 [(1, .slice (some lBA) lN lC), (5, .pointer ra), (7, .slice madeB madeN madeC), (8, .slice allB allN allC), (9, .int .i64 i), (10, .pointer (some (Addr.mk b 0 none))), (11, .int .u64 x_4), (12, .int .u64 x_5), (13, .pointer (some (Addr.mk b_2 0 none))), (14, .int .i64 1), (17, .int .i64 x_19), (18, .int .i64 k_3), (193, .bool (x_19 == 0))] (fun w => by kernel_rfl) ?_
                                  refine N_end (by kernel_rfl) ?_
                                  refine S_env [(1, .slice (some lBA) lN lC), (5, .pointer ra), (7, .slice madeB madeN madeC), (8, .slice allB allN allC), (9, .int .i64 i), (10, .pointer (some (Addr.mk b 0 none))), (11, .int .u64 x_4), (12, .int .u64 x_5), (13, .pointer (some (Addr.mk b_2 0 none))), (14, .int .i64 1), (17, .int .i64 x_19), (18, .int .i64 k_3), (193, .bool ((decide (k_3 < (allN : Int))) && (x_19 == 0)))] (by simp only [b128, Bool.true_or, Bool.false_or, Bool.or_true, Bool.or_false, Bool.true_and, Bool.false_and, Bool.and_true, Bool.and_false, Bool.not_true, Bool.not_false, cond_true, cond_false]) ?_
                                  exact hk
                                · have b128 : (decide (k_3 < (allN : Int))) = false := decide_eq_false c127
                                  refine N_env [(1, .slice (some lBA) lN lC), (5, .pointer ra), (7, .slice madeB madeN madeC), (8, .slice allB allN allC), (9, .int .i64 i), (10, .pointer (some (Addr.mk b 0 none))), (11, .int .u64 x_4), (12, .int .u64 x_5), (13, .pointer (some (Addr.mk b_2 0 none))), (14, .int .i64 1), (17, .int .i64 x_19), (18, .int .i64 k_3), (190, .bool false)] (by simp only [b128, Bool.not_true, Bool.not_false]) ?_
                                  refine N_run 3 [(1, .slice (some lBA) lN lC), (5, .pointer ra), (7, .slice madeB madeN madeC), (8, .slice allB allN allC), (9, .int .i64 i), (10, .pointer (some (Addr.mk b 0 none))), (11, .int .u64 x_4), (12, .int .u64 x_5), (13, .pointer (some (Addr.mk b_2 0 none))), (14, .int .i64 1), (17, .int .i64 x_19), (18, .int .i64 k_3), (193, .bool false)] (fun w => by kernel_rfl) ?_
                                  refine N_end (by kernel_rfl) ?_
                                  refine S_env [(1, .slice (some lBA) lN lC), (5, .pointer ra), (7, .slice madeB madeN madeC), (8, .slice allB allN allC), (9, .int .i64 i), (10, .pointer (some (Addr.mk b 0 none))), (11, .int .u64 x_4), (12, .int .u64 x_5), (13, .pointer (some (Addr.mk b_2 0 none))), (14, .int .i64 1), (17, .int .i64 x_19), (18, .int .i64 k_3), (193, .bool ((decide (k_3 < (allN : Int))) && (x_19 == 0)))] (by simp only [b128, Bool.true_or, Bool.false_or, Bool.or_true, Bool.or_false, Bool.true_and, Bool.false_and, Bool.and_true, Bool.and_false, Bool.not_true, Bool.not_false, cond_true, cond_false]) ?_
                                  exact hk
                            · rw [if_neg c120] at h
                              have b121 : (x_6 == 8) = false := beq_eq_false_iff_ne.mpr c120
                              refine S_env [(1, .slice (some lBA) lN lC), (5, .pointer ra), (7, .slice madeB madeN madeC), (8, .slice allB allN allC), (9, .int .i64 i), (10, .pointer (some (Addr.mk b 0 none))), (11, .int .u64 x_4), (12, .int .u64 x_5), (13, .pointer (some (Addr.mk b_2 0 none))), (14, .int .i64 1), (176, .bool false)] (by simp only [b121, Bool.not_true, Bool.not_false]) ?_
                              clear b121
                              refine S_condF (.tmp 176) kk135 kk136 (by kernel_rfl) (by kernel_rfl) ?_
                              refine S_skip (by kernel_rfl) ?_
                              refine S_then ?_
                              exact S_meet (1 : Int) (sb (by kernel_rfl)) h
                        · by_cases c141 : x_6 = 6
                          · rw [if_pos c141] at h
                            have b142 : (x_6 == 6) = true := beq_iff_eq.mpr c141
                            refine S_env [(1, .slice (some lBA) lN lC), (5, .pointer ra), (7, .slice madeB madeN madeC), (8, .slice allB allN allC), (9, .int .i64 i), (10, .pointer (some (Addr.mk b 0 none))), (11, .int .u64 x_4), (12, .int .u64 x_5), (13, .pointer (some (Addr.mk b_2 0 none))), (14, .int .i64 1), (89, .int .i64 x_6), (140, .bool true)] (by simp only [b142, Bool.not_true, Bool.not_false]) ?_
                            clear b142
                            refine S_condT (.tmp 140) kk110 kk111 (by kernel_rfl) (by kernel_rfl) ?_
                            refine S_skip (by kernel_rfl) ?_
                            refine S_then ?_
                            exact S_meet (true : Bool) (sb (by kernel_rfl)) h
                          · rw [if_neg c141] at h
                            have b142 : (x_6 == 6) = false := beq_eq_false_iff_ne.mpr c141
                            refine S_env [(1, .slice (some lBA) lN lC), (5, .pointer ra), (7, .slice madeB madeN madeC), (8, .slice allB allN allC), (9, .int .i64 i), (10, .pointer (some (Addr.mk b 0 none))), (11, .int .u64 x_4), (12, .int .u64 x_5), (13, .pointer (some (Addr.mk b_2 0 none))), (14, .int .i64 1), (89, .int .i64 x_6), (140, .bool false)] (by simp only [b142, Bool.not_true, Bool.not_false]) ?_
                            clear b142
                            refine S_condF (.tmp 140) kk110 kk111 (by kernel_rfl) (by kernel_rfl) ?_
                            refine S_region 27 (Code.ops kk111) (by kernel_rfl) ?_
                            refine N_run 2 [(1, .slice (some lBA) lN lC), (5, .pointer ra), (7, .slice madeB madeN madeC), (8, .slice allB allN allC), (9, .int .i64 i), (10, .pointer (some (Addr.mk b 0 none))), (11, .int .u64 x_4), (12, .int .u64 x_5), (13, .pointer (some (Addr.mk b_2 0 none))), (14, .int .i64 1), (89, .int .i64 x_6), (140, .bool (x_6 == 7))] (fun w => by kernel_rfl) ?_
                            refine N_end (by kernel_rfl) ?_
                            refine S_then ?_
                            exact S_meet ((x_6 == 7) : Bool) (sb (by kernel_rfl)) h
            · refine S_region 15 (Code.ops kk50) (by kernel_rfl) ?_
              refine N_run 1 [(1, .slice (some lBA) lN lC), (5, .pointer ra), (7, .slice madeB madeN madeC), (8, .slice allB allN allC), (9, .int .i64 i), (10, .pointer (some (Addr.mk b 0 none))), (11, .int .u64 x_4), (12, .int .u64 x_5), (13, .pointer (some (Addr.mk b_2 0 none))), (14, .int .i64 1), (74, .pointer (some (Addr.mk b 0 none)))] (fun w => by kernel_rfl) ?_
              obtain ⟨x_22, q143, h⟩ := h
              refine N_val (some 75) (loadN 3 (.pointer (some (Addr.mk b 0 none)))) (.int .i64 x_22) (fun w => by kernel_rfl) (loadN_run (loadOK_one (fun w => by kernel_rfl) q143)) [(1, .slice (some lBA) lN lC), (5, .pointer ra), (7, .slice madeB madeN madeC), (8, .slice allB allN allC), (9, .int .i64 i), (10, .pointer (some (Addr.mk b 0 none))), (11, .int .u64 x_4), (12, .int .u64 x_5), (13, .pointer (some (Addr.mk b_2 0 none))), (14, .int .i64 1), (75, .int .i64 x_22)] (ps (by kernel_rfl)) ?_
              refine N_run 2 [(1, .slice (some lBA) lN lC), (5, .pointer ra), (7, .slice madeB madeN madeC), (8, .slice allB allN allC), (9, .int .i64 i), (10, .pointer (some (Addr.mk b 0 none))), (11, .int .u64 x_4), (12, .int .u64 x_5), (13, .pointer (some (Addr.mk b_2 0 none))), (14, .int .i64 1), (77, .bool (decide (x_22 ≥ 6)))] (fun w => by kernel_rfl) ?_
              by_cases c144 : x_22 ≥ 6
              · rw [if_pos c144] at h
                have b145 : (decide (x_22 ≥ 6)) = true := decide_eq_true c144
                refine N_env [(1, .slice (some lBA) lN lC), (5, .pointer ra), (7, .slice madeB madeN madeC), (8, .slice allB allN allC), (9, .int .i64 i), (10, .pointer (some (Addr.mk b 0 none))), (11, .int .u64 x_4), (12, .int .u64 x_5), (13, .pointer (some (Addr.mk b_2 0 none))), (14, .int .i64 1), (77, .bool true)] (by simp only [b145, Bool.not_true, Bool.not_false]) ?_
                clear b145
                refine N_run 1 [(1, .slice (some lBA) lN lC), (5, .pointer ra), (7, .slice madeB madeN madeC), (8, .slice allB allN allC), (9, .int .i64 i), (10, .pointer (some (Addr.mk b 0 none))), (11, .int .u64 x_4), (12, .int .u64 x_5), (13, .pointer (some (Addr.mk b_2 0 none))), (14, .int .i64 1), (77, .bool true), (78, .pointer (some (Addr.mk b 0 none)))] (fun w => by kernel_rfl) ?_
                obtain ⟨x_23, q146, h⟩ := h
                refine N_val (some 79) (loadN 3 (.pointer (some (Addr.mk b 0 none)))) (.int .i64 x_23) (fun w => by kernel_rfl) (loadN_run (loadOK_one (fun w => by kernel_rfl) q146)) [(1, .slice (some lBA) lN lC), (5, .pointer ra), (7, .slice madeB madeN madeC), (8, .slice allB allN allC), (9, .int .i64 i), (10, .pointer (some (Addr.mk b 0 none))), (11, .int .u64 x_4), (12, .int .u64 x_5), (13, .pointer (some (Addr.mk b_2 0 none))), (14, .int .i64 1), (77, .bool true), (79, .int .i64 x_23)] (ps (by kernel_rfl)) ?_
                refine N_run 3 [(1, .slice (some lBA) lN lC), (5, .pointer ra), (7, .slice madeB madeN madeC), (8, .slice allB allN allC), (9, .int .i64 i), (10, .pointer (some (Addr.mk b 0 none))), (11, .int .u64 x_4), (12, .int .u64 x_5), (13, .pointer (some (Addr.mk b_2 0 none))), (14, .int .i64 1), (82, .bool (decide (x_23 ≤ 8)))] (fun w => by kernel_rfl) ?_
                by_cases c147 : x_23 ≤ 8
                · rw [if_pos c147] at h
                  have b148 : (decide (x_23 ≤ 8)) = true := decide_eq_true c147
                  refine N_env [(1, .slice (some lBA) lN lC), (5, .pointer ra), (7, .slice madeB madeN madeC), (8, .slice allB allN allC), (9, .int .i64 i), (10, .pointer (some (Addr.mk b 0 none))), (11, .int .u64 x_4), (12, .int .u64 x_5), (13, .pointer (some (Addr.mk b_2 0 none))), (14, .int .i64 1), (82, .bool true)] (by simp only [b148, Bool.not_true, Bool.not_false]) ?_
                  clear b148
                  refine N_run 2 [(1, .slice (some lBA) lN lC), (5, .pointer ra), (7, .slice madeB madeN madeC), (8, .slice allB allN allC), (9, .int .i64 i), (10, .pointer (some (Addr.mk b 0 none))), (11, .int .u64 x_4), (12, .int .u64 x_5), (13, .pointer (some (Addr.mk b_2 0 none))), (14, .int .i64 1), (82, .bool true), (83, .slice allB allN allC), (84, .int .u64 x_4)] (fun w => by kernel_rfl) ?_
                  refine N_call (some 85) 26 #[.slice allB allN allC, .int .u64 x_4] (fun w => by kernel_rfl) h ?_; clear h
                  rintro v_13 H44 ⟨x_24, rfl, h⟩
                  refine ⟨[(1, .slice (some lBA) lN lC), (5, .pointer ra), (7, .slice madeB madeN madeC), (8, .slice allB allN allC), (9, .int .i64 i), (10, .pointer (some (Addr.mk b 0 none))), (11, .int .u64 x_4), (12, .int .u64 x_5), (13, .pointer (some (Addr.mk b_2 0 none))), (14, .int .i64 1), (82, .bool true), (85, .bool x_24)], ps (by kernel_rfl), ?_⟩
                  refine N_run 2 [(1, .slice (some lBA) lN lC), (5, .pointer ra), (7, .slice madeB madeN madeC), (8, .slice allB allN allC), (9, .int .i64 i), (10, .pointer (some (Addr.mk b 0 none))), (11, .int .u64 x_4), (12, .int .u64 x_5), (13, .pointer (some (Addr.mk b_2 0 none))), (14, .int .i64 1), (87, .bool (!x_24))] (fun w => by kernel_rfl) ?_
                  refine N_end (by kernel_rfl) ?_
                  refine S_then ?_
                  exact S_meet ((!x_24) : Bool) (sb (by kernel_rfl)) h
                · rw [if_neg c147] at h
                  have b148 : (decide (x_23 ≤ 8)) = false := decide_eq_false c147
                  refine N_env [(1, .slice (some lBA) lN lC), (5, .pointer ra), (7, .slice madeB madeN madeC), (8, .slice allB allN allC), (9, .int .i64 i), (10, .pointer (some (Addr.mk b 0 none))), (11, .int .u64 x_4), (12, .int .u64 x_5), (13, .pointer (some (Addr.mk b_2 0 none))), (14, .int .i64 1), (82, .bool false)] (by simp only [b148, Bool.not_true, Bool.not_false]) ?_
                  clear b148
                  refine N_run 5 [(1, .slice (some lBA) lN lC), (5, .pointer ra), (7, .slice madeB madeN madeC), (8, .slice allB allN allC), (9, .int .i64 i), (10, .pointer (some (Addr.mk b 0 none))), (11, .int .u64 x_4), (12, .int .u64 x_5), (13, .pointer (some (Addr.mk b_2 0 none))), (14, .int .i64 1), (87, .bool false)] (fun w => by kernel_rfl) ?_
                  refine N_end (by kernel_rfl) ?_
                  refine S_then ?_
                  exact S_meet (false : Bool) (sb (by kernel_rfl)) h
              · rw [if_neg c144] at h
                have b145 : (decide (x_22 ≥ 6)) = false := decide_eq_false c144
                refine N_env [(1, .slice (some lBA) lN lC), (5, .pointer ra), (7, .slice madeB madeN madeC), (8, .slice allB allN allC), (9, .int .i64 i), (10, .pointer (some (Addr.mk b 0 none))), (11, .int .u64 x_4), (12, .int .u64 x_5), (13, .pointer (some (Addr.mk b_2 0 none))), (14, .int .i64 1), (77, .bool false)] (by simp only [b145, Bool.not_true, Bool.not_false]) ?_
                clear b145
                refine N_run 10 [(1, .slice (some lBA) lN lC), (5, .pointer ra), (7, .slice madeB madeN madeC), (8, .slice allB allN allC), (9, .int .i64 i), (10, .pointer (some (Addr.mk b 0 none))), (11, .int .u64 x_4), (12, .int .u64 x_5), (13, .pointer (some (Addr.mk b_2 0 none))), (14, .int .i64 1), (87, .bool false)] (fun w => by kernel_rfl) ?_
                refine N_end (by kernel_rfl) ?_
                refine S_then ?_
                exact S_meet (false : Bool) (sb (by kernel_rfl)) h
          · rw [if_neg c20] at h
            have b21 : (decide (i < (lN : Int))) = false := decide_eq_false c20
            refine S_env [(1, .slice lB lN lC), (5, .pointer ra), (7, .slice madeB madeN madeC), (8, .slice allB allN allC), (9, .int .i64 i), (58, .bool false)] (by simp only [b21, Bool.not_true, Bool.not_false]) ?_
            clear b21
            refine S_condF (.tmp 58) kk35 kk36 (by kernel_rfl) (by kernel_rfl) ?_
            refine S_exit 0 (by kernel_rfl) ?_
            refine S_exitThen ?_
            refine S_exitThen ?_
            refine S_exitHere ?_
            refine S_then ?_
            refine S_seq kk156 kk157 (by kernel_rfl) ?_
            refine S_seq kk158 kk159 (by kernel_rfl) ?_
            refine S_region 50 (Code.ops kk158) (by kernel_rfl) ?_
            refine N_run 1 [(5, .pointer ra), (8, .slice allB allN allC), (20, .int .i64 0)] (fun w => by kernel_rfl) ?_
            refine N_end (by kernel_rfl) ?_
            refine S_then ?_
            refine S_block 9 kk160 (by kernel_rfl) ?_
            obtain ⟨I162, m162, i149, i150⟩ := h
            refine S_loop (x := kk161) (σ := Int) (fun s_ => [(5, .pointer ra), (8, .slice allB allN allC), (20, .int .i64 s_)]) (fun s_ H => I162 s_ H) (fun s_ H => m162 s_ H) (0 : Int) (by kernel_rfl) i149 (sb (by kernel_rfl)) ?_
            rintro i_2 H45 i151
            have h := i150 i_2 H45 i151
            refine S_sub [(5, .pointer ra), (8, .slice allB allN allC), (20, .int .i64 i_2)] (sb (by kernel_rfl)) ?_
            refine S_seq kk162 kk163 (by kernel_rfl) ?_
            refine S_seq kk164 kk165 (by kernel_rfl) ?_
            refine S_region 51 (Code.ops kk164) (by kernel_rfl) ?_
            refine N_run 4 [(5, .pointer ra), (8, .slice allB allN allC), (20, .int .i64 i_2), (245, .bool (decide (i_2 < (allN : Int))))] (fun w => by kernel_rfl) ?_
            refine N_end (by kernel_rfl) ?_
            refine S_then ?_
            by_cases c152 : i_2 < (allN : Int)
            · rw [if_pos c152] at h
              have b153 : (decide (i_2 < (allN : Int))) = true := decide_eq_true c152
              refine S_env [(5, .pointer ra), (8, .slice allB allN allC), (20, .int .i64 i_2), (245, .bool true)] (by simp only [b153, Bool.not_true, Bool.not_false]) ?_
              clear b153
              refine S_condT (.tmp 245) kk166 kk167 (by kernel_rfl) (by kernel_rfl) ?_
              refine S_skip (by kernel_rfl) ?_
              refine S_then ?_
              refine S_seq kk168 kk169 (by kernel_rfl) ?_
              refine S_block 10 kk170 (by kernel_rfl) ?_
              refine S_seq kk171 kk172 (by kernel_rfl) ?_
              refine S_region 53 (Code.ops kk171) (by kernel_rfl) ?_
              refine N_run 2 [(5, .pointer ra), (8, .slice allB allN allC), (20, .int .i64 i_2), (248, .slice allB allN allC), (249, .int .i64 i_2)] (fun w => by kernel_rfl) ?_
              obtain ⟨allBA_4, rfl, h⟩ := h
              obtain ⟨q154, h⟩ := h
              refine N_val (some 250) (indexAtN 65 (.slice (some allBA_4) allN allC) (.int .i64 i_2)) (.pointer (some (allBA_4.add (Int.toNat i_2 * 3)))) (fun w => by kernel_rfl) (fun w _ => indexAt_run (P := Try.prog) (t := 65) (elem := 75) (sz := 3) (a := allBA_4) (len := allN) (cap := allC) (k := .i64) (i := i_2) Try.underlying65 (fun w => by kernel_rfl) q154.1 q154.2 w) [(5, .pointer ra), (8, .slice (some allBA_4) allN allC), (20, .int .i64 i_2), (250, .pointer (some (allBA_4.add (Int.toNat i_2 * 3))))] (ps (by kernel_rfl)) ?_
              obtain ⟨xw_2, xkind_2, xlB_2, xlN_2, xlC_2, q155, h⟩ := h
              refine N_val (some 251) (loadN 75 (.pointer (some (allBA_4.add (Int.toNat i_2 * 3))))) (.agg #[.int .u64 xw_2, .int .i64 xkind_2, .slice xlB_2 xlN_2 xlC_2]) (fun w => by kernel_rfl) (loadN_run (loadOK_row (fun w => by kernel_rfl) (fun w => by kernel_rfl) q155)) [(5, .pointer ra), (8, .slice (some allBA_4) allN allC), (20, .int .i64 i_2), (251, .agg #[.int .u64 xw_2, .int .i64 xkind_2, .slice xlB_2 xlN_2 xlC_2])] (ps (by kernel_rfl)) ?_
              refine N_new (some 21) (fun b => .pointer (some (Addr.mk b 0 none))) (.cells #[.int .u64 0, .int .i64 0, .slice none 0 0] 75) (fun w => by kernel_rfl) ?_
              intro b_8 H46 e156 e157
              replace h := h b_8 H46 e156 e157
              refine ⟨[(5, .pointer ra), (8, .slice (some allBA_4) allN allC), (20, .int .i64 i_2), (21, .pointer (some (Addr.mk b_8 0 none))), (251, .agg #[.int .u64 xw_2, .int .i64 xkind_2, .slice xlB_2 xlN_2 xlC_2])], ps (by kernel_rfl), ?_⟩
              obtain ⟨q159, h⟩ := h
              refine N_skipop none (storeN 75 (.pointer (some (Addr.mk b_8 0 none))) (.agg #[.int .u64 xw_2, .int .i64 xkind_2, .slice xlB_2 xlN_2 xlC_2])) (fun Hz => Hz = hputs H46 (Addr.mk b_8 0 none) [.int .u64 xw_2, .int .i64 xkind_2, .slice xlB_2 xlN_2 xlC_2] 0) (fun w => by kernel_rfl) (ss_store [.int .u64 xw_2, .int .i64 xkind_2, .slice xlB_2 xlN_2 xlC_2] 3 (by kernel_rfl) (by kernel_rfl) (fun w => by kernel_rfl) (by kernel_rfl) q159) ?_
              intro H47 e158
              replace h := h H47 e158
              refine ⟨[(5, .pointer ra), (8, .slice (some allBA_4) allN allC), (20, .int .i64 i_2), (21, .pointer (some (Addr.mk b_8 0 none)))], ps (by kernel_rfl), ?_⟩
              refine N_end (by kernel_rfl) ?_
              refine S_then ?_
              refine S_seq kk173 kk174 (by kernel_rfl) ?_
              refine S_seq kk175 kk176 (by kernel_rfl) ?_
              refine S_region 54 (Code.ops kk175) (by kernel_rfl) ?_
              refine N_run 1 [(5, .pointer ra), (8, .slice (some allBA_4) allN allC), (20, .int .i64 i_2), (21, .pointer (some (Addr.mk b_8 0 none))), (252, .pointer (some ((Addr.mk b_8 0 none).add 1)))] (fun w => by kernel_rfl) ?_
              obtain ⟨x_25, q160, h⟩ := h
              refine N_val (some 253) (loadN 3 (.pointer (some ((Addr.mk b_8 0 none).add 1)))) (.int .i64 x_25) (fun w => by kernel_rfl) (loadN_run (loadOK_one (fun w => by kernel_rfl) q160)) [(5, .pointer ra), (8, .slice (some allBA_4) allN allC), (20, .int .i64 i_2), (21, .pointer (some (Addr.mk b_8 0 none))), (253, .int .i64 x_25)] (ps (by kernel_rfl)) ?_
              refine N_run 1 [(5, .pointer ra), (8, .slice (some allBA_4) allN allC), (20, .int .i64 i_2), (21, .pointer (some (Addr.mk b_8 0 none))), (254, .bool (x_25 == 0))] (fun w => by kernel_rfl) ?_
              refine N_end (by kernel_rfl) ?_
              refine S_then ?_
              by_cases c161 : x_25 = 0
              · rw [if_pos c161] at h
                have b162 : (x_25 == 0) = true := beq_iff_eq.mpr c161
                refine S_env [(5, .pointer ra), (8, .slice (some allBA_4) allN allC), (20, .int .i64 i_2), (21, .pointer (some (Addr.mk b_8 0 none))), (254, .bool true)] (by simp only [b162, Bool.not_true, Bool.not_false]) ?_
                clear b162
                refine S_condT (.tmp 254) kk177 kk178 (by kernel_rfl) (by kernel_rfl) ?_
                refine S_seq kk179 kk180 (by kernel_rfl) ?_
                refine S_region 55 (Code.ops kk179) (by kernel_rfl) ?_
                refine N_run 2 [(5, .pointer ra), (8, .slice (some allBA_4) allN allC), (20, .int .i64 i_2), (21, .pointer (some (Addr.mk b_8 0 none))), (256, .pointer ra), (257, .pointer (some (Addr.mk b_8 0 none)))] (fun w => by kernel_rfl) ?_
                obtain ⟨x_26, q163, h⟩ := h
                refine N_val (some 258) (loadN 29 (.pointer (some (Addr.mk b_8 0 none)))) (.int .u64 x_26) (fun w => by kernel_rfl) (loadN_run (loadOK_one (fun w => by kernel_rfl) q163)) [(5, .pointer ra), (8, .slice (some allBA_4) allN allC), (20, .int .i64 i_2), (21, .pointer (some (Addr.mk b_8 0 none))), (256, .pointer ra), (258, .int .u64 x_26)] (ps (by kernel_rfl)) ?_
                refine N_call (some 259) 33 #[.pointer ra, .int .u64 x_26] (fun w => by kernel_rfl) h ?_; clear h
                rintro v_14 H48 ⟨ra_5, rb_5, rfl, h⟩
                refine ⟨[(5, .pointer ra), (8, .slice (some allBA_4) allN allC), (20, .int .i64 i_2), (21, .pointer (some (Addr.mk b_8 0 none))), (259, .tuple #[.int .u64 ra_5, .int .i64 rb_5])], ps (by kernel_rfl), ?_⟩
                refine N_run 5 [(5, .pointer ra), (8, .slice (some allBA_4) allN allC), (20, .int .i64 i_2), (21, .pointer (some (Addr.mk b_8 0 none))), (22, .int .u64 ra_5), (23, .int .i64 rb_5)] (fun w => by kernel_rfl) ?_
                refine N_end (by kernel_rfl) ?_
                refine S_then ?_
                refine S_seq kk181 kk182 (by kernel_rfl) ?_
                refine S_region 56 (Code.ops kk181) (by kernel_rfl) ?_
                refine N_run 2 [(5, .pointer ra), (8, .slice (some allBA_4) allN allC), (20, .int .i64 i_2), (21, .pointer (some (Addr.mk b_8 0 none))), (22, .int .u64 ra_5), (23, .int .i64 rb_5), (263, .pointer ra), (264, .pointer (some (Addr.mk b_8 0 none)))] (fun w => by kernel_rfl) ?_
                obtain ⟨x_27, q164, h⟩ := h
                refine N_val (some 265) (loadN 29 (.pointer (some (Addr.mk b_8 0 none)))) (.int .u64 x_27) (fun w => by kernel_rfl) (loadN_run (loadOK_one (fun w => by kernel_rfl) q164)) [(5, .pointer ra), (8, .slice (some allBA_4) allN allC), (20, .int .i64 i_2), (21, .pointer (some (Addr.mk b_8 0 none))), (22, .int .u64 ra_5), (23, .int .i64 rb_5), (263, .pointer ra), (265, .int .u64 x_27)] (ps (by kernel_rfl)) ?_
                refine N_call (some 266) 34 #[.pointer ra, .int .u64 x_27] (fun w => by kernel_rfl) h ?_; clear h
                rintro v_15 H49 ⟨ra_6, rb_6, rfl, h⟩
                refine ⟨[(5, .pointer ra), (8, .slice (some allBA_4) allN allC), (20, .int .i64 i_2), (21, .pointer (some (Addr.mk b_8 0 none))), (22, .int .u64 ra_5), (23, .int .i64 rb_5), (266, .tuple #[.int .u64 ra_6, .int .i64 rb_6])], ps (by kernel_rfl), ?_⟩
                refine N_run 5 [(5, .pointer ra), (8, .slice (some allBA_4) allN allC), (20, .int .i64 i_2), (21, .pointer (some (Addr.mk b_8 0 none))), (22, .int .u64 ra_5), (23, .int .i64 rb_5), (24, .int .u64 ra_6), (25, .int .i64 rb_6)] (fun w => by kernel_rfl) ?_
                refine N_end (by kernel_rfl) ?_
                refine S_then ?_
                refine S_seq kk183 kk184 (by kernel_rfl) ?_
                refine S_seq kk185 kk186 (by kernel_rfl) ?_
                refine S_region 57 (Code.ops kk185) (by kernel_rfl) ?_
                refine N_run 3 [(5, .pointer ra), (8, .slice (some allBA_4) allN allC), (20, .int .i64 i_2), (21, .pointer (some (Addr.mk b_8 0 none))), (22, .int .u64 ra_5), (24, .int .u64 ra_6), (25, .int .i64 rb_6), (271, .bool (rb_5 != 0))] (fun w => by kernel_rfl) ?_
                by_cases c165 : rb_5 = 0
                · rw [if_pos c165] at h
                  have b166 : (rb_5 != 0) = false := bne_eq_false_iff_eq.mpr c165
                  refine N_env [(5, .pointer ra), (8, .slice (some allBA_4) allN allC), (20, .int .i64 i_2), (21, .pointer (some (Addr.mk b_8 0 none))), (22, .int .u64 ra_5), (24, .int .u64 ra_6), (25, .int .i64 rb_6), (271, .bool false)] (by simp only [b166, Bool.not_true, Bool.not_false]) ?_
                  clear b166
                  refine N_run 4 [(5, .pointer ra), (8, .slice (some allBA_4) allN allC), (20, .int .i64 i_2), (21, .pointer (some (Addr.mk b_8 0 none))), (22, .int .u64 ra_5), (24, .int .u64 ra_6), (275, .bool (rb_6 != 0))] (fun w => by kernel_rfl) ?_
                  by_cases c167 : rb_6 = 0
                  · rw [if_pos c167] at h
                    have b168 : (rb_6 != 0) = false := bne_eq_false_iff_eq.mpr c167
                    refine N_env [(5, .pointer ra), (8, .slice (some allBA_4) allN allC), (20, .int .i64 i_2), (21, .pointer (some (Addr.mk b_8 0 none))), (22, .int .u64 ra_5), (24, .int .u64 ra_6), (275, .bool false)] (by simp only [b168, Bool.not_true, Bool.not_false]) ?_
                    clear b168
                    refine N_run 2 [(5, .pointer ra), (8, .slice (some allBA_4) allN allC), (20, .int .i64 i_2), (21, .pointer (some (Addr.mk b_8 0 none))), (24, .int .u64 ra_6), (275, .bool false), (276, .int .u64 ra_5), (277, .pointer (some ((Addr.mk b_8 0 none).add 2)))] (fun w => by kernel_rfl) ?_
                    obtain ⟨xB_7, xN_8, xC_7, q169, h⟩ := h
                    refine N_val (some 278) (loadN 39 (.pointer (some ((Addr.mk b_8 0 none).add 2)))) (.slice xB_7 xN_8 xC_7) (fun w => by kernel_rfl) (loadN_run (loadOK_one (fun w => by kernel_rfl) q169)) [(5, .pointer ra), (8, .slice (some allBA_4) allN allC), (20, .int .i64 i_2), (21, .pointer (some (Addr.mk b_8 0 none))), (24, .int .u64 ra_6), (275, .bool false), (276, .int .u64 ra_5), (278, .slice xB_7 xN_8 xC_7)] (ps (by kernel_rfl)) ?_
                    obtain ⟨xB7A, rfl, h⟩ := h
                    obtain ⟨q170, h⟩ := h
                    refine N_val (some 279) (indexAtN 39 (.slice (some xB7A) xN_8 xC_7) (.int .i64 0)) (.pointer (some (xB7A.add (Int.toNat 0 * 1)))) (fun w => by kernel_rfl) (fun w _ => indexAt_run (P := Try.prog) (t := 39) (elem := 29) (sz := 1) (a := xB7A) (len := xN_8) (cap := xC_7) (k := .i64) (i := 0) Try.underlying39 (fun w => by kernel_rfl) q170.1 q170.2 w) [(5, .pointer ra), (8, .slice (some allBA_4) allN allC), (20, .int .i64 i_2), (21, .pointer (some (Addr.mk b_8 0 none))), (24, .int .u64 ra_6), (275, .bool false), (276, .int .u64 ra_5), (279, .pointer (some (xB7A.add (Int.toNat 0 * 1))))] (ps (by kernel_rfl)) ?_
                    obtain ⟨x_28, q171, h⟩ := h
                    refine N_val (some 280) (loadN 29 (.pointer (some (xB7A.add (Int.toNat 0 * 1))))) (.int .u64 x_28) (fun w => by kernel_rfl) (loadN_run (loadOK_one (fun w => by kernel_rfl) q171)) [(5, .pointer ra), (8, .slice (some allBA_4) allN allC), (20, .int .i64 i_2), (21, .pointer (some (Addr.mk b_8 0 none))), (24, .int .u64 ra_6), (275, .bool false), (276, .int .u64 ra_5), (280, .int .u64 x_28)] (ps (by kernel_rfl)) ?_
                    refine N_run 3 [(5, .pointer ra), (8, .slice (some allBA_4) allN allC), (20, .int .i64 i_2), (21, .pointer (some (Addr.mk b_8 0 none))), (24, .int .u64 ra_6), (283, .bool (ra_5 != x_28))] (fun w => by kernel_rfl) ?_
                    by_cases c172 : ra_5 = x_28
                    · rw [if_pos c172] at h
                      have b173 : (ra_5 != x_28) = false := bne_eq_false_iff_eq.mpr c172
                      refine N_env [(5, .pointer ra), (8, .slice (some allBA_4) allN allC), (20, .int .i64 i_2), (21, .pointer (some (Addr.mk b_8 0 none))), (24, .int .u64 ra_6), (283, .bool false)] (by simp only [b173, Bool.not_true, Bool.not_false]) ?_
                      clear b173
                      refine N_run 2 [(5, .pointer ra), (8, .slice (some allBA_4) allN allC), (20, .int .i64 i_2), (21, .pointer (some (Addr.mk b_8 0 none))), (283, .bool false), (284, .int .u64 ra_6), (285, .pointer (some ((Addr.mk b_8 0 none).add 2)))] (fun w => by kernel_rfl) ?_
                      obtain ⟨xB_8, xN_9, xC_8, q174, h⟩ := h
                      refine N_val (some 286) (loadN 39 (.pointer (some ((Addr.mk b_8 0 none).add 2)))) (.slice xB_8 xN_9 xC_8) (fun w => by kernel_rfl) (loadN_run (loadOK_one (fun w => by kernel_rfl) q174)) [(5, .pointer ra), (8, .slice (some allBA_4) allN allC), (20, .int .i64 i_2), (21, .pointer (some (Addr.mk b_8 0 none))), (283, .bool false), (284, .int .u64 ra_6), (286, .slice xB_8 xN_9 xC_8)] (ps (by kernel_rfl)) ?_
                      obtain ⟨xB8A, rfl, h⟩ := h
                      obtain ⟨q175, h⟩ := h
                      refine N_val (some 287) (indexAtN 39 (.slice (some xB8A) xN_9 xC_8) (.int .i64 1)) (.pointer (some (xB8A.add (Int.toNat 1 * 1)))) (fun w => by kernel_rfl) (fun w _ => indexAt_run (P := Try.prog) (t := 39) (elem := 29) (sz := 1) (a := xB8A) (len := xN_9) (cap := xC_8) (k := .i64) (i := 1) Try.underlying39 (fun w => by kernel_rfl) q175.1 q175.2 w) [(5, .pointer ra), (8, .slice (some allBA_4) allN allC), (20, .int .i64 i_2), (21, .pointer (some (Addr.mk b_8 0 none))), (283, .bool false), (284, .int .u64 ra_6), (287, .pointer (some (xB8A.add (Int.toNat 1 * 1))))] (ps (by kernel_rfl)) ?_
                      obtain ⟨x_29, q176, h⟩ := h
                      refine N_val (some 288) (loadN 29 (.pointer (some (xB8A.add (Int.toNat 1 * 1))))) (.int .u64 x_29) (fun w => by kernel_rfl) (loadN_run (loadOK_one (fun w => by kernel_rfl) q176)) [(5, .pointer ra), (8, .slice (some allBA_4) allN allC), (20, .int .i64 i_2), (21, .pointer (some (Addr.mk b_8 0 none))), (283, .bool false), (284, .int .u64 ra_6), (288, .int .u64 x_29)] (ps (by kernel_rfl)) ?_
                      refine N_run 3 [(5, .pointer ra), (8, .slice (some allBA_4) allN allC), (20, .int .i64 i_2), (21, .pointer (some (Addr.mk b_8 0 none))), (291, .bool (ra_6 != x_29))] (fun w => by kernel_rfl) ?_
                      by_cases c177 : ra_6 = x_29
                      · rw [if_pos c177] at h
                        have b178 : (ra_6 != x_29) = false := bne_eq_false_iff_eq.mpr c177
                        refine N_env [(5, .pointer ra), (8, .slice (some allBA_4) allN allC), (20, .int .i64 i_2), (21, .pointer (some (Addr.mk b_8 0 none))), (291, .bool false)] (by simp only [b178, Bool.not_true, Bool.not_false]) ?_
                        clear b178
                        refine N_run 2 [(5, .pointer ra), (8, .slice (some allBA_4) allN allC), (20, .int .i64 i_2), (291, .bool false), (292, .pointer ra), (293, .pointer (some (Addr.mk b_8 0 none)))] (fun w => by kernel_rfl) ?_
                        obtain ⟨x_30, q179, h⟩ := h
                        refine N_val (some 294) (loadN 29 (.pointer (some (Addr.mk b_8 0 none)))) (.int .u64 x_30) (fun w => by kernel_rfl) (loadN_run (loadOK_one (fun w => by kernel_rfl) q179)) [(5, .pointer ra), (8, .slice (some allBA_4) allN allC), (20, .int .i64 i_2), (291, .bool false), (292, .pointer ra), (294, .int .u64 x_30)] (ps (by kernel_rfl)) ?_
                        refine N_call (some 295) 35 #[.pointer ra, .int .u64 x_30] (fun w => by kernel_rfl) h ?_; clear h
                        rintro v_16 H50 ⟨x_31, rfl, h⟩
                        refine ⟨[(5, .pointer ra), (8, .slice (some allBA_4) allN allC), (20, .int .i64 i_2), (291, .bool false), (295, .int .i64 x_31)], ps (by kernel_rfl), ?_⟩
                        refine N_run 2 [(5, .pointer ra), (8, .slice (some allBA_4) allN allC), (20, .int .i64 i_2), (297, .bool (x_31 != 2))] (fun w => by kernel_rfl) ?_
                        refine N_end (by kernel_rfl) ?_
                        refine S_then ?_
                        by_cases c180 : x_31 = 2
                        · rw [if_pos c180] at h
                          have b181 : (x_31 != 2) = false := bne_eq_false_iff_eq.mpr c180
                          refine S_env [(5, .pointer ra), (8, .slice (some allBA_4) allN allC), (20, .int .i64 i_2), (297, .bool false)] (by simp only [b181, Bool.not_true, Bool.not_false]) ?_
                          clear b181
                          refine S_condF (.tmp 297) kk187 kk188 (by kernel_rfl) (by kernel_rfl) ?_
                          refine S_skip (by kernel_rfl) ?_
                          refine S_then ?_
                          refine S_exit 10 (by kernel_rfl) ?_
                          refine S_exitThen ?_
                          refine S_exitHere ?_
                          refine S_then ?_
                          refine S_region 52 (Code.ops kk169) (by kernel_rfl) ?_
                          refine N_run 3 [(5, .pointer ra), (8, .slice (some allBA_4) allN allC), (20, .int .i64 (IntKind.wrap .i64 (i_2 + 1)))] (fun w => by kernel_rfl) ?_
                          refine N_end (by kernel_rfl) ?_
                          refine S_then ?_
                          exact S_round ((IntKind.wrap .i64 (i_2 + 1)) : Int) (sb (by kernel_rfl)) h
                        · rw [if_neg c180] at h
                          have b181 : (x_31 != 2) = true := bne_iff_ne.mpr c180
                          refine S_env [(5, .pointer ra), (8, .slice (some allBA_4) allN allC), (20, .int .i64 i_2), (297, .bool true)] (by simp only [b181, Bool.not_true, Bool.not_false]) ?_
                          clear b181
                          refine S_condT (.tmp 297) kk187 kk188 (by kernel_rfl) (by kernel_rfl) ?_
                          refine S_seq kk189 kk190 (by kernel_rfl) ?_
                          refine S_region 58 (Code.ops kk189) (by kernel_rfl) ?_
                          refine N_run 1 [(4, .bool false)] (fun w => by kernel_rfl) ?_
                          refine N_end (by kernel_rfl) ?_
                          refine S_then ?_
                          refine S_ret (by kernel_rfl) ?_
                          show At _ _ _ _ _ (Q .ret)
                          exact S_done (fn := Try.f7) [.bool false] hQ (show ResOK _ _ _ [.tmp 4] _ from .tmp (by kernel_rfl) (.nil)) h
                      · rw [if_neg c177] at h
                        have b178 : (ra_6 != x_29) = true := bne_iff_ne.mpr c177
                        refine N_env [(5, .pointer ra), (8, .slice (some allBA_4) allN allC), (20, .int .i64 i_2), (21, .pointer (some (Addr.mk b_8 0 none))), (291, .bool true)] (by simp only [b178, Bool.not_true, Bool.not_false]) ?_
                        clear b178
                        refine N_run 6 [(5, .pointer ra), (8, .slice (some allBA_4) allN allC), (20, .int .i64 i_2), (297, .bool true)] (fun w => by kernel_rfl) ?_
                        refine N_end (by kernel_rfl) ?_
                        refine S_then ?_
                        refine S_condT (.tmp 297) kk187 kk188 (by kernel_rfl) (by kernel_rfl) ?_
                        refine S_seq kk189 kk190 (by kernel_rfl) ?_
                        refine S_region 58 (Code.ops kk189) (by kernel_rfl) ?_
                        refine N_run 1 [(4, .bool false)] (fun w => by kernel_rfl) ?_
                        refine N_end (by kernel_rfl) ?_
                        refine S_then ?_
                        refine S_ret (by kernel_rfl) ?_
                        show At _ _ _ _ _ (Q .ret)
                        exact S_done (fn := Try.f7) [.bool false] hQ (show ResOK _ _ _ [.tmp 4] _ from .tmp (by kernel_rfl) (.nil)) h
                    · rw [if_neg c172] at h
                      have b173 : (ra_5 != x_28) = true := bne_iff_ne.mpr c172
                      refine N_env [(5, .pointer ra), (8, .slice (some allBA_4) allN allC), (20, .int .i64 i_2), (21, .pointer (some (Addr.mk b_8 0 none))), (24, .int .u64 ra_6), (283, .bool true)] (by simp only [b173, Bool.not_true, Bool.not_false]) ?_
                      clear b173
                      refine N_run 14 [(5, .pointer ra), (8, .slice (some allBA_4) allN allC), (20, .int .i64 i_2), (297, .bool true)] (fun w => by kernel_rfl) ?_
                      refine N_end (by kernel_rfl) ?_
                      refine S_then ?_
                      refine S_condT (.tmp 297) kk187 kk188 (by kernel_rfl) (by kernel_rfl) ?_
                      refine S_seq kk189 kk190 (by kernel_rfl) ?_
                      refine S_region 58 (Code.ops kk189) (by kernel_rfl) ?_
                      refine N_run 1 [(4, .bool false)] (fun w => by kernel_rfl) ?_
                      refine N_end (by kernel_rfl) ?_
                      refine S_then ?_
                      refine S_ret (by kernel_rfl) ?_
                      show At _ _ _ _ _ (Q .ret)
                      exact S_done (fn := Try.f7) [.bool false] hQ (show ResOK _ _ _ [.tmp 4] _ from .tmp (by kernel_rfl) (.nil)) h
                  · rw [if_neg c167] at h
                    have b168 : (rb_6 != 0) = true := bne_iff_ne.mpr c167
                    refine N_env [(5, .pointer ra), (8, .slice (some allBA_4) allN allC), (20, .int .i64 i_2), (21, .pointer (some (Addr.mk b_8 0 none))), (22, .int .u64 ra_5), (24, .int .u64 ra_6), (275, .bool true)] (by simp only [b168, Bool.not_true, Bool.not_false]) ?_
                    clear b168
                    refine N_run 22 [(5, .pointer ra), (8, .slice (some allBA_4) allN allC), (20, .int .i64 i_2), (297, .bool true)] (fun w => by kernel_rfl) ?_
                    refine N_end (by kernel_rfl) ?_
                    refine S_then ?_
                    refine S_condT (.tmp 297) kk187 kk188 (by kernel_rfl) (by kernel_rfl) ?_
                    refine S_seq kk189 kk190 (by kernel_rfl) ?_
                    refine S_region 58 (Code.ops kk189) (by kernel_rfl) ?_
                    refine N_run 1 [(4, .bool false)] (fun w => by kernel_rfl) ?_
                    refine N_end (by kernel_rfl) ?_
                    refine S_then ?_
                    refine S_ret (by kernel_rfl) ?_
                    show At _ _ _ _ _ (Q .ret)
                    exact S_done (fn := Try.f7) [.bool false] hQ (show ResOK _ _ _ [.tmp 4] _ from .tmp (by kernel_rfl) (.nil)) h
                · rw [if_neg c165] at h
                  have b166 : (rb_5 != 0) = true := bne_iff_ne.mpr c165
                  refine N_env [(5, .pointer ra), (8, .slice (some allBA_4) allN allC), (20, .int .i64 i_2), (21, .pointer (some (Addr.mk b_8 0 none))), (22, .int .u64 ra_5), (24, .int .u64 ra_6), (25, .int .i64 rb_6), (271, .bool true)] (by simp only [b166, Bool.not_true, Bool.not_false]) ?_
                  clear b166
                  refine N_run 26 [(5, .pointer ra), (8, .slice (some allBA_4) allN allC), (20, .int .i64 i_2), (297, .bool true)] (fun w => by kernel_rfl) ?_
                  refine N_end (by kernel_rfl) ?_
                  refine S_then ?_
                  refine S_condT (.tmp 297) kk187 kk188 (by kernel_rfl) (by kernel_rfl) ?_
                  refine S_seq kk189 kk190 (by kernel_rfl) ?_
                  refine S_region 58 (Code.ops kk189) (by kernel_rfl) ?_
                  refine N_run 1 [(4, .bool false)] (fun w => by kernel_rfl) ?_
                  refine N_end (by kernel_rfl) ?_
                  refine S_then ?_
                  refine S_ret (by kernel_rfl) ?_
                  show At _ _ _ _ _ (Q .ret)
                  exact S_done (fn := Try.f7) [.bool false] hQ (show ResOK _ _ _ [.tmp 4] _ from .tmp (by kernel_rfl) (.nil)) h
              · rw [if_neg c161] at h
                have b162 : (x_25 == 0) = false := beq_eq_false_iff_ne.mpr c161
                refine S_env [(5, .pointer ra), (8, .slice (some allBA_4) allN allC), (20, .int .i64 i_2), (21, .pointer (some (Addr.mk b_8 0 none))), (254, .bool false)] (by simp only [b162, Bool.not_true, Bool.not_false]) ?_
                clear b162
                refine S_condF (.tmp 254) kk177 kk178 (by kernel_rfl) (by kernel_rfl) ?_
                refine S_skip (by kernel_rfl) ?_
                refine S_then ?_
                refine S_seq kk191 kk192 (by kernel_rfl) ?_
                refine S_seq kk193 kk194 (by kernel_rfl) ?_
                obtain ⟨x_32, q182, h⟩ := h
                obtain ⟨x_33, q183, h⟩ := h
                obtain ⟨x_34, q184, h⟩ := h
                obtain ⟨xB_9, xN_10, xC_9, q185, h⟩ := h
                obtain ⟨x_35, q186, h⟩ := h
                obtain ⟨xB_10, xN_11, xC_10, q187, h⟩ := h
                refine S_regionG 59 (Code.ops kk193) [(3, (Addr.mk b_8 0 none), [.int .u64 x_32]), (28, ((Addr.mk b_8 0 none).add 1), [.int .i64 x_33]), (28, (Addr.mk b_8 0 none), [.int .u64 x_34]), (28, ((Addr.mk b_8 0 none).add 2), [.slice xB_9 xN_10 xC_9]), (28, (Addr.mk b_8 0 none), [.int .u64 x_35]), (28, ((Addr.mk b_8 0 none).add 2), [.slice xB_10 xN_11 xC_10])] 28 #[false, false, false, false, false, false, false, false, false, false, false, false, false, false, false, false, false, false, false, false, false, false, false, false, false, false, false, false] (by kernel_rfl) (by kernel_rfl) (by kernel_rfl) (by kernel_rfl) (by kernel_rfl) (show FactsAt _ _ _ from ⟨⟨q182, trivial⟩, ⟨q183, trivial⟩, ⟨q184, trivial⟩, ⟨q185, trivial⟩, ⟨q186, trivial⟩, ⟨q187, trivial⟩, trivial⟩) ?_
                refine G_take 0 (some 298) (.pointer ra) #[true, false, false, false, false, false, false, false, false, false, false, false, false, false, false, false, false, false, false, false, false, false, false, false, false, false, false, false] [(5, .pointer ra), (8, .slice (some allBA_4) allN allC), (20, .int .i64 i_2), (21, .pointer (some (Addr.mk b_8 0 none))), (298, .pointer ra)] ((pure (.value (.pointer ra)) : Sem Next)) (fun w => by kernel_rfl) (fun _ _ _ _ _ => rfl) (by kernel_rfl) (by kernel_rfl) (by kernel_rfl) (by kernel_rfl) (by kernel_rfl) (by kernel_rfl) (ps (by kernel_rfl)) ?_
                refine G_take 1 (some 299) (.pointer (some (Addr.mk b_8 0 none))) #[true, true, false, false, false, false, false, false, false, false, false, false, false, false, false, false, false, false, false, false, false, false, false, false, false, false, false, false] [(5, .pointer ra), (8, .slice (some allBA_4) allN allC), (20, .int .i64 i_2), (21, .pointer (some (Addr.mk b_8 0 none))), (298, .pointer ra), (299, .pointer (some (Addr.mk b_8 0 none)))] ((pure (.value (.pointer (some (Addr.mk b_8 0 none)))) : Sem Next)) (fun w => by kernel_rfl) (fun _ _ _ _ _ => rfl) (by kernel_rfl) (by kernel_rfl) (by kernel_rfl) (by kernel_rfl) (by kernel_rfl) (by kernel_rfl) (ps (by kernel_rfl)) ?_
                refine G_take 2 (some 300) (.int .u64 x_32) #[true, true, true, false, false, false, false, false, false, false, false, false, false, false, false, false, false, false, false, false, false, false, false, false, false, false, false, false] [(5, .pointer ra), (8, .slice (some allBA_4) allN allC), (20, .int .i64 i_2), (21, .pointer (some (Addr.mk b_8 0 none))), (298, .pointer ra), (300, .int .u64 x_32)] (loadN 29 (.pointer (some (Addr.mk b_8 0 none)))) (fun w => by kernel_rfl) (held_one 3 (fun w => by kernel_rfl) (List.Mem.head _) (.inl (by kernel_rfl))) (by kernel_rfl) (by kernel_rfl) (by kernel_rfl) (by kernel_rfl) (by kernel_rfl) (by kernel_rfl) (ps (by kernel_rfl)) ?_
                refine G_take 4 (some 302) (.pointer (some ((Addr.mk b_8 0 none).add 1))) #[true, true, true, false, true, false, false, false, false, false, false, false, false, false, false, false, false, false, false, false, false, false, false, false, false, false, false, false] [(5, .pointer ra), (8, .slice (some allBA_4) allN allC), (20, .int .i64 i_2), (21, .pointer (some (Addr.mk b_8 0 none))), (298, .pointer ra), (300, .int .u64 x_32), (302, .pointer (some ((Addr.mk b_8 0 none).add 1)))] ((pure (.value (.pointer (some ((Addr.mk b_8 0 none).add 1)))) : Sem Next)) (fun w => by kernel_rfl) (fun _ _ _ _ _ => rfl) (by kernel_rfl) (by kernel_rfl) (by kernel_rfl) (by kernel_rfl) (by kernel_rfl) (by kernel_rfl) (ps (by kernel_rfl)) ?_
                refine G_take 5 (some 303) (.int .i64 x_33) #[true, true, true, false, true, true, false, false, false, false, false, false, false, false, false, false, false, false, false, false, false, false, false, false, false, false, false, false] [(5, .pointer ra), (8, .slice (some allBA_4) allN allC), (20, .int .i64 i_2), (21, .pointer (some (Addr.mk b_8 0 none))), (298, .pointer ra), (300, .int .u64 x_32), (303, .int .i64 x_33)] (loadN 3 (.pointer (some ((Addr.mk b_8 0 none).add 1)))) (fun w => by kernel_rfl) (held_one 28 (fun w => by kernel_rfl) (List.Mem.tail _ (List.Mem.head _)) (.inr (by kernel_rfl))) (by kernel_rfl) (by kernel_rfl) (by kernel_rfl) (by kernel_rfl) (by kernel_rfl) (by kernel_rfl) (ps (by kernel_rfl)) ?_
                refine G_call 3 (some 301) #[true, true, true, true, true, true, false, false, false, false, false, false, false, false, false, false, false, false, false, false, false, false, false, false, false, false, false, false] 36 #[.pointer ra, .int .u64 x_32] (by kernel_rfl) (fun w => by kernel_rfl) h (by kernel_rfl) ?_; clear h
                rintro v_17 H51 ⟨x_36, rfl, h⟩
                obtain ⟨f188, f189, f190, f191, f192, h⟩ := h
                refine ⟨[(5, .pointer ra), (8, .slice (some allBA_4) allN allC), (20, .int .i64 i_2), (21, .pointer (some (Addr.mk b_8 0 none))), (301, .int .i64 x_36), (303, .int .i64 x_33)], ps (by kernel_rfl), (show FactsAt _ _ _ from ⟨trivial, f188, f189, f190, f191, f192, trivial⟩), ?_⟩
                refine G_take 6 (some 304) (.bool (x_36 != x_33)) #[true, true, true, true, true, true, true, false, false, false, false, false, false, false, false, false, false, false, false, false, false, false, false, false, false, false, false, false] [(5, .pointer ra), (8, .slice (some allBA_4) allN allC), (20, .int .i64 i_2), (21, .pointer (some (Addr.mk b_8 0 none))), (304, .bool (x_36 != x_33))] (pure (.value (.bool (x_36 != x_33))) : Sem Next) (fun w => by kernel_rfl) (fun _ _ _ _ _ => rfl) (by kernel_rfl) (by kernel_rfl) (by kernel_rfl) (by kernel_rfl) (by kernel_rfl) (by kernel_rfl) (ps (by kernel_rfl)) ?_
                refine G_take 7 (some 305) (.bool (x_36 != x_33)) #[true, true, true, true, true, true, true, true, false, false, false, false, false, false, false, false, false, false, false, false, false, false, false, false, false, false, false, false] [(5, .pointer ra), (8, .slice (some allBA_4) allN allC), (20, .int .i64 i_2), (21, .pointer (some (Addr.mk b_8 0 none))), (305, .bool (x_36 != x_33))] (pure (.value (.bool (x_36 != x_33))) : Sem Next) (fun w => by kernel_rfl) (fun _ _ _ _ _ => rfl) (by kernel_rfl) (by kernel_rfl) (by kernel_rfl) (by kernel_rfl) (by kernel_rfl) (by kernel_rfl) (ps (by kernel_rfl)) ?_
                by_cases c193 : x_36 = x_33
                · rw [if_pos c193] at h
                  have b194 : (x_36 != x_33) = false := bne_eq_false_iff_eq.mpr c193
                  refine G_env [(5, .pointer ra), (8, .slice (some allBA_4) allN allC), (20, .int .i64 i_2), (21, .pointer (some (Addr.mk b_8 0 none))), (305, .bool false)] (by simp only [b194, Bool.not_true, Bool.not_false]) ?_
                  clear b194
                  refine G_take 8 (some 306) (.pointer ra) #[true, true, true, true, true, true, true, true, true, false, false, false, false, false, false, false, false, false, false, false, false, false, false, false, false, false, false, false] [(5, .pointer ra), (8, .slice (some allBA_4) allN allC), (20, .int .i64 i_2), (21, .pointer (some (Addr.mk b_8 0 none))), (305, .bool false), (306, .pointer ra)] (pure (.value (.pointer ra)) : Sem Next) (fun w => by kernel_rfl) (fun _ _ _ _ _ => rfl) (by kernel_rfl) (by kernel_rfl) (by kernel_rfl) (by kernel_rfl) (by kernel_rfl) (by kernel_rfl) (ps (by kernel_rfl)) ?_
                  refine G_take 9 (some 307) (.pointer (some (Addr.mk b_8 0 none))) #[true, true, true, true, true, true, true, true, true, true, false, false, false, false, false, false, false, false, false, false, false, false, false, false, false, false, false, false] [(5, .pointer ra), (8, .slice (some allBA_4) allN allC), (20, .int .i64 i_2), (21, .pointer (some (Addr.mk b_8 0 none))), (305, .bool false), (306, .pointer ra), (307, .pointer (some (Addr.mk b_8 0 none)))] (pure (.value (.pointer (some (Addr.mk b_8 0 none)))) : Sem Next) (fun w => by kernel_rfl) (fun _ _ _ _ _ => rfl) (by kernel_rfl) (by kernel_rfl) (by kernel_rfl) (by kernel_rfl) (by kernel_rfl) (by kernel_rfl) (ps (by kernel_rfl)) ?_
                  refine G_take 10 (some 308) (.int .u64 x_34) #[true, true, true, true, true, true, true, true, true, true, true, false, false, false, false, false, false, false, false, false, false, false, false, false, false, false, false, false] [(5, .pointer ra), (8, .slice (some allBA_4) allN allC), (20, .int .i64 i_2), (21, .pointer (some (Addr.mk b_8 0 none))), (305, .bool false), (306, .pointer ra), (308, .int .u64 x_34)] (loadN 29 (.pointer (some (Addr.mk b_8 0 none)))) (fun w => by kernel_rfl) (held_one 28 (fun w => by kernel_rfl) (List.Mem.tail _ (List.Mem.tail _ (List.Mem.head _))) (.inr (by kernel_rfl))) (by kernel_rfl) (by kernel_rfl) (by kernel_rfl) (by kernel_rfl) (by kernel_rfl) (by kernel_rfl) (ps (by kernel_rfl)) ?_
                  refine G_take 12 (some 310) (.pointer (some ((Addr.mk b_8 0 none).add 2))) #[true, true, true, true, true, true, true, true, true, true, true, false, true, false, false, false, false, false, false, false, false, false, false, false, false, false, false, false] [(5, .pointer ra), (8, .slice (some allBA_4) allN allC), (20, .int .i64 i_2), (21, .pointer (some (Addr.mk b_8 0 none))), (305, .bool false), (306, .pointer ra), (308, .int .u64 x_34), (310, .pointer (some ((Addr.mk b_8 0 none).add 2)))] (pure (.value (.pointer (some ((Addr.mk b_8 0 none).add 2)))) : Sem Next) (fun w => by kernel_rfl) (fun _ _ _ _ _ => rfl) (by kernel_rfl) (by kernel_rfl) (by kernel_rfl) (by kernel_rfl) (by kernel_rfl) (by kernel_rfl) (ps (by kernel_rfl)) ?_
                  refine G_take 13 (some 311) (.slice xB_9 xN_10 xC_9) #[true, true, true, true, true, true, true, true, true, true, true, false, true, true, false, false, false, false, false, false, false, false, false, false, false, false, false, false] [(5, .pointer ra), (8, .slice (some allBA_4) allN allC), (20, .int .i64 i_2), (21, .pointer (some (Addr.mk b_8 0 none))), (305, .bool false), (306, .pointer ra), (308, .int .u64 x_34), (311, .slice xB_9 xN_10 xC_9)] (loadN 39 (.pointer (some ((Addr.mk b_8 0 none).add 2)))) (fun w => by kernel_rfl) (held_one 28 (fun w => by kernel_rfl) (List.Mem.tail _ (List.Mem.tail _ (List.Mem.tail _ (List.Mem.head _)))) (.inr (by kernel_rfl))) (by kernel_rfl) (by kernel_rfl) (by kernel_rfl) (by kernel_rfl) (by kernel_rfl) (by kernel_rfl) (ps (by kernel_rfl)) ?_
                  refine G_take 14 (some 312) (.int .i64 (xN_10 : Int)) #[true, true, true, true, true, true, true, true, true, true, true, false, true, true, true, false, false, false, false, false, false, false, false, false, false, false, false, false] [(5, .pointer ra), (8, .slice (some allBA_4) allN allC), (20, .int .i64 i_2), (21, .pointer (some (Addr.mk b_8 0 none))), (305, .bool false), (306, .pointer ra), (308, .int .u64 x_34), (312, .int .i64 (xN_10 : Int))] (pure (.value (.int .i64 (xN_10 : Int))) : Sem Next) (fun w => by kernel_rfl) (fun _ _ _ _ _ => rfl) (by kernel_rfl) (by kernel_rfl) (by kernel_rfl) (by kernel_rfl) (by kernel_rfl) (by kernel_rfl) (ps (by kernel_rfl)) ?_
                  refine G_call 11 (some 309) #[true, true, true, true, true, true, true, true, true, true, true, true, true, true, true, false, false, false, false, false, false, false, false, false, false, false, false, false] 37 #[.pointer ra, .int .u64 x_34] (by kernel_rfl) (fun w => by kernel_rfl) h (by kernel_rfl) ?_; clear h
                  rintro v_18 H52 ⟨x_37, rfl, h⟩
                  obtain ⟨f195, f196, f197, f198, f199, h⟩ := h
                  refine ⟨[(5, .pointer ra), (8, .slice (some allBA_4) allN allC), (20, .int .i64 i_2), (21, .pointer (some (Addr.mk b_8 0 none))), (305, .bool false), (309, .int .i64 x_37), (312, .int .i64 (xN_10 : Int))], ps (by kernel_rfl), (show FactsAt _ _ _ from ⟨trivial, f195, f196, f197, f198, f199, trivial⟩), ?_⟩
                  refine G_take 15 (some 313) (.bool (x_37 != (xN_10 : Int))) #[true, true, true, true, true, true, true, true, true, true, true, true, true, true, true, true, false, false, false, false, false, false, false, false, false, false, false, false] [(5, .pointer ra), (8, .slice (some allBA_4) allN allC), (20, .int .i64 i_2), (21, .pointer (some (Addr.mk b_8 0 none))), (305, .bool false), (313, .bool (x_37 != (xN_10 : Int)))] (pure (.value (.bool (x_37 != (xN_10 : Int)))) : Sem Next) (fun w => by kernel_rfl) (fun _ _ _ _ _ => rfl) (by kernel_rfl) (by kernel_rfl) (by kernel_rfl) (by kernel_rfl) (by kernel_rfl) (by kernel_rfl) (ps (by kernel_rfl)) ?_
                  refine G_take 16 (some 314) (.bool (x_37 != (xN_10 : Int))) #[true, true, true, true, true, true, true, true, true, true, true, true, true, true, true, true, true, false, false, false, false, false, false, false, false, false, false, false] [(5, .pointer ra), (8, .slice (some allBA_4) allN allC), (20, .int .i64 i_2), (21, .pointer (some (Addr.mk b_8 0 none))), (314, .bool (x_37 != (xN_10 : Int)))] (pure (.value (.bool (x_37 != (xN_10 : Int)))) : Sem Next) (fun w => by kernel_rfl) (fun _ _ _ _ _ => rfl) (by kernel_rfl) (by kernel_rfl) (by kernel_rfl) (by kernel_rfl) (by kernel_rfl) (by kernel_rfl) (ps (by kernel_rfl)) ?_
                  refine G_take 17 (some 315) (.bool (x_37 != (xN_10 : Int))) #[true, true, true, true, true, true, true, true, true, true, true, true, true, true, true, true, true, true, false, false, false, false, false, false, false, false, false, false] [(5, .pointer ra), (8, .slice (some allBA_4) allN allC), (20, .int .i64 i_2), (21, .pointer (some (Addr.mk b_8 0 none))), (315, .bool (x_37 != (xN_10 : Int)))] (pure (.value (.bool (x_37 != (xN_10 : Int)))) : Sem Next) (fun w => by kernel_rfl) (fun _ _ _ _ _ => rfl) (by kernel_rfl) (by kernel_rfl) (by kernel_rfl) (by kernel_rfl) (by kernel_rfl) (by kernel_rfl) (ps (by kernel_rfl)) ?_
                  by_cases c200 : x_37 = (xN_10 : Int)
                  · rw [if_pos c200] at h
                    have b201 : (x_37 != (xN_10 : Int)) = false := bne_eq_false_iff_eq.mpr c200
                    refine G_env [(5, .pointer ra), (8, .slice (some allBA_4) allN allC), (20, .int .i64 i_2), (21, .pointer (some (Addr.mk b_8 0 none))), (315, .bool false)] (by simp only [b201, Bool.not_true, Bool.not_false]) ?_
                    clear b201
                    refine G_take 18 (some 316) (.pointer ra) #[true, true, true, true, true, true, true, true, true, true, true, true, true, true, true, true, true, true, true, false, false, false, false, false, false, false, false, false] [(5, .pointer ra), (8, .slice (some allBA_4) allN allC), (20, .int .i64 i_2), (21, .pointer (some (Addr.mk b_8 0 none))), (315, .bool false), (316, .pointer ra)] (pure (.value (.pointer ra)) : Sem Next) (fun w => by kernel_rfl) (fun _ _ _ _ _ => rfl) (by kernel_rfl) (by kernel_rfl) (by kernel_rfl) (by kernel_rfl) (by kernel_rfl) (by kernel_rfl) (ps (by kernel_rfl)) ?_
                    refine G_take 19 (some 317) (.pointer (some (Addr.mk b_8 0 none))) #[true, true, true, true, true, true, true, true, true, true, true, true, true, true, true, true, true, true, true, true, false, false, false, false, false, false, false, false] [(5, .pointer ra), (8, .slice (some allBA_4) allN allC), (20, .int .i64 i_2), (21, .pointer (some (Addr.mk b_8 0 none))), (315, .bool false), (316, .pointer ra), (317, .pointer (some (Addr.mk b_8 0 none)))] (pure (.value (.pointer (some (Addr.mk b_8 0 none)))) : Sem Next) (fun w => by kernel_rfl) (fun _ _ _ _ _ => rfl) (by kernel_rfl) (by kernel_rfl) (by kernel_rfl) (by kernel_rfl) (by kernel_rfl) (by kernel_rfl) (ps (by kernel_rfl)) ?_
                    refine G_take 20 (some 318) (.int .u64 x_35) #[true, true, true, true, true, true, true, true, true, true, true, true, true, true, true, true, true, true, true, true, true, false, false, false, false, false, false, false] [(5, .pointer ra), (8, .slice (some allBA_4) allN allC), (20, .int .i64 i_2), (21, .pointer (some (Addr.mk b_8 0 none))), (315, .bool false), (316, .pointer ra), (318, .int .u64 x_35)] (loadN 29 (.pointer (some (Addr.mk b_8 0 none)))) (fun w => by kernel_rfl) (held_one 28 (fun w => by kernel_rfl) (List.Mem.tail _ (List.Mem.tail _ (List.Mem.tail _ (List.Mem.tail _ (List.Mem.head _))))) (.inr (by kernel_rfl))) (by kernel_rfl) (by kernel_rfl) (by kernel_rfl) (by kernel_rfl) (by kernel_rfl) (by kernel_rfl) (ps (by kernel_rfl)) ?_
                    refine G_take 22 (some 320) (.pointer (some ((Addr.mk b_8 0 none).add 2))) #[true, true, true, true, true, true, true, true, true, true, true, true, true, true, true, true, true, true, true, true, true, false, true, false, false, false, false, false] [(5, .pointer ra), (8, .slice (some allBA_4) allN allC), (20, .int .i64 i_2), (21, .pointer (some (Addr.mk b_8 0 none))), (315, .bool false), (316, .pointer ra), (318, .int .u64 x_35), (320, .pointer (some ((Addr.mk b_8 0 none).add 2)))] (pure (.value (.pointer (some ((Addr.mk b_8 0 none).add 2)))) : Sem Next) (fun w => by kernel_rfl) (fun _ _ _ _ _ => rfl) (by kernel_rfl) (by kernel_rfl) (by kernel_rfl) (by kernel_rfl) (by kernel_rfl) (by kernel_rfl) (ps (by kernel_rfl)) ?_
                    refine G_take 23 (some 321) (.slice xB_10 xN_11 xC_10) #[true, true, true, true, true, true, true, true, true, true, true, true, true, true, true, true, true, true, true, true, true, false, true, true, false, false, false, false] [(5, .pointer ra), (8, .slice (some allBA_4) allN allC), (20, .int .i64 i_2), (21, .pointer (some (Addr.mk b_8 0 none))), (315, .bool false), (316, .pointer ra), (318, .int .u64 x_35), (321, .slice xB_10 xN_11 xC_10)] (loadN 39 (.pointer (some ((Addr.mk b_8 0 none).add 2)))) (fun w => by kernel_rfl) (held_one 28 (fun w => by kernel_rfl) (List.Mem.tail _ (List.Mem.tail _ (List.Mem.tail _ (List.Mem.tail _ (List.Mem.tail _ (List.Mem.head _)))))) (.inr (by kernel_rfl))) (by kernel_rfl) (by kernel_rfl) (by kernel_rfl) (by kernel_rfl) (by kernel_rfl) (by kernel_rfl) (ps (by kernel_rfl)) ?_
                    refine G_take 24 (some 322) (.int .i64 (xN_11 : Int)) #[true, true, true, true, true, true, true, true, true, true, true, true, true, true, true, true, true, true, true, true, true, false, true, true, true, false, false, false] [(5, .pointer ra), (8, .slice (some allBA_4) allN allC), (20, .int .i64 i_2), (21, .pointer (some (Addr.mk b_8 0 none))), (315, .bool false), (316, .pointer ra), (318, .int .u64 x_35), (322, .int .i64 (xN_11 : Int))] (pure (.value (.int .i64 (xN_11 : Int))) : Sem Next) (fun w => by kernel_rfl) (fun _ _ _ _ _ => rfl) (by kernel_rfl) (by kernel_rfl) (by kernel_rfl) (by kernel_rfl) (by kernel_rfl) (by kernel_rfl) (ps (by kernel_rfl)) ?_
                    refine G_take 25 (some 323) (.int .i64 (IntKind.wrap .i64 (1 + (xN_11 : Int)))) #[true, true, true, true, true, true, true, true, true, true, true, true, true, true, true, true, true, true, true, true, true, false, true, true, true, true, false, false] [(5, .pointer ra), (8, .slice (some allBA_4) allN allC), (20, .int .i64 i_2), (21, .pointer (some (Addr.mk b_8 0 none))), (315, .bool false), (316, .pointer ra), (318, .int .u64 x_35), (323, .int .i64 (IntKind.wrap .i64 (1 + (xN_11 : Int))))] (pure (.value (.int .i64 (IntKind.wrap .i64 (1 + (xN_11 : Int))))) : Sem Next) (fun w => by kernel_rfl) (fun _ _ _ _ _ => rfl) (by kernel_rfl) (by kernel_rfl) (by kernel_rfl) (by kernel_rfl) (by kernel_rfl) (by kernel_rfl) (ps (by kernel_rfl)) ?_
                    refine G_call 21 (some 319) #[true, true, true, true, true, true, true, true, true, true, true, true, true, true, true, true, true, true, true, true, true, true, true, true, true, true, false, false] 35 #[.pointer ra, .int .u64 x_35] (by kernel_rfl) (fun w => by kernel_rfl) h (by kernel_rfl) ?_; clear h
                    rintro v_19 H53 ⟨x_38, rfl, h⟩
                    obtain ⟨f202, f203, f204, f205, f206, h⟩ := h
                    refine ⟨[(5, .pointer ra), (8, .slice (some allBA_4) allN allC), (20, .int .i64 i_2), (21, .pointer (some (Addr.mk b_8 0 none))), (315, .bool false), (319, .int .i64 x_38), (323, .int .i64 (IntKind.wrap .i64 (1 + (xN_11 : Int))))], ps (by kernel_rfl), (show FactsAt _ _ _ from ⟨trivial, f202, f203, f204, f205, f206, trivial⟩), ?_⟩
                    refine G_take 26 (some 324) (.bool (x_38 != (IntKind.wrap .i64 (1 + (xN_11 : Int))))) #[true, true, true, true, true, true, true, true, true, true, true, true, true, true, true, true, true, true, true, true, true, true, true, true, true, true, true, false] [(5, .pointer ra), (8, .slice (some allBA_4) allN allC), (20, .int .i64 i_2), (21, .pointer (some (Addr.mk b_8 0 none))), (315, .bool false), (324, .bool (x_38 != (IntKind.wrap .i64 (1 + (xN_11 : Int)))))] (pure (.value (.bool (x_38 != (IntKind.wrap .i64 (1 + (xN_11 : Int)))))) : Sem Next) (fun w => by kernel_rfl) (fun _ _ _ _ _ => rfl) (by kernel_rfl) (by kernel_rfl) (by kernel_rfl) (by kernel_rfl) (by kernel_rfl) (by kernel_rfl) (ps (by kernel_rfl)) ?_
                    refine G_take 27 (some 325) (.bool (x_38 != (IntKind.wrap .i64 (1 + (xN_11 : Int))))) #[true, true, true, true, true, true, true, true, true, true, true, true, true, true, true, true, true, true, true, true, true, true, true, true, true, true, true, true] [(5, .pointer ra), (8, .slice (some allBA_4) allN allC), (20, .int .i64 i_2), (21, .pointer (some (Addr.mk b_8 0 none))), (325, .bool (x_38 != (IntKind.wrap .i64 (1 + (xN_11 : Int)))))] (pure (.value (.bool (x_38 != (IntKind.wrap .i64 (1 + (xN_11 : Int)))))) : Sem Next) (fun w => by kernel_rfl) (fun _ _ _ _ _ => rfl) (by kernel_rfl) (by kernel_rfl) (by kernel_rfl) (by kernel_rfl) (by kernel_rfl) (by kernel_rfl) (ps (by kernel_rfl)) ?_
                    refine G_sub [(5, .pointer ra), (8, .slice (some allBA_4) allN allC), (20, .int .i64 i_2), (21, .pointer (some (Addr.mk b_8 0 none))), (325, .bool (x_38 != (IntKind.wrap .i64 (1 + (xN_11 : Int)))))] (sb (by kernel_rfl)) ?_
                    refine G_end (by kernel_rfl) ?_
                    refine S_then ?_
                    by_cases c207 : x_38 = (IntKind.wrap .i64 (1 + (xN_11 : Int)))
                    · rw [if_pos c207] at h
                      have b208 : (x_38 != (IntKind.wrap .i64 (1 + (xN_11 : Int)))) = false := bne_eq_false_iff_eq.mpr c207
                      refine S_env [(5, .pointer ra), (8, .slice (some allBA_4) allN allC), (20, .int .i64 i_2), (21, .pointer (some (Addr.mk b_8 0 none))), (325, .bool false)] (by simp only [b208, Bool.not_true, Bool.not_false]) ?_
                      clear b208
                      refine S_condF (.tmp 325) kk195 kk196 (by kernel_rfl) (by kernel_rfl) ?_
                      refine S_skip (by kernel_rfl) ?_
                      refine S_then ?_
                      refine S_seq kk197 kk198 (by kernel_rfl) ?_
                      refine S_region 61 (Code.ops kk197) (by kernel_rfl) ?_
                      refine N_run 1 [(5, .pointer ra), (8, .slice (some allBA_4) allN allC), (20, .int .i64 i_2), (21, .pointer (some (Addr.mk b_8 0 none))), (26, .int .i64 0)] (fun w => by kernel_rfl) ?_
                      refine N_end (by kernel_rfl) ?_
                      refine S_then ?_
                      refine S_block 11 kk199 (by kernel_rfl) ?_
                      obtain ⟨I201, m201, i209, i210⟩ := h
                      refine S_loop (x := kk200) (σ := Int) (fun s_ => [(5, .pointer ra), (8, .slice (some allBA_4) allN allC), (20, .int .i64 i_2), (21, .pointer (some (Addr.mk b_8 0 none))), (26, .int .i64 s_)]) (fun s_ H => I201 s_ H) (fun s_ H => m201 s_ H) (0 : Int) (by kernel_rfl) i209 (sb (by kernel_rfl)) ?_
                      rintro k_4 H54 i211
                      have h := i210 k_4 H54 i211
                      refine S_sub [(5, .pointer ra), (8, .slice (some allBA_4) allN allC), (20, .int .i64 i_2), (21, .pointer (some (Addr.mk b_8 0 none))), (26, .int .i64 k_4)] (sb (by kernel_rfl)) ?_
                      refine S_seq kk201 kk202 (by kernel_rfl) ?_
                      refine S_seq kk203 kk204 (by kernel_rfl) ?_
                      refine S_region 62 (Code.ops kk203) (by kernel_rfl) ?_
                      refine N_run 2 [(5, .pointer ra), (8, .slice (some allBA_4) allN allC), (20, .int .i64 i_2), (21, .pointer (some (Addr.mk b_8 0 none))), (26, .int .i64 k_4), (326, .int .i64 k_4), (327, .pointer (some ((Addr.mk b_8 0 none).add 2)))] (fun w => by kernel_rfl) ?_
                      obtain ⟨xB_11, xN_12, xC_11, q212, h⟩ := h
                      refine N_val (some 328) (loadN 39 (.pointer (some ((Addr.mk b_8 0 none).add 2)))) (.slice xB_11 xN_12 xC_11) (fun w => by kernel_rfl) (loadN_run (loadOK_one (fun w => by kernel_rfl) q212)) [(5, .pointer ra), (8, .slice (some allBA_4) allN allC), (20, .int .i64 i_2), (21, .pointer (some (Addr.mk b_8 0 none))), (26, .int .i64 k_4), (326, .int .i64 k_4), (328, .slice xB_11 xN_12 xC_11)] (ps (by kernel_rfl)) ?_
                      refine N_run 2 [(5, .pointer ra), (8, .slice (some allBA_4) allN allC), (20, .int .i64 i_2), (21, .pointer (some (Addr.mk b_8 0 none))), (26, .int .i64 k_4), (330, .bool (decide (k_4 < (xN_12 : Int))))] (fun w => by kernel_rfl) ?_
                      refine N_end (by kernel_rfl) ?_
                      refine S_then ?_
                      by_cases c213 : k_4 < (xN_12 : Int)
                      · rw [if_pos c213] at h
                        have b214 : (decide (k_4 < (xN_12 : Int))) = true := decide_eq_true c213
                        refine S_env [(5, .pointer ra), (8, .slice (some allBA_4) allN allC), (20, .int .i64 i_2), (21, .pointer (some (Addr.mk b_8 0 none))), (26, .int .i64 k_4), (330, .bool true)] (by simp only [b214, Bool.not_true, Bool.not_false]) ?_
                        clear b214
                        refine S_condT (.tmp 330) kk205 kk206 (by kernel_rfl) (by kernel_rfl) ?_
                        refine S_skip (by kernel_rfl) ?_
                        refine S_then ?_
                        refine S_seq kk207 kk208 (by kernel_rfl) ?_
                        refine S_block 12 kk209 (by kernel_rfl) ?_
                        refine S_seq kk210 kk211 (by kernel_rfl) ?_
                        refine S_region 64 (Code.ops kk210) (by kernel_rfl) ?_
                        refine N_run 2 [(5, .pointer ra), (8, .slice (some allBA_4) allN allC), (20, .int .i64 i_2), (21, .pointer (some (Addr.mk b_8 0 none))), (26, .int .i64 k_4), (334, .pointer ra), (335, .pointer (some (Addr.mk b_8 0 none)))] (fun w => by kernel_rfl) ?_
                        obtain ⟨x_39, q215, h⟩ := h
                        refine N_val (some 336) (loadN 29 (.pointer (some (Addr.mk b_8 0 none)))) (.int .u64 x_39) (fun w => by kernel_rfl) (loadN_run (loadOK_one (fun w => by kernel_rfl) q215)) [(5, .pointer ra), (8, .slice (some allBA_4) allN allC), (20, .int .i64 i_2), (21, .pointer (some (Addr.mk b_8 0 none))), (26, .int .i64 k_4), (334, .pointer ra), (336, .int .u64 x_39)] (ps (by kernel_rfl)) ?_
                        refine N_run 1 [(5, .pointer ra), (8, .slice (some allBA_4) allN allC), (20, .int .i64 i_2), (21, .pointer (some (Addr.mk b_8 0 none))), (26, .int .i64 k_4), (334, .pointer ra), (336, .int .u64 x_39), (337, .pointer (some ((Addr.mk b_8 0 none).add 1)))] (fun w => by kernel_rfl) ?_
                        obtain ⟨x_40, q216, h⟩ := h
                        refine N_val (some 338) (loadN 3 (.pointer (some ((Addr.mk b_8 0 none).add 1)))) (.int .i64 x_40) (fun w => by kernel_rfl) (loadN_run (loadOK_one (fun w => by kernel_rfl) q216)) [(5, .pointer ra), (8, .slice (some allBA_4) allN allC), (20, .int .i64 i_2), (21, .pointer (some (Addr.mk b_8 0 none))), (26, .int .i64 k_4), (334, .pointer ra), (336, .int .u64 x_39), (338, .int .i64 x_40)] (ps (by kernel_rfl)) ?_
                        refine N_run 1 [(5, .pointer ra), (8, .slice (some allBA_4) allN allC), (20, .int .i64 i_2), (21, .pointer (some (Addr.mk b_8 0 none))), (26, .int .i64 k_4), (334, .pointer ra), (336, .int .u64 x_39), (338, .int .i64 x_40), (339, .int .i64 k_4)] (fun w => by kernel_rfl) ?_
                        refine N_call (some 340) 38 #[.pointer ra, .int .u64 x_39, .int .i64 x_40, .int .i64 k_4] (fun w => by kernel_rfl) h ?_; clear h
                        rintro v_20 H55 ⟨ra_7, rb_7, rfl, h⟩
                        refine ⟨[(5, .pointer ra), (8, .slice (some allBA_4) allN allC), (20, .int .i64 i_2), (21, .pointer (some (Addr.mk b_8 0 none))), (26, .int .i64 k_4), (340, .tuple #[.int .u64 ra_7, .int .i64 rb_7])], ps (by kernel_rfl), ?_⟩
                        refine N_run 5 [(5, .pointer ra), (8, .slice (some allBA_4) allN allC), (20, .int .i64 i_2), (21, .pointer (some (Addr.mk b_8 0 none))), (26, .int .i64 k_4), (27, .int .u64 ra_7), (28, .int .i64 rb_7)] (fun w => by kernel_rfl) ?_
                        refine N_end (by kernel_rfl) ?_
                        refine S_then ?_
                        refine S_seq kk212 kk213 (by kernel_rfl) ?_
                        refine S_region 65 (Code.ops kk212) (by kernel_rfl) ?_
                        refine N_run 3 [(5, .pointer ra), (8, .slice (some allBA_4) allN allC), (20, .int .i64 i_2), (21, .pointer (some (Addr.mk b_8 0 none))), (26, .int .i64 k_4), (27, .int .u64 ra_7), (345, .bool (rb_7 != 0))] (fun w => by kernel_rfl) ?_
                        by_cases c217 : rb_7 = 0
                        · rw [if_pos c217] at h
                          have b218 : (rb_7 != 0) = false := bne_eq_false_iff_eq.mpr c217
                          refine N_env [(5, .pointer ra), (8, .slice (some allBA_4) allN allC), (20, .int .i64 i_2), (21, .pointer (some (Addr.mk b_8 0 none))), (26, .int .i64 k_4), (27, .int .u64 ra_7), (345, .bool false)] (by simp only [b218, Bool.not_true, Bool.not_false]) ?_
                          clear b218
                          refine N_run 2 [(5, .pointer ra), (8, .slice (some allBA_4) allN allC), (20, .int .i64 i_2), (21, .pointer (some (Addr.mk b_8 0 none))), (26, .int .i64 k_4), (345, .bool false), (346, .int .u64 ra_7), (347, .pointer (some ((Addr.mk b_8 0 none).add 2)))] (fun w => by kernel_rfl) ?_
                          obtain ⟨xB_12, xN_13, xC_12, q219, h⟩ := h
                          refine N_val (some 348) (loadN 39 (.pointer (some ((Addr.mk b_8 0 none).add 2)))) (.slice xB_12 xN_13 xC_12) (fun w => by kernel_rfl) (loadN_run (loadOK_one (fun w => by kernel_rfl) q219)) [(5, .pointer ra), (8, .slice (some allBA_4) allN allC), (20, .int .i64 i_2), (21, .pointer (some (Addr.mk b_8 0 none))), (26, .int .i64 k_4), (345, .bool false), (346, .int .u64 ra_7), (348, .slice xB_12 xN_13 xC_12)] (ps (by kernel_rfl)) ?_
                          refine N_run 1 [(5, .pointer ra), (8, .slice (some allBA_4) allN allC), (20, .int .i64 i_2), (21, .pointer (some (Addr.mk b_8 0 none))), (26, .int .i64 k_4), (345, .bool false), (346, .int .u64 ra_7), (348, .slice xB_12 xN_13 xC_12), (349, .int .i64 k_4)] (fun w => by kernel_rfl) ?_
                          obtain ⟨xB12A, rfl, h⟩ := h
                          obtain ⟨q220, h⟩ := h
                          refine N_val (some 350) (indexAtN 39 (.slice (some xB12A) xN_13 xC_12) (.int .i64 k_4)) (.pointer (some (xB12A.add (Int.toNat k_4 * 1)))) (fun w => by kernel_rfl) (fun w _ => indexAt_run (P := Try.prog) (t := 39) (elem := 29) (sz := 1) (a := xB12A) (len := xN_13) (cap := xC_12) (k := .i64) (i := k_4) Try.underlying39 (fun w => by kernel_rfl) q220.1 q220.2 w) [(5, .pointer ra), (8, .slice (some allBA_4) allN allC), (20, .int .i64 i_2), (21, .pointer (some (Addr.mk b_8 0 none))), (26, .int .i64 k_4), (345, .bool false), (346, .int .u64 ra_7), (350, .pointer (some (xB12A.add (Int.toNat k_4 * 1))))] (ps (by kernel_rfl)) ?_
                          obtain ⟨x_41, q221, h⟩ := h
                          refine N_val (some 351) (loadN 29 (.pointer (some (xB12A.add (Int.toNat k_4 * 1))))) (.int .u64 x_41) (fun w => by kernel_rfl) (loadN_run (loadOK_one (fun w => by kernel_rfl) q221)) [(5, .pointer ra), (8, .slice (some allBA_4) allN allC), (20, .int .i64 i_2), (21, .pointer (some (Addr.mk b_8 0 none))), (26, .int .i64 k_4), (345, .bool false), (346, .int .u64 ra_7), (351, .int .u64 x_41)] (ps (by kernel_rfl)) ?_
                          refine N_run 2 [(5, .pointer ra), (8, .slice (some allBA_4) allN allC), (20, .int .i64 i_2), (21, .pointer (some (Addr.mk b_8 0 none))), (26, .int .i64 k_4), (353, .bool (ra_7 != x_41))] (fun w => by kernel_rfl) ?_
                          refine N_end (by kernel_rfl) ?_
                          refine S_then ?_
                          by_cases c222 : ra_7 = x_41
                          · rw [if_pos c222] at h
                            have b223 : (ra_7 != x_41) = false := bne_eq_false_iff_eq.mpr c222
                            refine S_env [(5, .pointer ra), (8, .slice (some allBA_4) allN allC), (20, .int .i64 i_2), (21, .pointer (some (Addr.mk b_8 0 none))), (26, .int .i64 k_4), (353, .bool false)] (by simp only [b223, Bool.not_true, Bool.not_false]) ?_
                            clear b223
                            refine S_condF (.tmp 353) kk214 kk215 (by kernel_rfl) (by kernel_rfl) ?_
                            refine S_skip (by kernel_rfl) ?_
                            refine S_blockEnd ?_
                            refine S_then ?_
                            refine S_region 63 (Code.ops kk208) (by kernel_rfl) ?_
                            refine N_run 3 [(5, .pointer ra), (8, .slice (some allBA_4) allN allC), (20, .int .i64 i_2), (21, .pointer (some (Addr.mk b_8 0 none))), (26, .int .i64 (IntKind.wrap .i64 (k_4 + 1)))] (fun w => by kernel_rfl) ?_
                            refine N_end (by kernel_rfl) ?_
                            refine S_then ?_
                            exact S_round ((IntKind.wrap .i64 (k_4 + 1)) : Int) (sb (by kernel_rfl)) h
                          · rw [if_neg c222] at h
                            have b223 : (ra_7 != x_41) = true := bne_iff_ne.mpr c222
                            refine S_env [(5, .pointer ra), (8, .slice (some allBA_4) allN allC), (20, .int .i64 i_2), (21, .pointer (some (Addr.mk b_8 0 none))), (26, .int .i64 k_4), (353, .bool true)] (by simp only [b223, Bool.not_true, Bool.not_false]) ?_
                            clear b223
                            refine S_condT (.tmp 353) kk214 kk215 (by kernel_rfl) (by kernel_rfl) ?_
                            refine S_seq kk216 kk217 (by kernel_rfl) ?_
                            refine S_region 66 (Code.ops kk216) (by kernel_rfl) ?_
                            refine N_run 1 [(4, .bool false)] (fun w => by kernel_rfl) ?_
                            refine N_end (by kernel_rfl) ?_
                            refine S_then ?_
                            refine S_ret (by kernel_rfl) ?_
                            show At _ _ _ _ _ (Q .ret)
                            exact S_done (fn := Try.f7) [.bool false] hQ (show ResOK _ _ _ [.tmp 4] _ from .tmp (by kernel_rfl) (.nil)) h
                        · rw [if_neg c217] at h
                          have b218 : (rb_7 != 0) = true := bne_iff_ne.mpr c217
                          refine N_env [(5, .pointer ra), (8, .slice (some allBA_4) allN allC), (20, .int .i64 i_2), (21, .pointer (some (Addr.mk b_8 0 none))), (26, .int .i64 k_4), (27, .int .u64 ra_7), (345, .bool true)] (by simp only [b218, Bool.not_true, Bool.not_false]) ?_
                          clear b218
                          refine N_run 8 [(5, .pointer ra), (8, .slice (some allBA_4) allN allC), (20, .int .i64 i_2), (21, .pointer (some (Addr.mk b_8 0 none))), (26, .int .i64 k_4), (353, .bool true)] (fun w => by kernel_rfl) ?_
                          refine N_end (by kernel_rfl) ?_
                          refine S_then ?_
                          refine S_condT (.tmp 353) kk214 kk215 (by kernel_rfl) (by kernel_rfl) ?_
                          refine S_seq kk216 kk217 (by kernel_rfl) ?_
                          refine S_region 66 (Code.ops kk216) (by kernel_rfl) ?_
                          refine N_run 1 [(4, .bool false)] (fun w => by kernel_rfl) ?_
                          refine N_end (by kernel_rfl) ?_
                          refine S_then ?_
                          refine S_ret (by kernel_rfl) ?_
                          show At _ _ _ _ _ (Q .ret)
                          exact S_done (fn := Try.f7) [.bool false] hQ (show ResOK _ _ _ [.tmp 4] _ from .tmp (by kernel_rfl) (.nil)) h
                      · rw [if_neg c213] at h
                        have b214 : (decide (k_4 < (xN_12 : Int))) = false := decide_eq_false c213
                        refine S_env [(5, .pointer ra), (8, .slice (some allBA_4) allN allC), (20, .int .i64 i_2), (21, .pointer (some (Addr.mk b_8 0 none))), (26, .int .i64 k_4), (330, .bool false)] (by simp only [b214, Bool.not_true, Bool.not_false]) ?_
                        clear b214
                        refine S_condF (.tmp 330) kk205 kk206 (by kernel_rfl) (by kernel_rfl) ?_
                        refine S_exit 11 (by kernel_rfl) ?_
                        refine S_exitThen ?_
                        refine S_exitThen ?_
                        refine S_exitHere ?_
                        refine S_blockEnd ?_
                        refine S_then ?_
                        refine S_region 52 (Code.ops kk169) (by kernel_rfl) ?_
                        refine N_run 3 [(5, .pointer ra), (8, .slice (some allBA_4) allN allC), (20, .int .i64 (IntKind.wrap .i64 (i_2 + 1)))] (fun w => by kernel_rfl) ?_
                        refine N_end (by kernel_rfl) ?_
                        refine S_then ?_
                        exact S_round ((IntKind.wrap .i64 (i_2 + 1)) : Int) (sb (by kernel_rfl)) h
                    · rw [if_neg c207] at h
                      have b208 : (x_38 != (IntKind.wrap .i64 (1 + (xN_11 : Int)))) = true := bne_iff_ne.mpr c207
                      refine S_env [(5, .pointer ra), (8, .slice (some allBA_4) allN allC), (20, .int .i64 i_2), (21, .pointer (some (Addr.mk b_8 0 none))), (325, .bool true)] (by simp only [b208, Bool.not_true, Bool.not_false]) ?_
                      clear b208
                      refine S_condT (.tmp 325) kk195 kk196 (by kernel_rfl) (by kernel_rfl) ?_
                      refine S_seq kk218 kk219 (by kernel_rfl) ?_
                      refine S_region 60 (Code.ops kk218) (by kernel_rfl) ?_
                      refine N_run 1 [(4, .bool false)] (fun w => by kernel_rfl) ?_
                      refine N_end (by kernel_rfl) ?_
                      refine S_then ?_
                      refine S_ret (by kernel_rfl) ?_
                      show At _ _ _ _ _ (Q .ret)
                      exact S_done (fn := Try.f7) [.bool false] hQ (show ResOK _ _ _ [.tmp 4] _ from .tmp (by kernel_rfl) (.nil)) h
                  · rw [if_neg c200] at h
                    have b201 : (x_37 != (xN_10 : Int)) = true := bne_iff_ne.mpr c200
                    refine G_env [(5, .pointer ra), (8, .slice (some allBA_4) allN allC), (20, .int .i64 i_2), (21, .pointer (some (Addr.mk b_8 0 none))), (315, .bool true)] (by simp only [b201, Bool.not_true, Bool.not_false]) ?_
                    clear b201
                    refine G_pass 18 (some 316) #[true, true, true, true, true, true, true, true, true, true, true, true, true, true, true, true, true, true, true, false, false, false, false, false, false, false, false, false] [(5, .pointer ra), (8, .slice (some allBA_4) allN allC), (20, .int .i64 i_2), (21, .pointer (some (Addr.mk b_8 0 none))), (315, .bool true), (316, undef)] (by kernel_rfl) (by kernel_rfl) (by kernel_rfl) (by kernel_rfl) (by kernel_rfl) (by kernel_rfl) (by kernel_rfl) (ps (by kernel_rfl)) ?_
                    refine G_pass 19 (some 317) #[true, true, true, true, true, true, true, true, true, true, true, true, true, true, true, true, true, true, true, true, false, false, false, false, false, false, false, false] [(5, .pointer ra), (8, .slice (some allBA_4) allN allC), (20, .int .i64 i_2), (21, .pointer (some (Addr.mk b_8 0 none))), (315, .bool true), (316, undef), (317, undef)] (by kernel_rfl) (by kernel_rfl) (by kernel_rfl) (by kernel_rfl) (by kernel_rfl) (by kernel_rfl) (by kernel_rfl) (ps (by kernel_rfl)) ?_
                    refine G_pass 20 (some 318) #[true, true, true, true, true, true, true, true, true, true, true, true, true, true, true, true, true, true, true, true, true, false, false, false, false, false, false, false] [(5, .pointer ra), (8, .slice (some allBA_4) allN allC), (20, .int .i64 i_2), (21, .pointer (some (Addr.mk b_8 0 none))), (315, .bool true), (316, undef), (318, undef)] (by kernel_rfl) (by kernel_rfl) (by kernel_rfl) (by kernel_rfl) (by kernel_rfl) (by kernel_rfl) (by kernel_rfl) (ps (by kernel_rfl)) ?_
                    refine G_pass 21 (some 319) #[true, true, true, true, true, true, true, true, true, true, true, true, true, true, true, true, true, true, true, true, true, true, false, false, false, false, false, false] [(5, .pointer ra), (8, .slice (some allBA_4) allN allC), (20, .int .i64 i_2), (21, .pointer (some (Addr.mk b_8 0 none))), (315, .bool true), (319, undef)] (by kernel_rfl) (by kernel_rfl) (by kernel_rfl) (by kernel_rfl) (by kernel_rfl) (by kernel_rfl) (by kernel_rfl) (ps (by kernel_rfl)) ?_
                    refine G_pass 22 (some 320) #[true, true, true, true, true, true, true, true, true, true, true, true, true, true, true, true, true, true, true, true, true, true, true, false, false, false, false, false] [(5, .pointer ra), (8, .slice (some allBA_4) allN allC), (20, .int .i64 i_2), (21, .pointer (some (Addr.mk b_8 0 none))), (315, .bool true), (319, undef), (320, undef)] (by kernel_rfl) (by kernel_rfl) (by kernel_rfl) (by kernel_rfl) (by kernel_rfl) (by kernel_rfl) (by kernel_rfl) (ps (by kernel_rfl)) ?_
                    refine G_pass 23 (some 321) #[true, true, true, true, true, true, true, true, true, true, true, true, true, true, true, true, true, true, true, true, true, true, true, true, false, false, false, false] [(5, .pointer ra), (8, .slice (some allBA_4) allN allC), (20, .int .i64 i_2), (21, .pointer (some (Addr.mk b_8 0 none))), (315, .bool true), (319, undef), (321, undef)] (by kernel_rfl) (by kernel_rfl) (by kernel_rfl) (by kernel_rfl) (by kernel_rfl) (by kernel_rfl) (by kernel_rfl) (ps (by kernel_rfl)) ?_
                    refine G_pass 24 (some 322) #[true, true, true, true, true, true, true, true, true, true, true, true, true, true, true, true, true, true, true, true, true, true, true, true, true, false, false, false] [(5, .pointer ra), (8, .slice (some allBA_4) allN allC), (20, .int .i64 i_2), (21, .pointer (some (Addr.mk b_8 0 none))), (315, .bool true), (319, undef), (322, undef)] (by kernel_rfl) (by kernel_rfl) (by kernel_rfl) (by kernel_rfl) (by kernel_rfl) (by kernel_rfl) (by kernel_rfl) (ps (by kernel_rfl)) ?_
                    refine G_pass 25 (some 323) #[true, true, true, true, true, true, true, true, true, true, true, true, true, true, true, true, true, true, true, true, true, true, true, true, true, true, false, false] [(5, .pointer ra), (8, .slice (some allBA_4) allN allC), (20, .int .i64 i_2), (21, .pointer (some (Addr.mk b_8 0 none))), (315, .bool true), (319, undef), (323, undef)] (by kernel_rfl) (by kernel_rfl) (by kernel_rfl) (by kernel_rfl) (by kernel_rfl) (by kernel_rfl) (by kernel_rfl) (ps (by kernel_rfl)) ?_
                    refine G_pass 26 (some 324) #[true, true, true, true, true, true, true, true, true, true, true, true, true, true, true, true, true, true, true, true, true, true, true, true, true, true, true, false] [(5, .pointer ra), (8, .slice (some allBA_4) allN allC), (20, .int .i64 i_2), (21, .pointer (some (Addr.mk b_8 0 none))), (315, .bool true), (324, undef)] (by kernel_rfl) (by kernel_rfl) (by kernel_rfl) (by kernel_rfl) (by kernel_rfl) (by kernel_rfl) (by kernel_rfl) (ps (by kernel_rfl)) ?_
                    refine G_take 27 (some 325) (.bool true) #[true, true, true, true, true, true, true, true, true, true, true, true, true, true, true, true, true, true, true, true, true, true, true, true, true, true, true, true] [(5, .pointer ra), (8, .slice (some allBA_4) allN allC), (20, .int .i64 i_2), (21, .pointer (some (Addr.mk b_8 0 none))), (325, .bool true)] (pure (.value (.bool true)) : Sem Next) (fun w => by kernel_rfl) (fun _ _ _ _ _ => rfl) (by kernel_rfl) (by kernel_rfl) (by kernel_rfl) (by kernel_rfl) (by kernel_rfl) (by kernel_rfl) (ps (by kernel_rfl)) ?_
                    refine G_sub [(5, .pointer ra), (8, .slice (some allBA_4) allN allC), (20, .int .i64 i_2), (21, .pointer (some (Addr.mk b_8 0 none))), (325, .bool true)] (sb (by kernel_rfl)) ?_
                    refine G_end (by kernel_rfl) ?_
                    refine S_then ?_
                    refine S_condT (.tmp 325) kk195 kk196 (by kernel_rfl) (by kernel_rfl) ?_
                    refine S_seq kk218 kk219 (by kernel_rfl) ?_
                    refine S_region 60 (Code.ops kk218) (by kernel_rfl) ?_
                    refine N_run 1 [(4, .bool false)] (fun w => by kernel_rfl) ?_
                    refine N_end (by kernel_rfl) ?_
                    refine S_then ?_
                    refine S_ret (by kernel_rfl) ?_
                    show At _ _ _ _ _ (Q .ret)
                    exact S_done (fn := Try.f7) [.bool false] hQ (show ResOK _ _ _ [.tmp 4] _ from .tmp (by kernel_rfl) (.nil)) h
                · rw [if_neg c193] at h
                  have b194 : (x_36 != x_33) = true := bne_iff_ne.mpr c193
                  refine G_env [(5, .pointer ra), (8, .slice (some allBA_4) allN allC), (20, .int .i64 i_2), (21, .pointer (some (Addr.mk b_8 0 none))), (305, .bool true)] (by simp only [b194, Bool.not_true, Bool.not_false]) ?_
                  clear b194
                  refine G_pass 8 (some 306) #[true, true, true, true, true, true, true, true, true, false, false, false, false, false, false, false, false, false, false, false, false, false, false, false, false, false, false, false] [(5, .pointer ra), (8, .slice (some allBA_4) allN allC), (20, .int .i64 i_2), (21, .pointer (some (Addr.mk b_8 0 none))), (305, .bool true), (306, undef)] (by kernel_rfl) (by kernel_rfl) (by kernel_rfl) (by kernel_rfl) (by kernel_rfl) (by kernel_rfl) (by kernel_rfl) (ps (by kernel_rfl)) ?_
                  refine G_pass 9 (some 307) #[true, true, true, true, true, true, true, true, true, true, false, false, false, false, false, false, false, false, false, false, false, false, false, false, false, false, false, false] [(5, .pointer ra), (8, .slice (some allBA_4) allN allC), (20, .int .i64 i_2), (21, .pointer (some (Addr.mk b_8 0 none))), (305, .bool true), (306, undef), (307, undef)] (by kernel_rfl) (by kernel_rfl) (by kernel_rfl) (by kernel_rfl) (by kernel_rfl) (by kernel_rfl) (by kernel_rfl) (ps (by kernel_rfl)) ?_
                  refine G_pass 10 (some 308) #[true, true, true, true, true, true, true, true, true, true, true, false, false, false, false, false, false, false, false, false, false, false, false, false, false, false, false, false] [(5, .pointer ra), (8, .slice (some allBA_4) allN allC), (20, .int .i64 i_2), (21, .pointer (some (Addr.mk b_8 0 none))), (305, .bool true), (306, undef), (308, undef)] (by kernel_rfl) (by kernel_rfl) (by kernel_rfl) (by kernel_rfl) (by kernel_rfl) (by kernel_rfl) (by kernel_rfl) (ps (by kernel_rfl)) ?_
                  refine G_pass 11 (some 309) #[true, true, true, true, true, true, true, true, true, true, true, true, false, false, false, false, false, false, false, false, false, false, false, false, false, false, false, false] [(5, .pointer ra), (8, .slice (some allBA_4) allN allC), (20, .int .i64 i_2), (21, .pointer (some (Addr.mk b_8 0 none))), (305, .bool true), (309, undef)] (by kernel_rfl) (by kernel_rfl) (by kernel_rfl) (by kernel_rfl) (by kernel_rfl) (by kernel_rfl) (by kernel_rfl) (ps (by kernel_rfl)) ?_
                  refine G_pass 12 (some 310) #[true, true, true, true, true, true, true, true, true, true, true, true, true, false, false, false, false, false, false, false, false, false, false, false, false, false, false, false] [(5, .pointer ra), (8, .slice (some allBA_4) allN allC), (20, .int .i64 i_2), (21, .pointer (some (Addr.mk b_8 0 none))), (305, .bool true), (309, undef), (310, undef)] (by kernel_rfl) (by kernel_rfl) (by kernel_rfl) (by kernel_rfl) (by kernel_rfl) (by kernel_rfl) (by kernel_rfl) (ps (by kernel_rfl)) ?_
                  refine G_pass 13 (some 311) #[true, true, true, true, true, true, true, true, true, true, true, true, true, true, false, false, false, false, false, false, false, false, false, false, false, false, false, false] [(5, .pointer ra), (8, .slice (some allBA_4) allN allC), (20, .int .i64 i_2), (21, .pointer (some (Addr.mk b_8 0 none))), (305, .bool true), (309, undef), (311, undef)] (by kernel_rfl) (by kernel_rfl) (by kernel_rfl) (by kernel_rfl) (by kernel_rfl) (by kernel_rfl) (by kernel_rfl) (ps (by kernel_rfl)) ?_
                  refine G_pass 14 (some 312) #[true, true, true, true, true, true, true, true, true, true, true, true, true, true, true, false, false, false, false, false, false, false, false, false, false, false, false, false] [(5, .pointer ra), (8, .slice (some allBA_4) allN allC), (20, .int .i64 i_2), (21, .pointer (some (Addr.mk b_8 0 none))), (305, .bool true), (309, undef), (312, undef)] (by kernel_rfl) (by kernel_rfl) (by kernel_rfl) (by kernel_rfl) (by kernel_rfl) (by kernel_rfl) (by kernel_rfl) (ps (by kernel_rfl)) ?_
                  refine G_pass 15 (some 313) #[true, true, true, true, true, true, true, true, true, true, true, true, true, true, true, true, false, false, false, false, false, false, false, false, false, false, false, false] [(5, .pointer ra), (8, .slice (some allBA_4) allN allC), (20, .int .i64 i_2), (21, .pointer (some (Addr.mk b_8 0 none))), (305, .bool true), (313, undef)] (by kernel_rfl) (by kernel_rfl) (by kernel_rfl) (by kernel_rfl) (by kernel_rfl) (by kernel_rfl) (by kernel_rfl) (ps (by kernel_rfl)) ?_
                  refine G_take 16 (some 314) (.bool true) #[true, true, true, true, true, true, true, true, true, true, true, true, true, true, true, true, true, false, false, false, false, false, false, false, false, false, false, false] [(5, .pointer ra), (8, .slice (some allBA_4) allN allC), (20, .int .i64 i_2), (21, .pointer (some (Addr.mk b_8 0 none))), (314, .bool true)] (pure (.value (.bool true)) : Sem Next) (fun w => by kernel_rfl) (fun _ _ _ _ _ => rfl) (by kernel_rfl) (by kernel_rfl) (by kernel_rfl) (by kernel_rfl) (by kernel_rfl) (by kernel_rfl) (ps (by kernel_rfl)) ?_
                  refine G_take 17 (some 315) (.bool true) #[true, true, true, true, true, true, true, true, true, true, true, true, true, true, true, true, true, true, false, false, false, false, false, false, false, false, false, false] [(5, .pointer ra), (8, .slice (some allBA_4) allN allC), (20, .int .i64 i_2), (21, .pointer (some (Addr.mk b_8 0 none))), (315, .bool true)] (pure (.value (.bool true)) : Sem Next) (fun w => by kernel_rfl) (fun _ _ _ _ _ => rfl) (by kernel_rfl) (by kernel_rfl) (by kernel_rfl) (by kernel_rfl) (by kernel_rfl) (by kernel_rfl) (ps (by kernel_rfl)) ?_
                  refine G_pass 18 (some 316) #[true, true, true, true, true, true, true, true, true, true, true, true, true, true, true, true, true, true, true, false, false, false, false, false, false, false, false, false] [(5, .pointer ra), (8, .slice (some allBA_4) allN allC), (20, .int .i64 i_2), (21, .pointer (some (Addr.mk b_8 0 none))), (315, .bool true), (316, undef)] (by kernel_rfl) (by kernel_rfl) (by kernel_rfl) (by kernel_rfl) (by kernel_rfl) (by kernel_rfl) (by kernel_rfl) (ps (by kernel_rfl)) ?_
                  refine G_pass 19 (some 317) #[true, true, true, true, true, true, true, true, true, true, true, true, true, true, true, true, true, true, true, true, false, false, false, false, false, false, false, false] [(5, .pointer ra), (8, .slice (some allBA_4) allN allC), (20, .int .i64 i_2), (21, .pointer (some (Addr.mk b_8 0 none))), (315, .bool true), (316, undef), (317, undef)] (by kernel_rfl) (by kernel_rfl) (by kernel_rfl) (by kernel_rfl) (by kernel_rfl) (by kernel_rfl) (by kernel_rfl) (ps (by kernel_rfl)) ?_
                  refine G_pass 20 (some 318) #[true, true, true, true, true, true, true, true, true, true, true, true, true, true, true, true, true, true, true, true, true, false, false, false, false, false, false, false] [(5, .pointer ra), (8, .slice (some allBA_4) allN allC), (20, .int .i64 i_2), (21, .pointer (some (Addr.mk b_8 0 none))), (315, .bool true), (316, undef), (318, undef)] (by kernel_rfl) (by kernel_rfl) (by kernel_rfl) (by kernel_rfl) (by kernel_rfl) (by kernel_rfl) (by kernel_rfl) (ps (by kernel_rfl)) ?_
                  refine G_pass 21 (some 319) #[true, true, true, true, true, true, true, true, true, true, true, true, true, true, true, true, true, true, true, true, true, true, false, false, false, false, false, false] [(5, .pointer ra), (8, .slice (some allBA_4) allN allC), (20, .int .i64 i_2), (21, .pointer (some (Addr.mk b_8 0 none))), (315, .bool true), (319, undef)] (by kernel_rfl) (by kernel_rfl) (by kernel_rfl) (by kernel_rfl) (by kernel_rfl) (by kernel_rfl) (by kernel_rfl) (ps (by kernel_rfl)) ?_
                  refine G_pass 22 (some 320) #[true, true, true, true, true, true, true, true, true, true, true, true, true, true, true, true, true, true, true, true, true, true, true, false, false, false, false, false] [(5, .pointer ra), (8, .slice (some allBA_4) allN allC), (20, .int .i64 i_2), (21, .pointer (some (Addr.mk b_8 0 none))), (315, .bool true), (319, undef), (320, undef)] (by kernel_rfl) (by kernel_rfl) (by kernel_rfl) (by kernel_rfl) (by kernel_rfl) (by kernel_rfl) (by kernel_rfl) (ps (by kernel_rfl)) ?_
                  refine G_pass 23 (some 321) #[true, true, true, true, true, true, true, true, true, true, true, true, true, true, true, true, true, true, true, true, true, true, true, true, false, false, false, false] [(5, .pointer ra), (8, .slice (some allBA_4) allN allC), (20, .int .i64 i_2), (21, .pointer (some (Addr.mk b_8 0 none))), (315, .bool true), (319, undef), (321, undef)] (by kernel_rfl) (by kernel_rfl) (by kernel_rfl) (by kernel_rfl) (by kernel_rfl) (by kernel_rfl) (by kernel_rfl) (ps (by kernel_rfl)) ?_
                  refine G_pass 24 (some 322) #[true, true, true, true, true, true, true, true, true, true, true, true, true, true, true, true, true, true, true, true, true, true, true, true, true, false, false, false] [(5, .pointer ra), (8, .slice (some allBA_4) allN allC), (20, .int .i64 i_2), (21, .pointer (some (Addr.mk b_8 0 none))), (315, .bool true), (319, undef), (322, undef)] (by kernel_rfl) (by kernel_rfl) (by kernel_rfl) (by kernel_rfl) (by kernel_rfl) (by kernel_rfl) (by kernel_rfl) (ps (by kernel_rfl)) ?_
                  refine G_pass 25 (some 323) #[true, true, true, true, true, true, true, true, true, true, true, true, true, true, true, true, true, true, true, true, true, true, true, true, true, true, false, false] [(5, .pointer ra), (8, .slice (some allBA_4) allN allC), (20, .int .i64 i_2), (21, .pointer (some (Addr.mk b_8 0 none))), (315, .bool true), (319, undef), (323, undef)] (by kernel_rfl) (by kernel_rfl) (by kernel_rfl) (by kernel_rfl) (by kernel_rfl) (by kernel_rfl) (by kernel_rfl) (ps (by kernel_rfl)) ?_
                  refine G_pass 26 (some 324) #[true, true, true, true, true, true, true, true, true, true, true, true, true, true, true, true, true, true, true, true, true, true, true, true, true, true, true, false] [(5, .pointer ra), (8, .slice (some allBA_4) allN allC), (20, .int .i64 i_2), (21, .pointer (some (Addr.mk b_8 0 none))), (315, .bool true), (324, undef)] (by kernel_rfl) (by kernel_rfl) (by kernel_rfl) (by kernel_rfl) (by kernel_rfl) (by kernel_rfl) (by kernel_rfl) (ps (by kernel_rfl)) ?_
                  refine G_take 27 (some 325) (.bool true) #[true, true, true, true, true, true, true, true, true, true, true, true, true, true, true, true, true, true, true, true, true, true, true, true, true, true, true, true] [(5, .pointer ra), (8, .slice (some allBA_4) allN allC), (20, .int .i64 i_2), (21, .pointer (some (Addr.mk b_8 0 none))), (325, .bool true)] (pure (.value (.bool true)) : Sem Next) (fun w => by kernel_rfl) (fun _ _ _ _ _ => rfl) (by kernel_rfl) (by kernel_rfl) (by kernel_rfl) (by kernel_rfl) (by kernel_rfl) (by kernel_rfl) (ps (by kernel_rfl)) ?_
                  refine G_sub [(5, .pointer ra), (8, .slice (some allBA_4) allN allC), (20, .int .i64 i_2), (21, .pointer (some (Addr.mk b_8 0 none))), (325, .bool true)] (sb (by kernel_rfl)) ?_
                  refine G_end (by kernel_rfl) ?_
                  refine S_then ?_
                  refine S_condT (.tmp 325) kk195 kk196 (by kernel_rfl) (by kernel_rfl) ?_
                  refine S_seq kk218 kk219 (by kernel_rfl) ?_
                  refine S_region 60 (Code.ops kk218) (by kernel_rfl) ?_
                  refine N_run 1 [(4, .bool false)] (fun w => by kernel_rfl) ?_
                  refine N_end (by kernel_rfl) ?_
                  refine S_then ?_
                  refine S_ret (by kernel_rfl) ?_
                  show At _ _ _ _ _ (Q .ret)
                  exact S_done (fn := Try.f7) [.bool false] hQ (show ResOK _ _ _ [.tmp 4] _ from .tmp (by kernel_rfl) (.nil)) h
            · rw [if_neg c152] at h
              have b153 : (decide (i_2 < (allN : Int))) = false := decide_eq_false c152
              refine S_env [(5, .pointer ra), (8, .slice allB allN allC), (20, .int .i64 i_2), (245, .bool false)] (by simp only [b153, Bool.not_true, Bool.not_false]) ?_
              clear b153
              refine S_condF (.tmp 245) kk166 kk167 (by kernel_rfl) (by kernel_rfl) ?_
              refine S_exit 9 (by kernel_rfl) ?_
              refine S_exitThen ?_
              refine S_exitThen ?_
              refine S_exitHere ?_
              refine S_then ?_
              refine S_seq kk220 kk221 (by kernel_rfl) ?_
              refine S_region 67 (Code.ops kk220) (by kernel_rfl) ?_
              refine N_sub [] (sb (by kernel_rfl)) ?_
              refine N_call (some 354) 24 #[] (fun w => by kernel_rfl) h ?_; clear h
              rintro v_21 H56 ⟨x_42, rfl, h⟩
              refine ⟨[(354, .bool x_42)], ps (by kernel_rfl), ?_⟩
              refine N_run 1 [(4, .bool x_42)] (fun w => by kernel_rfl) ?_
              refine N_end (by kernel_rfl) ?_
              refine S_then ?_
              refine S_ret (by kernel_rfl) ?_
              show At _ _ _ _ _ (Q .ret)
              exact S_done (fn := Try.f7) [.bool x_42] hQ (show ResOK _ _ _ [.tmp 4] _ from .tmp (by kernel_rfl) (.nil)) h
      · intro hk
        refine N_sub [(1, .slice lB lN lC), (5, .pointer ra), (6, .int .i64 rb), (42, .bool x)] (sb (by kernel_rfl)) ?_
        by_cases c6 : x = true
        · have b7 : x = true := c6
          refine N_env [(1, .slice lB lN lC), (5, .pointer ra), (6, .int .i64 rb), (42, .bool true)] (by simp only [b7, Bool.not_true, Bool.not_false]) ?_
          refine N_run 3 [(1, .slice lB lN lC), (5, .pointer ra), (6, .int .i64 rb), (45, .bool true)] (fun w => by kernel_rfl) ?_
          refine N_end (by kernel_rfl) ?_
          refine S_env [(1, .slice lB lN lC), (5, .pointer ra), (6, .int .i64 rb), (45, .bool (x || (rb != 0)))] (by simp only [b7, Bool.true_or, Bool.false_or, Bool.or_true, Bool.or_false, Bool.true_and, Bool.false_and, Bool.and_true, Bool.and_false, Bool.not_true, Bool.not_false, cond_true, cond_false]) ?_
          exact hk
        · have b7 : x = false := eq_false_of_ne_true c6
          refine N_env [(1, .slice lB lN lC), (5, .pointer ra), (6, .int .i64 rb), (42, .bool false)] (by simp only [b7, Bool.not_true, Bool.not_false]) ?_
          refine N_run 3 [(1, .slice lB lN lC), (5, .pointer ra), (6, .int .i64 rb), (45, .bool (rb != 0))] (fun w => by kernel_rfl) ?_
          refine N_end (by kernel_rfl) ?_
          refine S_env [(1, .slice lB lN lC), (5, .pointer ra), (6, .int .i64 rb), (45, .bool (x || (rb != 0)))] (by simp only [b7, Bool.true_or, Bool.false_or, Bool.or_true, Bool.or_false, Bool.true_and, Bool.false_and, Bool.and_true, Bool.and_false, Bool.not_true, Bool.not_false, cond_true, cond_false]) ?_
          exact hk
  · refine S_region 2 (Code.ops kk7) (by kernel_rfl) ?_
    refine N_run 3 [(1, .slice lB lN lC), (5, .pointer ra), (6, .int .i64 rb), (36, .bool (rb == 0))] (fun w => by kernel_rfl) ?_
    by_cases c224 : rb = 0
    · rw [if_pos c224] at h
      have b225 : (rb == 0) = true := beq_iff_eq.mpr c224
      refine N_env [(1, .slice lB lN lC), (5, .pointer ra), (6, .int .i64 rb), (36, .bool true)] (by simp only [b225, Bool.not_true, Bool.not_false]) ?_
      clear b225
      refine N_run 1 [(1, .slice lB lN lC), (5, .pointer ra), (6, .int .i64 rb), (36, .bool true), (37, .pointer ra)] (fun w => by kernel_rfl) ?_
      rcases ra with _ | raA
      · rw [onPtr_none] at h
        refine N_run 2 [(1, .slice lB lN lC), (5, .pointer none), (6, .int .i64 rb), (39, .bool true)] (fun w => by kernel_rfl) ?_
        refine N_end (by kernel_rfl) ?_
        refine S_then ?_
        exact S_meet (true : Bool) (sb (by kernel_rfl)) h
      · rw [onPtr_some] at h
        refine N_run 2 [(1, .slice lB lN lC), (5, .pointer (some raA)), (6, .int .i64 rb), (39, .bool false)] (fun w => by kernel_rfl) ?_
        refine N_end (by kernel_rfl) ?_
        refine S_then ?_
        exact S_meet (false : Bool) (sb (by kernel_rfl)) h
    · rw [if_neg c224] at h
      have b225 : (rb == 0) = false := beq_eq_false_iff_ne.mpr c224
      refine N_env [(1, .slice lB lN lC), (5, .pointer ra), (6, .int .i64 rb), (36, .bool false)] (by simp only [b225, Bool.not_true, Bool.not_false]) ?_
      clear b225
      refine N_run 3 [(1, .slice lB lN lC), (5, .pointer ra), (6, .int .i64 rb), (39, .bool false)] (fun w => by kernel_rfl) ?_
      refine N_end (by kernel_rfl) ?_
      refine S_then ?_
      exact S_meet (false : Bool) (sb (by kernel_rfl)) h
end morainelaw10_ObjKeeps

end Go.Proofs.Ytfohlkiikppefaa
