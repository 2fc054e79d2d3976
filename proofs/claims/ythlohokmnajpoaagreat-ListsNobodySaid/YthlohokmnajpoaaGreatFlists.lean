/-
 Written by a program of mine (gen.py): for functions of this translation a predicate transformer over heaps (.pt), and the proof that it is sound for the call (.link).
-/
import Derived.Test.YthlohokmnajpoaaGreatFnsC
set_option linter.unusedSimpArgs false
set_option linter.unusedVariables false
set_option maxHeartbeats 1000000
noncomputable section
namespace Go.Proofs.YthlohokmnajpoaaGreat
open Go
/-! moraine/lists.Apply -/
namespace lists_Apply
def kk0 := Func.code Tryz.f5
def kk1 := Code.fa kk0
def kk2 := Code.fb kk0
def kk3 := Code.fa kk2
def kk4 := Code.fb kk2
def kk5 := Code.fa kk3
def kk6 := Code.fb kk3
def kk7 := Code.fa kk6
def kk8 := Code.fb kk6
def kk9 := Code.fa kk7
def kk10 := Code.fb kk7
def kk11 := Code.fa kk4
def kk12 := Code.fb kk4
def kk13 := Code.fa kk11
def kk14 := Code.fb kk11
def kk15 := Code.fa kk14
def kk16 := Code.fb kk14
def kk17 := Code.fa kk16
def kk18 := Code.fb kk16
def kk19 := Code.fa kk17
def kk20 := Code.fb kk17
def kk21 := Code.fa kk12
def kk22 := Code.fb kk12
def kk23 := Code.fa kk21
def kk24 := Code.fb kk21
def kk25 := Code.fa kk24
def kk26 := Code.fa kk25
def kk27 := Code.fb kk25
def kk28 := Code.fa kk27
def kk29 := Code.fb kk27
def kk30 := Code.fa kk28
def kk31 := Code.fb kk28
def kk32 := Code.fa kk29
def kk33 := Code.fb kk29
def kk34 := Code.fa kk33
def kk35 := Code.fb kk33
def kk36 := Code.fa kk34
def kk37 := Code.fb kk34
def kk38 := Code.fa kk35
def kk39 := Code.fb kk35
def kk40 := Code.fa kk39
def kk41 := Code.fb kk39
def kk42 := Code.fa kk40
def kk43 := Code.fb kk40
def kk44 := Code.fa kk41
def kk45 := Code.fb kk41
def kk46 := Code.fa kk44
def kk47 := Code.fb kk44
def kk48 := Code.fa kk47
def kk49 := Code.fb kk47
def kk50 := Code.fa kk45
def kk51 := Code.fb kk45
def kk52 := Code.fa kk50
def kk53 := Code.fb kk50
def kk54 := Code.fa kk51
def kk55 := Code.fb kk51
def kk56 := Code.fa kk55
def kk57 := Code.fb kk55
def kk58 := Code.fa kk56
def kk59 := Code.fb kk56
def kk60 := Code.fa kk57
def kk61 := Code.fb kk57
def kk62 := Code.fa kk61
def kk63 := Code.fb kk61
def kk64 := Code.fa kk62
def kk65 := Code.fb kk62
def kk66 := Code.fa kk63
def kk67 := Code.fb kk63
def kk68 := Code.fa kk66
def kk69 := Code.fb kk66
def kk70 := Code.fa kk69
def kk71 := Code.fb kk69
def kk72 := Code.fa kk67
def kk73 := Code.fb kk67
def kk74 := Code.fa kk72
def kk75 := Code.fb kk72
def kk76 := Code.fa kk73
def kk77 := Code.fb kk73
def kk78 := Code.fa kk77
def kk79 := Code.fb kk77
def kk80 := Code.fa kk78
def kk81 := Code.fb kk78
def kk82 := Code.fa kk79
def kk83 := Code.fb kk79
def kk84 := Code.fa kk83
def kk85 := Code.fb kk83
def kk86 := Code.fa kk84
def kk87 := Code.fb kk84
def kk88 := Code.fa kk85
def kk89 := Code.fb kk85
def kk90 := Code.fa kk89
def kk91 := Code.fb kk89
def kk92 := Code.fa kk90
def kk93 := Code.fb kk90
def kk94 := Code.fa kk91
def kk95 := Code.fb kk91
def kk96 := Code.fa kk95
def kk97 := Code.fb kk95
def kk98 := Code.fa kk96
def kk99 := Code.fb kk96
def kk100 := Code.fa kk99
def kk101 := Code.fb kk99
def kk102 := Code.fa kk100
def kk103 := Code.fb kk100
def kk104 := Code.fa kk103
def kk105 := Code.fb kk103
def kk106 := Code.fa kk101
def kk107 := Code.fb kk101
def kk108 := Code.fa kk104
def kk109 := Code.fb kk104
def kk110 := Code.fa kk97
def kk111 := Code.fb kk97
def kk112 := Code.fa kk110
def kk113 := Code.fb kk110
def kk114 := Code.fa kk113
def kk115 := Code.fb kk113
def kk116 := Code.fa kk111
def kk117 := Code.fb kk111
def kk118 := Code.fa kk116
def kk119 := Code.fb kk116
def kk120 := Code.fa kk117
def kk121 := Code.fb kk117
def kk122 := Code.fa kk120
def kk123 := Code.fb kk120
def kk124 := Code.fa kk123
def kk125 := Code.fb kk123
def kk126 := Code.fa kk121
def kk127 := Code.fb kk121
def kk128 := Code.fa kk126
def kk129 := Code.fb kk126
def kk130 := Code.fa kk127
def kk131 := Code.fb kk127
def kk132 := Code.fa kk130
def kk133 := Code.fb kk130
def kk134 := Code.fa kk133
def kk135 := Code.fb kk133
def kk136 := Code.fa kk131
def kk137 := Code.fb kk131
def kk138 := Code.fa kk136
def kk139 := Code.fb kk136
def kk140 := Code.fa kk139
def kk141 := Code.fb kk139
def kk142 := Code.fa kk22
def kk143 := Code.fb kk22
def kk144 := Code.fa kk135
def kk145 := Code.fb kk135
def kk146 := Code.fa kk145
def kk147 := Code.fb kk145
def kk148 := Code.fa kk125
def kk149 := Code.fb kk125
def kk150 := Code.fa kk149
def kk151 := Code.fb kk149
def kk152 := Code.fa kk115
def kk153 := Code.fb kk115
def kk154 := Code.fa kk153
def kk155 := Code.fb kk153
def kk156 := Code.fa kk71
def kk157 := Code.fb kk71
def kk158 := Code.fa kk157
def kk159 := Code.fb kk157
def kk160 := Code.fa kk49
def kk161 := Code.fb kk49
def kk162 := Code.fa kk161
def kk163 := Code.fb kk161
def kk164 := Code.fa kk163
def kk165 := Code.fb kk163
def kk166 := Code.fa kk165
def kk167 := Code.fb kk165
end lists_Apply
def lists_Apply.pt (hv : Option Addr) (nv : Int) (argsB : Option Addr) (argsN : Nat) (argsC : Nat) (H : Array Obj) (R : Value → Array Obj → Prop) : Prop :=
 onPtr hv (
 R (.tuple #[.int .u64 0, .int .i64 1]) H) (fun hvA =>
 ∃ x : Option Addr, hat H hvA = some (.pointer x) ∧
 onPtr x (
 R (.tuple #[.int .u64 0, .int .i64 1]) H) (fun xA =>
 if ((decide (nv < 0)) || (decide (nv ≥ 30))) = true then (
 R (.tuple #[.int .u64 0, .int .i64 1]) H)
 else
 lists_table.C  H (fun v H1 => ∃ x_2 : List Value, v = .agg (x_2).toArray ∧ x_2.length = 90 ∧ 
 ∃ xName : ByteArray, ∃ xLeast : Int, ∃ xMost : Int, ((0 ≤ nv ∧ nv < (30 : Int)) ∧ (((x_2 : List Value).toArray.toList).drop (Int.toNat nv * 3)).take 3 = [.string xName, .int .i64 xLeast, .int .i64 xMost]) ∧
 ∀ (b : Nat) (H2 : Array Obj), b = H1.size → H2 = H1.push (.cells #[.string (ByteArray.mk #[]), .int .i64 0, .int .i64 0] 45) →
 (CanPuts H2 (Addr.mk b 0 none) 0 3) ∧ ∀ H3 : Array Obj, H3 = hputs H2 (Addr.mk b 0 none) [.string xName, .int .i64 xLeast, .int .i64 xMost] 0 →
 ∃ J : Bool → Array Obj → Prop, (
 ∃ x_27 : Int, hat H3 ((Addr.mk b 0 none).add 1) = some (.int .i64 x_27) ∧
 if (argsN : Int) < x_27 then (
 J true H3)
 else
 ∃ x_28 : Int, hat H3 ((Addr.mk b 0 none).add 2) = some (.int .i64 x_28) ∧
 if x_28 ≥ 0 then (
 ∃ x_29 : Int, hat H3 ((Addr.mk b 0 none).add 2) = some (.int .i64 x_29) ∧
 J (decide ((argsN : Int) > x_29)) H3)
 else
 J false H3) ∧ ∀ (s48 : Bool) (H4 : Array Obj), J s48 H4 →
 if s48 = true then (
 R (.tuple #[.int .u64 0, .int .i64 5]) H4)
 else
 if nv = 0 then (
 ∃ argsBA : Addr, argsB = some argsBA ∧
 ((0 : Int) ≤ 0 ∧ 0 < (argsN : Int)) ∧
 ∃ x_3 : Int, hat H4 (argsBA.add (Int.toNat 0 * 1)) = some (.int .u64 x_3) ∧
 ((0 : Int) ≤ 1 ∧ 1 < (argsN : Int)) ∧
 ∃ x_4 : Int, hat H4 (argsBA.add (Int.toNat 1 * 1)) = some (.int .u64 x_4) ∧
 obj_Heap_Cons.C (some hvA) x_3 x_4 H4 (fun v_2 H5 => ∃ ra : Int, ∃ rb : Int, v_2 = .tuple #[.int .u64 ra, .int .i64 rb] ∧ 
 R (.tuple #[.int .u64 ra, .int .i64 rb]) H5))
 else
 if nv = 1 then (
 ∃ argsBA_2 : Addr, argsB = some argsBA_2 ∧
 ((0 : Int) ≤ 0 ∧ 0 < (argsN : Int)) ∧
 ∃ x_5 : Int, hat H4 (argsBA_2.add (Int.toNat 0 * 1)) = some (.int .u64 x_5) ∧
 obj_Heap_Car.C (some hvA) x_5 H4 (fun v_3 H6 => ∃ ra_2 : Int, ∃ rb_2 : Int, v_3 = .tuple #[.int .u64 ra_2, .int .i64 rb_2] ∧ 
 R (.tuple #[.int .u64 ra_2, .int .i64 rb_2]) H6))
 else
 if nv = 2 then (
 ∃ argsBA_3 : Addr, argsB = some argsBA_3 ∧
 ((0 : Int) ≤ 0 ∧ 0 < (argsN : Int)) ∧
 ∃ x_6 : Int, hat H4 (argsBA_3.add (Int.toNat 0 * 1)) = some (.int .u64 x_6) ∧
 obj_Heap_Cdr.C (some hvA) x_6 H4 (fun v_4 H7 => ∃ ra_3 : Int, ∃ rb_3 : Int, v_4 = .tuple #[.int .u64 ra_3, .int .i64 rb_3] ∧ 
 R (.tuple #[.int .u64 ra_3, .int .i64 rb_3]) H7))
 else
 ∃ J_2 : Bool → Array Obj → Prop, (
 if nv = 3 then (
 J_2 true H4)
 else
 if nv = 4 then (
 J_2 true H4)
 else
 if nv = 5 then (
 J_2 true H4)
 else
 J_2 (nv == 6) H4) ∧ ∀ (s80 : Bool) (H8 : Array Obj), J_2 s80 H8 →
 if s80 = true then (
 ∃ argsBA_4 : Addr, argsB = some argsBA_4 ∧
 ((0 : Int) ≤ 0 ∧ 0 < (argsN : Int)) ∧
 ∃ x_7 : Int, hat H8 (argsBA_4.add (Int.toNat 0 * 1)) = some (.int .u64 x_7) ∧
 ∀ (b_2 : Nat) (H9 : Array Obj), b_2 = H8.size → H9 = H8.push (.cells #[.int .i64 (Int.tmod (IntKind.wrap .i64 (nv - 3)) 2), .int .i64 (IntKind.wrap .i64 (Int.tdiv (IntKind.wrap .i64 (nv - 3)) 2))] 3) →
 lists_steps.C (some hvA) x_7 (some (Addr.mk b_2 0 none)) 2 2 H9 (fun v_5 H10 => ∃ ra_4 : Int, ∃ rb_4 : Int, v_5 = .tuple #[.int .u64 ra_4, .int .i64 rb_4] ∧ 
 R (.tuple #[.int .u64 ra_4, .int .i64 rb_4]) H10))
 else
 if nv = 7 then (
 ∃ argsBA_5 : Addr, argsB = some argsBA_5 ∧
 ((0 : Int) ≤ 0 ∧ 0 < (argsN : Int)) ∧
 ∃ x_8 : Int, hat H8 (argsBA_5.add (Int.toNat 0 * 1)) = some (.int .u64 x_8) ∧
 ((0 : Int) ≤ 1 ∧ 1 < (argsN : Int)) ∧
 ∃ x_9 : Int, hat H8 (argsBA_5.add (Int.toNat 1 * 1)) = some (.int .u64 x_9) ∧
 obj_Heap_SetCar.C (some hvA) x_8 x_9 H8 (fun v_6 H11 => ∃ x_10 : Int, v_6 = .int .i64 x_10 ∧ 
 lists_done.C x_10 H11 (fun v_7 H12 => ∃ ra_5 : Int, ∃ rb_5 : Int, v_7 = .tuple #[.int .u64 ra_5, .int .i64 rb_5] ∧ 
 R (.tuple #[.int .u64 ra_5, .int .i64 rb_5]) H12)))
 else
 if nv = 8 then (
 ∃ argsBA_6 : Addr, argsB = some argsBA_6 ∧
 ((0 : Int) ≤ 0 ∧ 0 < (argsN : Int)) ∧
 ∃ x_11 : Int, hat H8 (argsBA_6.add (Int.toNat 0 * 1)) = some (.int .u64 x_11) ∧
 ((0 : Int) ≤ 1 ∧ 1 < (argsN : Int)) ∧
 ∃ x_12 : Int, hat H8 (argsBA_6.add (Int.toNat 1 * 1)) = some (.int .u64 x_12) ∧
 obj_Heap_SetCdr.C (some hvA) x_11 x_12 H8 (fun v_8 H13 => ∃ x_13 : Int, v_8 = .int .i64 x_13 ∧ 
 lists_done.C x_13 H13 (fun v_9 H14 => ∃ ra_6 : Int, ∃ rb_6 : Int, v_9 = .tuple #[.int .u64 ra_6, .int .i64 rb_6] ∧ 
 R (.tuple #[.int .u64 ra_6, .int .i64 rb_6]) H14)))
 else
 ∃ J_3 : Bool → Array Obj → Prop, (
 if nv = 11 then (
 J_3 true H8)
 else
 if nv = 13 then (
 J_3 true H8)
 else
 J_3 (nv == 15) H8) ∧ ∀ (s125 : Bool) (H15 : Array Obj), J_3 s125 H15 →
 if s125 = true then (
 ∃ argsBA_7 : Addr, argsB = some argsBA_7 ∧
 ((0 : Int) ≤ 0 ∧ 0 < (argsN : Int)) ∧
 ∃ x_14 : Int, hat H15 (argsBA_7.add (Int.toNat 0 * 1)) = some (.int .u64 x_14) ∧
 lists_elements.C (some hvA) nv x_14 H15 (fun v_10 H16 => ∃ ra_7 : Int, ∃ rb_7 : Int, v_10 = .tuple #[.int .u64 ra_7, .int .i64 rb_7] ∧ 
 R (.tuple #[.int .u64 ra_7, .int .i64 rb_7]) H16))
 else
 if nv = 12 then (
 lists_row.C (some hvA) 20 argsB argsN argsC H15 (fun v_11 H17 => ∃ ra_8 : Int, ∃ rb_8 : Int, v_11 = .tuple #[.int .u64 ra_8, .int .i64 rb_8] ∧ 
 R (.tuple #[.int .u64 ra_8, .int .i64 rb_8]) H17))
 else
 if nv = 14 then (
 lists_joins.C (some hvA) argsB argsN argsC H15 (fun v_12 H18 => ∃ ra_9 : Int, ∃ rb_9 : Int, v_12 = .tuple #[.int .u64 ra_9, .int .i64 rb_9] ∧ 
 R (.tuple #[.int .u64 ra_9, .int .i64 rb_9]) H18))
 else
 if nv = 16 then (
 ∃ argsBA_8 : Addr, argsB = some argsBA_8 ∧
 ((0 : Int) ≤ 0 ∧ 0 < (argsN : Int)) ∧
 ∃ x_15 : Int, hat H15 (argsBA_8.add (Int.toNat 0 * 1)) = some (.int .u64 x_15) ∧
 ((0 : Int) ≤ 1 ∧ 1 < (argsN : Int)) ∧
 ∃ x_16 : Int, hat H15 (argsBA_8.add (Int.toNat 1 * 1)) = some (.int .u64 x_16) ∧
 lists_tail.C (some hvA) x_15 x_16 H15 (fun v_13 H19 => ∃ ra_10 : Int, ∃ rb_10 : Int, v_13 = .tuple #[.int .u64 ra_10, .int .i64 rb_10] ∧ 
 R (.tuple #[.int .u64 ra_10, .int .i64 rb_10]) H19))
 else
 if nv = 17 then (
 ∃ argsBA_9 : Addr, argsB = some argsBA_9 ∧
 ((0 : Int) ≤ 0 ∧ 0 < (argsN : Int)) ∧
 ∃ x_17 : Int, hat H15 (argsBA_9.add (Int.toNat 0 * 1)) = some (.int .u64 x_17) ∧
 ((0 : Int) ≤ 1 ∧ 1 < (argsN : Int)) ∧
 ∃ x_18 : Int, hat H15 (argsBA_9.add (Int.toNat 1 * 1)) = some (.int .u64 x_18) ∧
 lists_tail.C (some hvA) x_17 x_18 H15 (fun v_14 H20 => ∃ ra_11 : Int, ∃ rb_11 : Int, v_14 = .tuple #[.int .u64 ra_11, .int .i64 rb_11] ∧ 
 if rb_11 = 0 then (
 obj_Heap_Car.C (some hvA) ra_11 H20 (fun v_15 H21 => ∃ ra_12 : Int, ∃ rb_12 : Int, v_15 = .tuple #[.int .u64 ra_12, .int .i64 rb_12] ∧ 
 R (.tuple #[.int .u64 ra_12, .int .i64 rb_12]) H21))
 else
 R (.tuple #[.int .u64 0, .int .i64 rb_11]) H20))
 else
 ∃ J_4 : Bool → Array Obj → Prop, (
 if nv = 18 then (
 J_4 true H15)
 else
 if nv = 19 then (
 J_4 true H15)
 else
 J_4 (nv == 20) H15) ∧ ∀ (s184 : Bool) (H22 : Array Obj), J_4 s184 H22 →
 if s184 = true then (
 ∃ argsBA_10 : Addr, argsB = some argsBA_10 ∧
 ((0 : Int) ≤ 0 ∧ 0 < (argsN : Int)) ∧
 ∃ x_19 : Int, hat H22 (argsBA_10.add (Int.toNat 0 * 1)) = some (.int .u64 x_19) ∧
 ((0 : Int) ≤ 1 ∧ 1 < (argsN : Int)) ∧
 ∃ x_20 : Int, hat H22 (argsBA_10.add (Int.toNat 1 * 1)) = some (.int .u64 x_20) ∧
 lists_find.C (some hvA) (IntKind.wrap .i64 (nv - 18)) x_19 x_20 false H22 (fun v_16 H23 => ∃ ra_13 : Int, ∃ rb_13 : Int, v_16 = .tuple #[.int .u64 ra_13, .int .i64 rb_13] ∧ 
 R (.tuple #[.int .u64 ra_13, .int .i64 rb_13]) H23))
 else
 ∃ J_5 : Bool → Array Obj → Prop, (
 if nv = 21 then (
 J_5 true H22)
 else
 if nv = 22 then (
 J_5 true H22)
 else
 J_5 (nv == 23) H22) ∧ ∀ (s200 : Bool) (H24 : Array Obj), J_5 s200 H24 →
 if s200 = true then (
 ∃ argsBA_11 : Addr, argsB = some argsBA_11 ∧
 ((0 : Int) ≤ 0 ∧ 0 < (argsN : Int)) ∧
 ∃ x_21 : Int, hat H24 (argsBA_11.add (Int.toNat 0 * 1)) = some (.int .u64 x_21) ∧
 ((0 : Int) ≤ 1 ∧ 1 < (argsN : Int)) ∧
 ∃ x_22 : Int, hat H24 (argsBA_11.add (Int.toNat 1 * 1)) = some (.int .u64 x_22) ∧
 lists_find.C (some hvA) (IntKind.wrap .i64 (nv - 21)) x_21 x_22 true H24 (fun v_17 H25 => ∃ ra_14 : Int, ∃ rb_14 : Int, v_17 = .tuple #[.int .u64 ra_14, .int .i64 rb_14] ∧ 
 R (.tuple #[.int .u64 ra_14, .int .i64 rb_14]) H25))
 else
 ∃ J_6 : Bool → Array Obj → Prop, (
 if nv = 24 then (
 J_6 true H24)
 else
 if nv = 25 then (
 J_6 true H24)
 else
 J_6 (nv == 26) H24) ∧ ∀ (s216 : Bool) (H26 : Array Obj), J_6 s216 H26 →
 if s216 = true then (
 ∀ (b_3 : Nat) (H27 : Array Obj), b_3 = H26.size → H27 = H26.push (.cells #[.pointer (some hvA), .int .i64 0] 59) →
 ∃ argsBA_12 : Addr, argsB = some argsBA_12 ∧
 ((0 : Int) ≤ 0 ∧ 0 < (argsN : Int)) ∧
 ∃ x_23 : Int, hat H27 (argsBA_12.add (Int.toNat 0 * 1)) = some (.int .u64 x_23) ∧
 ((0 : Int) ≤ 1 ∧ 1 < (argsN : Int)) ∧
 ∃ x_24 : Int, hat H27 (argsBA_12.add (Int.toNat 1 * 1)) = some (.int .u64 x_24) ∧
 lists_judge_same.C (some (Addr.mk b_3 0 none)) (IntKind.wrap .i64 (nv - 24)) x_23 x_24 H27 (fun v_18 H28 => ∃ ra_15 : Bool, ∃ rb_15 : Int, v_18 = .tuple #[.bool ra_15, .int .i64 rb_15] ∧ 
 lists_told.C ra_15 rb_15 H28 (fun v_19 H29 => ∃ ra_16 : Int, ∃ rb_16 : Int, v_19 = .tuple #[.int .u64 ra_16, .int .i64 rb_16] ∧ 
 R (.tuple #[.int .u64 ra_16, .int .i64 rb_16]) H29)))
 else
 ∃ argsBA_13 : Addr, argsB = some argsBA_13 ∧
 ((0 : Int) ≤ 0 ∧ 0 < (argsN : Int)) ∧
 ∃ x_25 : Int, hat H26 (argsBA_13.add (Int.toNat 0 * 1)) = some (.int .u64 x_25) ∧
 lists_asks.C (some hvA) nv x_25 H26 (fun v_20 H30 => ∃ x_26 : Int, v_20 = .int .u64 x_26 ∧ 
 R (.tuple #[.int .u64 x_26, .int .i64 0]) H30))))
namespace lists_Apply
set_option maxRecDepth 100000 in
theorem link {hv : Option Addr} {nv : Int} {argsB : Option Addr} {argsN : Nat} {argsC : Nat} {H : Array Obj} {R : Value → Array Obj → Prop} (h : pt hv nv argsB argsN argsC H R) : C hv nv argsB argsN argsC H R := by
 refine S_enter (fn := Tryz.f5) (c := kk0) 244 Tryz.func5 (by kernel_rfl) (by kernel_rfl) (Nat.le_of_ble_eq_true (by kernel_rfl)) ?_
 intro w0 Q hQ
 unfold pt at h
 refine S_sub [(0, .pointer hv), (1, .int .i64 nv), (2, .slice argsB argsN argsC)] (sb (by kernel_rfl)) ?_
 refine T_sr 0 kk1 kk2 ?_
 refine N_run 2 [(0, .pointer hv), (1, .int .i64 nv), (2, .slice argsB argsN argsC)] (fun _=>by kernel_rfl) ?_
 refine T_e ?_
 refine S_seq kk3 kk4 (by kernel_rfl) ?_
 refine T_sr 1 kk5 kk6 ?_
 refine N_run 1 [(0, .pointer hv), (1, .int .i64 nv), (2, .slice argsB argsN argsC), (12, .pointer hv)] (fun _=>by kernel_rfl) ?_
 rcases hv with _ | hvA
 ·rw [onPtr_none] at h
  refine N_run 16 [(0, .pointer none), (1, .int .i64 nv), (2, .slice argsB argsN argsC), (28, .bool true)] (fun _=>by kernel_rfl) ?_
  refine T_e ?_
  refine S_condT (.tmp 28) kk7 kk8 (by kernel_rfl) (by kernel_rfl) ?_
  refine T_sr 2 kk9 kk10 ?_
  refine N_run 2 [(6, .int .u64 0), (7, .int .i64 1)] (fun _=>by kernel_rfl) ?_
  refine T_e ?_
  refine S_ret (by kernel_rfl) ?_
  show At _ _ _ _ _ (Q .ret)
  exact S_done (fn := Tryz.f5) [.int .u64 0, .int .i64 1] hQ (show ResOK _ _ _ [.tmp 6, .tmp 7] _ from .tmp (by kernel_rfl) (.tmp (by kernel_rfl) (.nil))) h
 ·rw [onPtr_some] at h
  refine N_run 5 [(0, .pointer (some hvA)), (1, .int .i64 nv), (2, .slice argsB argsN argsC), (14, .bool false), (17, .pointer (some hvA))] (fun _=>by kernel_rfl) ?_
  obtain ⟨x, q1, h⟩ := h
  refine N_val (some 18) (loadN 30 (.pointer (some hvA))) (.pointer x) (fun _=>by kernel_rfl) (loadN_run (loadOK_one (fun _=>by kernel_rfl) q1)) [(0, .pointer (some hvA)), (1, .int .i64 nv), (2, .slice argsB argsN argsC), (14, .bool false), (18, .pointer x)] (ps (by kernel_rfl)) ?_
  rcases x with _ | xA
  ·rw [onPtr_none] at h
   refine N_run 10 [(0, .pointer (some hvA)), (1, .int .i64 nv), (2, .slice argsB argsN argsC), (28, .bool true)] (fun _=>by kernel_rfl) ?_
   refine T_e ?_
   refine S_condT (.tmp 28) kk7 kk8 (by kernel_rfl) (by kernel_rfl) ?_
   refine T_sr 2 kk9 kk10 ?_
   refine N_run 2 [(6, .int .u64 0), (7, .int .i64 1)] (fun _=>by kernel_rfl) ?_
   refine T_e ?_
   refine S_ret (by kernel_rfl) ?_
   show At _ _ _ _ _ (Q .ret)
   exact S_done (fn := Tryz.f5) [.int .u64 0, .int .i64 1] hQ (show ResOK _ _ _ [.tmp 6, .tmp 7] _ from .tmp (by kernel_rfl) (.tmp (by kernel_rfl) (.nil))) h
  ·rw [onPtr_some] at h
   refine N_run 7 [(0, .pointer (some hvA)), (1, .int .i64 nv), (2, .slice argsB argsN argsC), (25, .bool (decide (nv < 0)))] (fun _=>by kernel_rfl) ?_
   refine N_cut [(0, .pointer (some hvA)), (1, .int .i64 nv), (2, .slice argsB argsN argsC), (28, .bool ((decide (nv < 0)) || (decide (nv ≥ 30))))] ?_ ?_
   ·refine S_then ?_
    by_cases c4 : ((decide (nv < 0)) || (decide (nv ≥ 30))) = true
    ·rw [if_pos c4] at h
     have b5 : ((decide (nv < 0)) || (decide (nv ≥ 30))) = true := c4
     refine S_env [(0, .pointer (some hvA)), (1, .int .i64 nv), (2, .slice argsB argsN argsC), (28, .bool true)] (by simp only [b5, Bool.not_true, Bool.not_false]) ?_
     clear b5
     refine S_condT (.tmp 28) kk7 kk8 (by kernel_rfl) (by kernel_rfl) ?_
     refine T_sr 2 kk9 kk10 ?_
     refine N_run 2 [(6, .int .u64 0), (7, .int .i64 1)] (fun _=>by kernel_rfl) ?_
     refine T_e ?_
     refine S_ret (by kernel_rfl) ?_
     show At _ _ _ _ _ (Q .ret)
     exact S_done (fn := Tryz.f5) [.int .u64 0, .int .i64 1] hQ (show ResOK _ _ _ [.tmp 6, .tmp 7] _ from .tmp (by kernel_rfl) (.tmp (by kernel_rfl) (.nil))) h
    ·rw [if_neg c4] at h
     have b5 : ((decide (nv < 0)) || (decide (nv ≥ 30))) = false := eq_false_of_ne_true c4
     refine S_env [(0, .pointer (some hvA)), (1, .int .i64 nv), (2, .slice argsB argsN argsC), (28, .bool false)] (by simp only [b5, Bool.not_true, Bool.not_false]) ?_
     clear b5
     refine S_condF (.tmp 28) kk7 kk8 (by kernel_rfl) (by kernel_rfl) ?_
     refine S_skip (by kernel_rfl) ?_
     refine S_then ?_
     refine S_seq kk11 kk12 (by kernel_rfl) ?_
     refine T_sr 3 kk13 kk14 ?_
     refine N_sub [(0, .pointer (some hvA)), (1, .int .i64 nv), (2, .slice argsB argsN argsC)] (sb (by kernel_rfl)) ?_
     refine N_call (some 29) 10 #[] (fun _=>by kernel_rfl) h ?_; clear h
     rintro v H1 ⟨x_2, rfl, hl, h⟩
     refine ⟨[(0, .pointer (some hvA)), (1, .int .i64 nv), (2, .slice argsB argsN argsC), (29, .agg (x_2).toArray)], ps (by kernel_rfl), ?_⟩
     refine N_run 1 [(0, .pointer (some hvA)), (1, .int .i64 nv), (2, .slice argsB argsN argsC), (29, .agg (x_2).toArray), (30, .int .i64 nv)] (fun _=>by kernel_rfl) ?_
     obtain ⟨xName, xLeast, xMost, q6, h⟩ := h
     refine N_val (some 31) (indexN 46 (.agg (x_2).toArray) (.int .i64 nv)) (.agg #[.string xName, .int .i64 xLeast, .int .i64 xMost]) (fun _=>by kernel_rfl) (fun w _ => indexAggs_run (P := Tryz.prog) (t := 46) (elem := 45) (n := 30) (sz := 3) Tryz.underlying46 (fun _=>by kernel_rfl) (fun _=>by kernel_rfl) q6.1.1 q6.1.2 q6.2 w) [(0, .pointer (some hvA)), (1, .int .i64 nv), (2, .slice argsB argsN argsC), (31, .agg #[.string xName, .int .i64 xLeast, .int .i64 xMost])] (ps (by kernel_rfl)) ?_
     refine N_new (some 8) (fun b => .pointer (some (Addr.mk b 0 none))) (.cells #[.string (ByteArray.mk #[]), .int .i64 0, .int .i64 0] 45) (fun _=>by kernel_rfl) ?_
     intro b H2 e7 e8
     replace h := h b H2 e7 e8
     refine ⟨[(0, .pointer (some hvA)), (1, .int .i64 nv), (2, .slice argsB argsN argsC), (8, .pointer (some (Addr.mk b 0 none))), (31, .agg #[.string xName, .int .i64 xLeast, .int .i64 xMost])], ps (by kernel_rfl), ?_⟩
     obtain ⟨q10, h⟩ := h
     refine N_skipop none (storeN 45 (.pointer (some (Addr.mk b 0 none))) (.agg #[.string xName, .int .i64 xLeast, .int .i64 xMost])) (fun Hz => Hz = hputs H2 (Addr.mk b 0 none) [.string xName, .int .i64 xLeast, .int .i64 xMost] 0) (fun _=>by kernel_rfl) (ss_store [.string xName, .int .i64 xLeast, .int .i64 xMost] 3 (by kernel_rfl) (by kernel_rfl) (fun _=>by kernel_rfl) (by kernel_rfl) q10) ?_
     intro H3 e9
     replace h := h H3 e9
     refine ⟨[(0, .pointer (some hvA)), (1, .int .i64 nv), (2, .slice argsB argsN argsC), (8, .pointer (some (Addr.mk b 0 none)))], ps (by kernel_rfl), ?_⟩
     refine T_e ?_
     refine S_seq kk15 kk16 (by kernel_rfl) ?_
     obtain ⟨J, h, j12⟩ := h
     refine S_join (σ := Bool) (fun s_ => [(0, .pointer (some hvA)), (1, .int .i64 nv), (2, .slice argsB argsN argsC), (48, .bool s_)]) (fun s_ H => J s_ H) ?_ ?_
     ·rintro s48 H4 j13
      replace h := j12 s48 H4 j13
      refine S_sub [(0, .pointer (some hvA)), (1, .int .i64 nv), (2, .slice argsB argsN argsC), (48, .bool s48)] (sb (by kernel_rfl)) ?_
      refine S_then ?_
      by_cases c14 : s48 = true
      ·rw [if_pos c14] at h
       have b15 : s48 = true := c14
       refine S_env [(0, .pointer (some hvA)), (1, .int .i64 nv), (2, .slice argsB argsN argsC), (48, .bool true)] (by simp only [b15, Bool.not_true, Bool.not_false]) ?_
       clear b15
       refine S_condT (.tmp 48) kk17 kk18 (by kernel_rfl) (by kernel_rfl) ?_
       refine T_sr 5 kk19 kk20 ?_
       refine N_run 2 [(6, .int .u64 0), (7, .int .i64 5)] (fun _=>by kernel_rfl) ?_
       refine T_e ?_
       refine S_ret (by kernel_rfl) ?_
       show At _ _ _ _ _ (Q .ret)
       exact S_done (fn := Tryz.f5) [.int .u64 0, .int .i64 5] hQ (show ResOK _ _ _ [.tmp 6, .tmp 7] _ from .tmp (by kernel_rfl) (.tmp (by kernel_rfl) (.nil))) h
      ·rw [if_neg c14] at h
       have b15 : s48 = false := eq_false_of_ne_true c14
       refine S_env [(0, .pointer (some hvA)), (1, .int .i64 nv), (2, .slice argsB argsN argsC), (48, .bool false)] (by simp only [b15, Bool.not_true, Bool.not_false]) ?_
       clear b15
       refine S_condF (.tmp 48) kk17 kk18 (by kernel_rfl) (by kernel_rfl) ?_
       refine S_skip (by kernel_rfl) ?_
       refine S_then ?_
       refine S_seq kk21 kk22 (by kernel_rfl) ?_
       refine T_sr 6 kk23 kk24 ?_
       refine N_run 1 [(0, .pointer (some hvA)), (1, .int .i64 nv), (2, .slice argsB argsN argsC), (49, .int .i64 nv)] (fun _=>by kernel_rfl) ?_
       refine T_e ?_
       refine S_block 0 kk25 (by kernel_rfl) ?_
       refine T_sr 7 kk26 kk27 ?_
       refine N_run 2 [(0, .pointer (some hvA)), (1, .int .i64 nv), (2, .slice argsB argsN argsC), (49, .int .i64 nv), (50, .bool (nv == 0))] (fun _=>by kernel_rfl) ?_
       refine T_e ?_
       by_cases c16 : nv = 0
       ·rw [if_pos c16] at h
        have b17 : (nv == 0) = true := beq_iff_eq.mpr c16
        refine S_env [(0, .pointer (some hvA)), (1, .int .i64 nv), (2, .slice argsB argsN argsC), (49, .int .i64 nv), (50, .bool true)] (by simp only [b17, Bool.not_true, Bool.not_false]) ?_
        clear b17
        refine S_condT (.tmp 50) kk28 kk29 (by kernel_rfl) (by kernel_rfl) ?_
        refine S_seq kk30 kk31 (by kernel_rfl) ?_
        obtain ⟨argsBA, rfl, h⟩ := h
        obtain ⟨q18, h⟩ := h
        obtain ⟨x_3, q19, h⟩ := h
        obtain ⟨q20, h⟩ := h
        obtain ⟨x_4, q21, h⟩ := h
        refine S_regionG 8 (Code.ops kk30) [(7, (argsBA.add (Int.toNat 0 * 1)), [.int .u64 x_3]), (7, (argsBA.add (Int.toNat 1 * 1)), [.int .u64 x_4])] 12 #[false, false, false, false, false, false, false, false, false, false, false, false] (by kernel_rfl) (by kernel_rfl) (by kernel_rfl) (by kernel_rfl) (by kernel_rfl) (show FactsAt _ _ _ from ⟨⟨q19, trivial⟩, ⟨q21, trivial⟩, trivial⟩) ?_
        refine G_take 0 (some 52) (.pointer (some hvA)) #[true, false, false, false, false, false, false, false, false, false, false, false] [(2, .slice (some argsBA) argsN argsC), (52, .pointer (some hvA))] ((pure (.value (.pointer (some hvA))) : Sem Next)) (fun _=>by kernel_rfl) (fun _ _ _ _ _ => rfl) (by kernel_rfl) (by kernel_rfl) (by kernel_rfl) (by kernel_rfl) (by kernel_rfl) (by kernel_rfl) (ps (by kernel_rfl)) ?_
        refine G_take 1 (some 53) (.slice (some argsBA) argsN argsC) #[true, true, false, false, false, false, false, false, false, false, false, false] [(2, .slice (some argsBA) argsN argsC), (52, .pointer (some hvA)), (53, .slice (some argsBA) argsN argsC)] ((pure (.value (.slice (some argsBA) argsN argsC)) : Sem Next)) (fun _=>by kernel_rfl) (fun _ _ _ _ _ => rfl) (by kernel_rfl) (by kernel_rfl) (by kernel_rfl) (by kernel_rfl) (by kernel_rfl) (by kernel_rfl) (ps (by kernel_rfl)) ?_
        refine G_take 2 (some 54) (.pointer (some (argsBA.add (Int.toNat 0 * 1)))) #[true, true, true, false, false, false, false, false, false, false, false, false] [(2, .slice (some argsBA) argsN argsC), (52, .pointer (some hvA)), (54, .pointer (some (argsBA.add (Int.toNat 0 * 1))))] (indexAtN 22 (.slice (some argsBA) argsN argsC) (.int .i64 0)) (fun _=>by kernel_rfl) (fun _ w _ _ _ => indexAt_run (P := Tryz.prog) (t := 22) (elem := 26) (sz := 1) (a := argsBA) (len := argsN) (cap := argsC) (k := .i64) (i := 0) Tryz.underlying22 (fun _=>by kernel_rfl) q18.1 q18.2 w) (by kernel_rfl) (by kernel_rfl) (by kernel_rfl) (by kernel_rfl) (by kernel_rfl) (by kernel_rfl) (ps (by kernel_rfl)) ?_
        refine G_take 3 (some 55) (.int .u64 x_3) #[true, true, true, true, false, false, false, false, false, false, false, false] [(2, .slice (some argsBA) argsN argsC), (52, .pointer (some hvA)), (55, .int .u64 x_3)] (loadN 26 (.pointer (some (argsBA.add (Int.toNat 0 * 1))))) (fun _=>by kernel_rfl) (held_one 7 (fun _=>by kernel_rfl) (List.Mem.head _) (.inl (by kernel_rfl))) (by kernel_rfl) (by kernel_rfl) (by kernel_rfl) (by kernel_rfl) (by kernel_rfl) (by kernel_rfl) (ps (by kernel_rfl)) ?_
        refine G_take 4 (some 56) (.slice (some argsBA) argsN argsC) #[true, true, true, true, true, false, false, false, false, false, false, false] [(52, .pointer (some hvA)), (55, .int .u64 x_3), (56, .slice (some argsBA) argsN argsC)] ((pure (.value (.slice (some argsBA) argsN argsC)) : Sem Next)) (fun _=>by kernel_rfl) (fun _ _ _ _ _ => rfl) (by kernel_rfl) (by kernel_rfl) (by kernel_rfl) (by kernel_rfl) (by kernel_rfl) (by kernel_rfl) (ps (by kernel_rfl)) ?_
        refine G_take 5 (some 57) (.pointer (some (argsBA.add (Int.toNat 1 * 1)))) #[true, true, true, true, true, true, false, false, false, false, false, false] [(52, .pointer (some hvA)), (55, .int .u64 x_3), (57, .pointer (some (argsBA.add (Int.toNat 1 * 1))))] (indexAtN 22 (.slice (some argsBA) argsN argsC) (.int .i64 1)) (fun _=>by kernel_rfl) (fun _ w _ _ _ => indexAt_run (P := Tryz.prog) (t := 22) (elem := 26) (sz := 1) (a := argsBA) (len := argsN) (cap := argsC) (k := .i64) (i := 1) Tryz.underlying22 (fun _=>by kernel_rfl) q20.1 q20.2 w) (by kernel_rfl) (by kernel_rfl) (by kernel_rfl) (by kernel_rfl) (by kernel_rfl) (by kernel_rfl) (ps (by kernel_rfl)) ?_
        refine G_take 6 (some 58) (.int .u64 x_4) #[true, true, true, true, true, true, true, false, false, false, false, false] [(52, .pointer (some hvA)), (55, .int .u64 x_3), (58, .int .u64 x_4)] (loadN 26 (.pointer (some (argsBA.add (Int.toNat 1 * 1))))) (fun _=>by kernel_rfl) (held_one 7 (fun _=>by kernel_rfl) (List.Mem.tail _ (List.Mem.head _)) (.inl (by kernel_rfl))) (by kernel_rfl) (by kernel_rfl) (by kernel_rfl) (by kernel_rfl) (by kernel_rfl) (by kernel_rfl) (ps (by kernel_rfl)) ?_
        refine G_call 7 (some 59) #[true, true, true, true, true, true, true, true, false, false, false, false] 11 #[.pointer (some hvA), .int .u64 x_3, .int .u64 x_4] (by kernel_rfl) (fun _=>by kernel_rfl) h (by kernel_rfl) ?_; clear h
        rintro v_2 H5 ⟨ra, rb, rfl, h⟩
        refine ⟨[(59, .tuple #[.int .u64 ra, .int .i64 rb])], ps (by kernel_rfl), (show FactsAt _ _ _ from ⟨trivial, trivial, trivial⟩), ?_⟩
        refine G_take 8 (some 60) (.int .u64 ra) #[true, true, true, true, true, true, true, true, true, false, false, false] [(59, .tuple #[.int .u64 ra, .int .i64 rb]), (60, .int .u64 ra)] (pure (.value (.int .u64 ra)) : Sem Next) (fun _=>by kernel_rfl) (fun _ _ _ _ _ => rfl) (by kernel_rfl) (by kernel_rfl) (by kernel_rfl) (by kernel_rfl) (by kernel_rfl) (by kernel_rfl) (ps (by kernel_rfl)) ?_
        refine G_take 9 (some 61) (.int .i64 rb) #[true, true, true, true, true, true, true, true, true, true, false, false] [(60, .int .u64 ra), (61, .int .i64 rb)] (pure (.value (.int .i64 rb)) : Sem Next) (fun _=>by kernel_rfl) (fun _ _ _ _ _ => rfl) (by kernel_rfl) (by kernel_rfl) (by kernel_rfl) (by kernel_rfl) (by kernel_rfl) (by kernel_rfl) (ps (by kernel_rfl)) ?_
        refine G_take 10 (some 6) (.int .u64 ra) #[true, true, true, true, true, true, true, true, true, true, true, false] [(6, .int .u64 ra), (61, .int .i64 rb)] (pure (.value (.int .u64 ra)) : Sem Next) (fun _=>by kernel_rfl) (fun _ _ _ _ _ => rfl) (by kernel_rfl) (by kernel_rfl) (by kernel_rfl) (by kernel_rfl) (by kernel_rfl) (by kernel_rfl) (ps (by kernel_rfl)) ?_
        refine G_take 11 (some 7) (.int .i64 rb) #[true, true, true, true, true, true, true, true, true, true, true, true] [(6, .int .u64 ra), (7, .int .i64 rb)] (pure (.value (.int .i64 rb)) : Sem Next) (fun _=>by kernel_rfl) (fun _ _ _ _ _ => rfl) (by kernel_rfl) (by kernel_rfl) (by kernel_rfl) (by kernel_rfl) (by kernel_rfl) (by kernel_rfl) (ps (by kernel_rfl)) ?_
        refine G_sub [(6, .int .u64 ra), (7, .int .i64 rb)] (sb (by kernel_rfl)) ?_
        refine G_end (by kernel_rfl) ?_
        refine S_then ?_
        refine S_ret (by kernel_rfl) ?_
        show At _ _ _ _ _ (Q .ret)
        exact S_done (fn := Tryz.f5) [.int .u64 ra, .int .i64 rb] hQ (show ResOK _ _ _ [.tmp 6, .tmp 7] _ from .tmp (by kernel_rfl) (.tmp (by kernel_rfl) (.nil))) h
       ·rw [if_neg c16] at h
        have b17 : (nv == 0) = false := beq_eq_false_iff_ne.mpr c16
        refine S_env [(0, .pointer (some hvA)), (1, .int .i64 nv), (2, .slice argsB argsN argsC), (49, .int .i64 nv), (50, .bool false)] (by simp only [b17, Bool.not_true, Bool.not_false]) ?_
        clear b17
        refine S_condF (.tmp 50) kk28 kk29 (by kernel_rfl) (by kernel_rfl) ?_
        refine T_sr 9 kk32 kk33 ?_
        refine N_run 2 [(0, .pointer (some hvA)), (1, .int .i64 nv), (2, .slice argsB argsN argsC), (49, .int .i64 nv), (62, .bool (nv == 1))] (fun _=>by kernel_rfl) ?_
        refine T_e ?_
        by_cases c22 : nv = 1
        ·rw [if_pos c22] at h
         have b23 : (nv == 1) = true := beq_iff_eq.mpr c22
         refine S_env [(0, .pointer (some hvA)), (1, .int .i64 nv), (2, .slice argsB argsN argsC), (49, .int .i64 nv), (62, .bool true)] (by simp only [b23, Bool.not_true, Bool.not_false]) ?_
         clear b23
         refine S_condT (.tmp 62) kk34 kk35 (by kernel_rfl) (by kernel_rfl) ?_
         refine T_sr 10 kk36 kk37 ?_
         refine N_run 2 [(64, .pointer (some hvA)), (65, .slice argsB argsN argsC)] (fun _=>by kernel_rfl) ?_
         obtain ⟨argsBA_2, rfl, h⟩ := h
         obtain ⟨q24, h⟩ := h
         refine N_val (some 66) (indexAtN 22 (.slice (some argsBA_2) argsN argsC) (.int .i64 0)) (.pointer (some (argsBA_2.add (Int.toNat 0 * 1)))) (fun _=>by kernel_rfl) (fun w _ => indexAt_run (P := Tryz.prog) (t := 22) (elem := 26) (sz := 1) (a := argsBA_2) (len := argsN) (cap := argsC) (k := .i64) (i := 0) Tryz.underlying22 (fun _=>by kernel_rfl) q24.1 q24.2 w) [(64, .pointer (some hvA)), (66, .pointer (some (argsBA_2.add (Int.toNat 0 * 1))))] (ps (by kernel_rfl)) ?_
         obtain ⟨x_5, q25, h⟩ := h
         refine N_val (some 67) (loadN 26 (.pointer (some (argsBA_2.add (Int.toNat 0 * 1))))) (.int .u64 x_5) (fun _=>by kernel_rfl) (loadN_run (loadOK_one (fun _=>by kernel_rfl) q25)) [(64, .pointer (some hvA)), (67, .int .u64 x_5)] (ps (by kernel_rfl)) ?_
         refine N_call (some 68) 9 #[.pointer (some hvA), .int .u64 x_5] (fun _=>by kernel_rfl) h ?_; clear h
         rintro v_3 H6 ⟨ra_2, rb_2, rfl, h⟩
         refine ⟨[(68, .tuple #[.int .u64 ra_2, .int .i64 rb_2])], ps (by kernel_rfl), ?_⟩
         refine N_run 4 [(6, .int .u64 ra_2), (7, .int .i64 rb_2)] (fun _=>by kernel_rfl) ?_
         refine T_e ?_
         refine S_ret (by kernel_rfl) ?_
         show At _ _ _ _ _ (Q .ret)
         exact S_done (fn := Tryz.f5) [.int .u64 ra_2, .int .i64 rb_2] hQ (show ResOK _ _ _ [.tmp 6, .tmp 7] _ from .tmp (by kernel_rfl) (.tmp (by kernel_rfl) (.nil))) h
        ·rw [if_neg c22] at h
         have b23 : (nv == 1) = false := beq_eq_false_iff_ne.mpr c22
         refine S_env [(0, .pointer (some hvA)), (1, .int .i64 nv), (2, .slice argsB argsN argsC), (49, .int .i64 nv), (62, .bool false)] (by simp only [b23, Bool.not_true, Bool.not_false]) ?_
         clear b23
         refine S_condF (.tmp 62) kk34 kk35 (by kernel_rfl) (by kernel_rfl) ?_
         refine T_sr 11 kk38 kk39 ?_
         refine N_run 2 [(0, .pointer (some hvA)), (1, .int .i64 nv), (2, .slice argsB argsN argsC), (49, .int .i64 nv), (71, .bool (nv == 2))] (fun _=>by kernel_rfl) ?_
         refine T_e ?_
         by_cases c26 : nv = 2
         ·rw [if_pos c26] at h
          have b27 : (nv == 2) = true := beq_iff_eq.mpr c26
          refine S_env [(0, .pointer (some hvA)), (1, .int .i64 nv), (2, .slice argsB argsN argsC), (49, .int .i64 nv), (71, .bool true)] (by simp only [b27, Bool.not_true, Bool.not_false]) ?_
          clear b27
          refine S_condT (.tmp 71) kk40 kk41 (by kernel_rfl) (by kernel_rfl) ?_
          refine T_sr 12 kk42 kk43 ?_
          refine N_run 2 [(73, .pointer (some hvA)), (74, .slice argsB argsN argsC)] (fun _=>by kernel_rfl) ?_
          obtain ⟨argsBA_3, rfl, h⟩ := h
          obtain ⟨q28, h⟩ := h
          refine N_val (some 75) (indexAtN 22 (.slice (some argsBA_3) argsN argsC) (.int .i64 0)) (.pointer (some (argsBA_3.add (Int.toNat 0 * 1)))) (fun _=>by kernel_rfl) (fun w _ => indexAt_run (P := Tryz.prog) (t := 22) (elem := 26) (sz := 1) (a := argsBA_3) (len := argsN) (cap := argsC) (k := .i64) (i := 0) Tryz.underlying22 (fun _=>by kernel_rfl) q28.1 q28.2 w) [(73, .pointer (some hvA)), (75, .pointer (some (argsBA_3.add (Int.toNat 0 * 1))))] (ps (by kernel_rfl)) ?_
          obtain ⟨x_6, q29, h⟩ := h
          refine N_val (some 76) (loadN 26 (.pointer (some (argsBA_3.add (Int.toNat 0 * 1))))) (.int .u64 x_6) (fun _=>by kernel_rfl) (loadN_run (loadOK_one (fun _=>by kernel_rfl) q29)) [(73, .pointer (some hvA)), (76, .int .u64 x_6)] (ps (by kernel_rfl)) ?_
          refine N_call (some 77) 12 #[.pointer (some hvA), .int .u64 x_6] (fun _=>by kernel_rfl) h ?_; clear h
          rintro v_4 H7 ⟨ra_3, rb_3, rfl, h⟩
          refine ⟨[(77, .tuple #[.int .u64 ra_3, .int .i64 rb_3])], ps (by kernel_rfl), ?_⟩
          refine N_run 4 [(6, .int .u64 ra_3), (7, .int .i64 rb_3)] (fun _=>by kernel_rfl) ?_
          refine T_e ?_
          refine S_ret (by kernel_rfl) ?_
          show At _ _ _ _ _ (Q .ret)
          exact S_done (fn := Tryz.f5) [.int .u64 ra_3, .int .i64 rb_3] hQ (show ResOK _ _ _ [.tmp 6, .tmp 7] _ from .tmp (by kernel_rfl) (.tmp (by kernel_rfl) (.nil))) h
         ·rw [if_neg c26] at h
          have b27 : (nv == 2) = false := beq_eq_false_iff_ne.mpr c26
          refine S_env [(0, .pointer (some hvA)), (1, .int .i64 nv), (2, .slice argsB argsN argsC), (49, .int .i64 nv), (71, .bool false)] (by simp only [b27, Bool.not_true, Bool.not_false]) ?_
          clear b27
          refine S_condF (.tmp 71) kk40 kk41 (by kernel_rfl) (by kernel_rfl) ?_
          refine S_seq kk44 kk45 (by kernel_rfl) ?_
          refine T_sr 13 kk46 kk47 ?_
          refine N_run 2 [(0, .pointer (some hvA)), (1, .int .i64 nv), (2, .slice argsB argsN argsC), (49, .int .i64 nv), (80, .bool (nv == 3))] (fun _=>by kernel_rfl) ?_
          refine T_e ?_
          obtain ⟨J_2, h, j31⟩ := h
          refine S_join (σ := Bool) (fun s_ => [(0, .pointer (some hvA)), (1, .int .i64 nv), (2, .slice argsB argsN argsC), (49, .int .i64 nv), (80, .bool s_)]) (fun s_ H => J_2 s_ H) ?_ ?_
          ·rintro s80 H8 j32
           replace h := j31 s80 H8 j32
           refine S_sub [(0, .pointer (some hvA)), (1, .int .i64 nv), (2, .slice argsB argsN argsC), (49, .int .i64 nv), (80, .bool s80)] (sb (by kernel_rfl)) ?_
           refine S_then ?_
           by_cases c33 : s80 = true
           ·rw [if_pos c33] at h
            have b34 : s80 = true := c33
            refine S_env [(0, .pointer (some hvA)), (1, .int .i64 nv), (2, .slice argsB argsN argsC), (49, .int .i64 nv), (80, .bool true)] (by simp only [b34, Bool.not_true, Bool.not_false]) ?_
            clear b34
            refine S_condT (.tmp 80) kk50 kk51 (by kernel_rfl) (by kernel_rfl) ?_
            refine T_sr 17 kk52 kk53 ?_
            refine N_run 2 [(1, .int .i64 nv), (85, .pointer (some hvA)), (86, .slice argsB argsN argsC)] (fun _=>by kernel_rfl) ?_
            obtain ⟨argsBA_4, rfl, h⟩ := h
            obtain ⟨q35, h⟩ := h
            refine N_val (some 87) (indexAtN 22 (.slice (some argsBA_4) argsN argsC) (.int .i64 0)) (.pointer (some (argsBA_4.add (Int.toNat 0 * 1)))) (fun _=>by kernel_rfl) (fun w _ => indexAt_run (P := Tryz.prog) (t := 22) (elem := 26) (sz := 1) (a := argsBA_4) (len := argsN) (cap := argsC) (k := .i64) (i := 0) Tryz.underlying22 (fun _=>by kernel_rfl) q35.1 q35.2 w) [(1, .int .i64 nv), (85, .pointer (some hvA)), (87, .pointer (some (argsBA_4.add (Int.toNat 0 * 1))))] (ps (by kernel_rfl)) ?_
            obtain ⟨x_7, q36, h⟩ := h
            refine N_val (some 88) (loadN 26 (.pointer (some (argsBA_4.add (Int.toNat 0 * 1))))) (.int .u64 x_7) (fun _=>by kernel_rfl) (loadN_run (loadOK_one (fun _=>by kernel_rfl) q36)) [(1, .int .i64 nv), (85, .pointer (some hvA)), (88, .int .u64 x_7)] (ps (by kernel_rfl)) ?_
            refine N_run 6 [(85, .pointer (some hvA)), (88, .int .u64 x_7), (91, .int .i64 (Int.tmod (IntKind.wrap .i64 (nv - 3)) 2)), (94, .int .i64 (IntKind.wrap .i64 (Int.tdiv (IntKind.wrap .i64 (nv - 3)) 2)))] (fun _=>by kernel_rfl) ?_
            refine N_new (some 95) (fun b => .slice (some (Addr.mk b 0 none)) 2 2) (.cells #[.int .i64 (Int.tmod (IntKind.wrap .i64 (nv - 3)) 2), .int .i64 (IntKind.wrap .i64 (Int.tdiv (IntKind.wrap .i64 (nv - 3)) 2))] 3) (fun _=>by kernel_rfl) ?_
            intro b_2 H9 e37 e38
            replace h := h b_2 H9 e37 e38
            refine ⟨[(85, .pointer (some hvA)), (88, .int .u64 x_7), (95, .slice (some (Addr.mk b_2 0 none)) 2 2)], ps (by kernel_rfl), ?_⟩
            refine N_call (some 96) 13 #[.pointer (some hvA), .int .u64 x_7, .slice (some (Addr.mk b_2 0 none)) 2 2] (fun _=>by kernel_rfl) h ?_; clear h
            rintro v_5 H10 ⟨ra_4, rb_4, rfl, h⟩
            refine ⟨[(96, .tuple #[.int .u64 ra_4, .int .i64 rb_4])], ps (by kernel_rfl), ?_⟩
            refine N_run 4 [(6, .int .u64 ra_4), (7, .int .i64 rb_4)] (fun _=>by kernel_rfl) ?_
            refine T_e ?_
            refine S_ret (by kernel_rfl) ?_
            show At _ _ _ _ _ (Q .ret)
            exact S_done (fn := Tryz.f5) [.int .u64 ra_4, .int .i64 rb_4] hQ (show ResOK _ _ _ [.tmp 6, .tmp 7] _ from .tmp (by kernel_rfl) (.tmp (by kernel_rfl) (.nil))) h
           ·rw [if_neg c33] at h
            have b34 : s80 = false := eq_false_of_ne_true c33
            refine S_env [(0, .pointer (some hvA)), (1, .int .i64 nv), (2, .slice argsB argsN argsC), (49, .int .i64 nv), (80, .bool false)] (by simp only [b34, Bool.not_true, Bool.not_false]) ?_
            clear b34
            refine S_condF (.tmp 80) kk50 kk51 (by kernel_rfl) (by kernel_rfl) ?_
            refine T_sr 18 kk54 kk55 ?_
            refine N_run 2 [(0, .pointer (some hvA)), (1, .int .i64 nv), (2, .slice argsB argsN argsC), (49, .int .i64 nv), (99, .bool (nv == 7))] (fun _=>by kernel_rfl) ?_
            refine T_e ?_
            by_cases c39 : nv = 7
            ·rw [if_pos c39] at h
             have b40 : (nv == 7) = true := beq_iff_eq.mpr c39
             refine S_env [(0, .pointer (some hvA)), (1, .int .i64 nv), (2, .slice argsB argsN argsC), (49, .int .i64 nv), (99, .bool true)] (by simp only [b40, Bool.not_true, Bool.not_false]) ?_
             clear b40
             refine S_condT (.tmp 99) kk56 kk57 (by kernel_rfl) (by kernel_rfl) ?_
             refine S_seq kk58 kk59 (by kernel_rfl) ?_
             obtain ⟨argsBA_5, rfl, h⟩ := h
             obtain ⟨q41, h⟩ := h
             obtain ⟨x_8, q42, h⟩ := h
             obtain ⟨q43, h⟩ := h
             obtain ⟨x_9, q44, h⟩ := h
             refine S_regionG 19 (Code.ops kk58) [(7, (argsBA_5.add (Int.toNat 0 * 1)), [.int .u64 x_8]), (7, (argsBA_5.add (Int.toNat 1 * 1)), [.int .u64 x_9])] 13 #[false, false, false, false, false, false, false, false, false, false, false, false, false] (by kernel_rfl) (by kernel_rfl) (by kernel_rfl) (by kernel_rfl) (by kernel_rfl) (show FactsAt _ _ _ from ⟨⟨q42, trivial⟩, ⟨q44, trivial⟩, trivial⟩) ?_
             refine G_take 0 (some 101) (.pointer (some hvA)) #[true, false, false, false, false, false, false, false, false, false, false, false, false] [(2, .slice (some argsBA_5) argsN argsC), (101, .pointer (some hvA))] ((pure (.value (.pointer (some hvA))) : Sem Next)) (fun _=>by kernel_rfl) (fun _ _ _ _ _ => rfl) (by kernel_rfl) (by kernel_rfl) (by kernel_rfl) (by kernel_rfl) (by kernel_rfl) (by kernel_rfl) (ps (by kernel_rfl)) ?_
             refine G_take 1 (some 102) (.slice (some argsBA_5) argsN argsC) #[true, true, false, false, false, false, false, false, false, false, false, false, false] [(2, .slice (some argsBA_5) argsN argsC), (101, .pointer (some hvA)), (102, .slice (some argsBA_5) argsN argsC)] ((pure (.value (.slice (some argsBA_5) argsN argsC)) : Sem Next)) (fun _=>by kernel_rfl) (fun _ _ _ _ _ => rfl) (by kernel_rfl) (by kernel_rfl) (by kernel_rfl) (by kernel_rfl) (by kernel_rfl) (by kernel_rfl) (ps (by kernel_rfl)) ?_
             refine G_take 2 (some 103) (.pointer (some (argsBA_5.add (Int.toNat 0 * 1)))) #[true, true, true, false, false, false, false, false, false, false, false, false, false] [(2, .slice (some argsBA_5) argsN argsC), (101, .pointer (some hvA)), (103, .pointer (some (argsBA_5.add (Int.toNat 0 * 1))))] (indexAtN 22 (.slice (some argsBA_5) argsN argsC) (.int .i64 0)) (fun _=>by kernel_rfl) (fun _ w _ _ _ => indexAt_run (P := Tryz.prog) (t := 22) (elem := 26) (sz := 1) (a := argsBA_5) (len := argsN) (cap := argsC) (k := .i64) (i := 0) Tryz.underlying22 (fun _=>by kernel_rfl) q41.1 q41.2 w) (by kernel_rfl) (by kernel_rfl) (by kernel_rfl) (by kernel_rfl) (by kernel_rfl) (by kernel_rfl) (ps (by kernel_rfl)) ?_
             refine G_take 3 (some 104) (.int .u64 x_8) #[true, true, true, true, false, false, false, false, false, false, false, false, false] [(2, .slice (some argsBA_5) argsN argsC), (101, .pointer (some hvA)), (104, .int .u64 x_8)] (loadN 26 (.pointer (some (argsBA_5.add (Int.toNat 0 * 1))))) (fun _=>by kernel_rfl) (held_one 7 (fun _=>by kernel_rfl) (List.Mem.head _) (.inl (by kernel_rfl))) (by kernel_rfl) (by kernel_rfl) (by kernel_rfl) (by kernel_rfl) (by kernel_rfl) (by kernel_rfl) (ps (by kernel_rfl)) ?_
             refine G_take 4 (some 105) (.slice (some argsBA_5) argsN argsC) #[true, true, true, true, true, false, false, false, false, false, false, false, false] [(101, .pointer (some hvA)), (104, .int .u64 x_8), (105, .slice (some argsBA_5) argsN argsC)] ((pure (.value (.slice (some argsBA_5) argsN argsC)) : Sem Next)) (fun _=>by kernel_rfl) (fun _ _ _ _ _ => rfl) (by kernel_rfl) (by kernel_rfl) (by kernel_rfl) (by kernel_rfl) (by kernel_rfl) (by kernel_rfl) (ps (by kernel_rfl)) ?_
             refine G_take 5 (some 106) (.pointer (some (argsBA_5.add (Int.toNat 1 * 1)))) #[true, true, true, true, true, true, false, false, false, false, false, false, false] [(101, .pointer (some hvA)), (104, .int .u64 x_8), (106, .pointer (some (argsBA_5.add (Int.toNat 1 * 1))))] (indexAtN 22 (.slice (some argsBA_5) argsN argsC) (.int .i64 1)) (fun _=>by kernel_rfl) (fun _ w _ _ _ => indexAt_run (P := Tryz.prog) (t := 22) (elem := 26) (sz := 1) (a := argsBA_5) (len := argsN) (cap := argsC) (k := .i64) (i := 1) Tryz.underlying22 (fun _=>by kernel_rfl) q43.1 q43.2 w) (by kernel_rfl) (by kernel_rfl) (by kernel_rfl) (by kernel_rfl) (by kernel_rfl) (by kernel_rfl) (ps (by kernel_rfl)) ?_
             refine G_take 6 (some 107) (.int .u64 x_9) #[true, true, true, true, true, true, true, false, false, false, false, false, false] [(101, .pointer (some hvA)), (104, .int .u64 x_8), (107, .int .u64 x_9)] (loadN 26 (.pointer (some (argsBA_5.add (Int.toNat 1 * 1))))) (fun _=>by kernel_rfl) (held_one 7 (fun _=>by kernel_rfl) (List.Mem.tail _ (List.Mem.head _)) (.inl (by kernel_rfl))) (by kernel_rfl) (by kernel_rfl) (by kernel_rfl) (by kernel_rfl) (by kernel_rfl) (by kernel_rfl) (ps (by kernel_rfl)) ?_
             refine G_call 7 (some 108) #[true, true, true, true, true, true, true, true, false, false, false, false, false] 15 #[.pointer (some hvA), .int .u64 x_8, .int .u64 x_9] (by kernel_rfl) (fun _=>by kernel_rfl) h (by kernel_rfl) ?_; clear h
             rintro v_6 H11 ⟨x_10, rfl, h⟩
             refine ⟨[(108, .int .i64 x_10)], ps (by kernel_rfl), (show FactsAt _ _ _ from ⟨trivial, trivial, trivial⟩), ?_⟩
             refine G_call 8 (some 109) #[true, true, true, true, true, true, true, true, true, false, false, false, false] 14 #[.int .i64 x_10] (by kernel_rfl) (fun _=>by kernel_rfl) h (by kernel_rfl) ?_; clear h
             rintro v_7 H12 ⟨ra_5, rb_5, rfl, h⟩
             refine ⟨[(109, .tuple #[.int .u64 ra_5, .int .i64 rb_5])], ps (by kernel_rfl), (show FactsAt _ _ _ from ⟨trivial, trivial, trivial⟩), ?_⟩
             refine G_take 9 (some 110) (.int .u64 ra_5) #[true, true, true, true, true, true, true, true, true, true, false, false, false] [(109, .tuple #[.int .u64 ra_5, .int .i64 rb_5]), (110, .int .u64 ra_5)] (pure (.value (.int .u64 ra_5)) : Sem Next) (fun _=>by kernel_rfl) (fun _ _ _ _ _ => rfl) (by kernel_rfl) (by kernel_rfl) (by kernel_rfl) (by kernel_rfl) (by kernel_rfl) (by kernel_rfl) (ps (by kernel_rfl)) ?_
             refine G_take 10 (some 111) (.int .i64 rb_5) #[true, true, true, true, true, true, true, true, true, true, true, false, false] [(110, .int .u64 ra_5), (111, .int .i64 rb_5)] (pure (.value (.int .i64 rb_5)) : Sem Next) (fun _=>by kernel_rfl) (fun _ _ _ _ _ => rfl) (by kernel_rfl) (by kernel_rfl) (by kernel_rfl) (by kernel_rfl) (by kernel_rfl) (by kernel_rfl) (ps (by kernel_rfl)) ?_
             refine G_take 11 (some 6) (.int .u64 ra_5) #[true, true, true, true, true, true, true, true, true, true, true, true, false] [(6, .int .u64 ra_5), (111, .int .i64 rb_5)] (pure (.value (.int .u64 ra_5)) : Sem Next) (fun _=>by kernel_rfl) (fun _ _ _ _ _ => rfl) (by kernel_rfl) (by kernel_rfl) (by kernel_rfl) (by kernel_rfl) (by kernel_rfl) (by kernel_rfl) (ps (by kernel_rfl)) ?_
             refine G_take 12 (some 7) (.int .i64 rb_5) #[true, true, true, true, true, true, true, true, true, true, true, true, true] [(6, .int .u64 ra_5), (7, .int .i64 rb_5)] (pure (.value (.int .i64 rb_5)) : Sem Next) (fun _=>by kernel_rfl) (fun _ _ _ _ _ => rfl) (by kernel_rfl) (by kernel_rfl) (by kernel_rfl) (by kernel_rfl) (by kernel_rfl) (by kernel_rfl) (ps (by kernel_rfl)) ?_
             refine G_sub [(6, .int .u64 ra_5), (7, .int .i64 rb_5)] (sb (by kernel_rfl)) ?_
             refine G_end (by kernel_rfl) ?_
             refine S_then ?_
             refine S_ret (by kernel_rfl) ?_
             show At _ _ _ _ _ (Q .ret)
             exact S_done (fn := Tryz.f5) [.int .u64 ra_5, .int .i64 rb_5] hQ (show ResOK _ _ _ [.tmp 6, .tmp 7] _ from .tmp (by kernel_rfl) (.tmp (by kernel_rfl) (.nil))) h
            ·rw [if_neg c39] at h
             have b40 : (nv == 7) = false := beq_eq_false_iff_ne.mpr c39
             refine S_env [(0, .pointer (some hvA)), (1, .int .i64 nv), (2, .slice argsB argsN argsC), (49, .int .i64 nv), (99, .bool false)] (by simp only [b40, Bool.not_true, Bool.not_false]) ?_
             clear b40
             refine S_condF (.tmp 99) kk56 kk57 (by kernel_rfl) (by kernel_rfl) ?_
             refine T_sr 20 kk60 kk61 ?_
             refine N_run 2 [(0, .pointer (some hvA)), (1, .int .i64 nv), (2, .slice argsB argsN argsC), (49, .int .i64 nv), (112, .bool (nv == 8))] (fun _=>by kernel_rfl) ?_
             refine T_e ?_
             by_cases c45 : nv = 8
             ·rw [if_pos c45] at h
              have b46 : (nv == 8) = true := beq_iff_eq.mpr c45
              refine S_env [(0, .pointer (some hvA)), (1, .int .i64 nv), (2, .slice argsB argsN argsC), (49, .int .i64 nv), (112, .bool true)] (by simp only [b46, Bool.not_true, Bool.not_false]) ?_
              clear b46
              refine S_condT (.tmp 112) kk62 kk63 (by kernel_rfl) (by kernel_rfl) ?_
              refine S_seq kk64 kk65 (by kernel_rfl) ?_
              obtain ⟨argsBA_6, rfl, h⟩ := h
              obtain ⟨q47, h⟩ := h
              obtain ⟨x_11, q48, h⟩ := h
              obtain ⟨q49, h⟩ := h
              obtain ⟨x_12, q50, h⟩ := h
              refine S_regionG 21 (Code.ops kk64) [(7, (argsBA_6.add (Int.toNat 0 * 1)), [.int .u64 x_11]), (7, (argsBA_6.add (Int.toNat 1 * 1)), [.int .u64 x_12])] 13 #[false, false, false, false, false, false, false, false, false, false, false, false, false] (by kernel_rfl) (by kernel_rfl) (by kernel_rfl) (by kernel_rfl) (by kernel_rfl) (show FactsAt _ _ _ from ⟨⟨q48, trivial⟩, ⟨q50, trivial⟩, trivial⟩) ?_
              refine G_take 0 (some 114) (.pointer (some hvA)) #[true, false, false, false, false, false, false, false, false, false, false, false, false] [(2, .slice (some argsBA_6) argsN argsC), (114, .pointer (some hvA))] ((pure (.value (.pointer (some hvA))) : Sem Next)) (fun _=>by kernel_rfl) (fun _ _ _ _ _ => rfl) (by kernel_rfl) (by kernel_rfl) (by kernel_rfl) (by kernel_rfl) (by kernel_rfl) (by kernel_rfl) (ps (by kernel_rfl)) ?_
              refine G_take 1 (some 115) (.slice (some argsBA_6) argsN argsC) #[true, true, false, false, false, false, false, false, false, false, false, false, false] [(2, .slice (some argsBA_6) argsN argsC), (114, .pointer (some hvA)), (115, .slice (some argsBA_6) argsN argsC)] ((pure (.value (.slice (some argsBA_6) argsN argsC)) : Sem Next)) (fun _=>by kernel_rfl) (fun _ _ _ _ _ => rfl) (by kernel_rfl) (by kernel_rfl) (by kernel_rfl) (by kernel_rfl) (by kernel_rfl) (by kernel_rfl) (ps (by kernel_rfl)) ?_
              refine G_take 2 (some 116) (.pointer (some (argsBA_6.add (Int.toNat 0 * 1)))) #[true, true, true, false, false, false, false, false, false, false, false, false, false] [(2, .slice (some argsBA_6) argsN argsC), (114, .pointer (some hvA)), (116, .pointer (some (argsBA_6.add (Int.toNat 0 * 1))))] (indexAtN 22 (.slice (some argsBA_6) argsN argsC) (.int .i64 0)) (fun _=>by kernel_rfl) (fun _ w _ _ _ => indexAt_run (P := Tryz.prog) (t := 22) (elem := 26) (sz := 1) (a := argsBA_6) (len := argsN) (cap := argsC) (k := .i64) (i := 0) Tryz.underlying22 (fun _=>by kernel_rfl) q47.1 q47.2 w) (by kernel_rfl) (by kernel_rfl) (by kernel_rfl) (by kernel_rfl) (by kernel_rfl) (by kernel_rfl) (ps (by kernel_rfl)) ?_
              refine G_take 3 (some 117) (.int .u64 x_11) #[true, true, true, true, false, false, false, false, false, false, false, false, false] [(2, .slice (some argsBA_6) argsN argsC), (114, .pointer (some hvA)), (117, .int .u64 x_11)] (loadN 26 (.pointer (some (argsBA_6.add (Int.toNat 0 * 1))))) (fun _=>by kernel_rfl) (held_one 7 (fun _=>by kernel_rfl) (List.Mem.head _) (.inl (by kernel_rfl))) (by kernel_rfl) (by kernel_rfl) (by kernel_rfl) (by kernel_rfl) (by kernel_rfl) (by kernel_rfl) (ps (by kernel_rfl)) ?_
              refine G_take 4 (some 118) (.slice (some argsBA_6) argsN argsC) #[true, true, true, true, true, false, false, false, false, false, false, false, false] [(114, .pointer (some hvA)), (117, .int .u64 x_11), (118, .slice (some argsBA_6) argsN argsC)] ((pure (.value (.slice (some argsBA_6) argsN argsC)) : Sem Next)) (fun _=>by kernel_rfl) (fun _ _ _ _ _ => rfl) (by kernel_rfl) (by kernel_rfl) (by kernel_rfl) (by kernel_rfl) (by kernel_rfl) (by kernel_rfl) (ps (by kernel_rfl)) ?_
              refine G_take 5 (some 119) (.pointer (some (argsBA_6.add (Int.toNat 1 * 1)))) #[true, true, true, true, true, true, false, false, false, false, false, false, false] [(114, .pointer (some hvA)), (117, .int .u64 x_11), (119, .pointer (some (argsBA_6.add (Int.toNat 1 * 1))))] (indexAtN 22 (.slice (some argsBA_6) argsN argsC) (.int .i64 1)) (fun _=>by kernel_rfl) (fun _ w _ _ _ => indexAt_run (P := Tryz.prog) (t := 22) (elem := 26) (sz := 1) (a := argsBA_6) (len := argsN) (cap := argsC) (k := .i64) (i := 1) Tryz.underlying22 (fun _=>by kernel_rfl) q49.1 q49.2 w) (by kernel_rfl) (by kernel_rfl) (by kernel_rfl) (by kernel_rfl) (by kernel_rfl) (by kernel_rfl) (ps (by kernel_rfl)) ?_
              refine G_take 6 (some 120) (.int .u64 x_12) #[true, true, true, true, true, true, true, false, false, false, false, false, false] [(114, .pointer (some hvA)), (117, .int .u64 x_11), (120, .int .u64 x_12)] (loadN 26 (.pointer (some (argsBA_6.add (Int.toNat 1 * 1))))) (fun _=>by kernel_rfl) (held_one 7 (fun _=>by kernel_rfl) (List.Mem.tail _ (List.Mem.head _)) (.inl (by kernel_rfl))) (by kernel_rfl) (by kernel_rfl) (by kernel_rfl) (by kernel_rfl) (by kernel_rfl) (by kernel_rfl) (ps (by kernel_rfl)) ?_
              refine G_call 7 (some 121) #[true, true, true, true, true, true, true, true, false, false, false, false, false] 16 #[.pointer (some hvA), .int .u64 x_11, .int .u64 x_12] (by kernel_rfl) (fun _=>by kernel_rfl) h (by kernel_rfl) ?_; clear h
              rintro v_8 H13 ⟨x_13, rfl, h⟩
              refine ⟨[(121, .int .i64 x_13)], ps (by kernel_rfl), (show FactsAt _ _ _ from ⟨trivial, trivial, trivial⟩), ?_⟩
              refine G_call 8 (some 122) #[true, true, true, true, true, true, true, true, true, false, false, false, false] 14 #[.int .i64 x_13] (by kernel_rfl) (fun _=>by kernel_rfl) h (by kernel_rfl) ?_; clear h
              rintro v_9 H14 ⟨ra_6, rb_6, rfl, h⟩
              refine ⟨[(122, .tuple #[.int .u64 ra_6, .int .i64 rb_6])], ps (by kernel_rfl), (show FactsAt _ _ _ from ⟨trivial, trivial, trivial⟩), ?_⟩
              refine G_take 9 (some 123) (.int .u64 ra_6) #[true, true, true, true, true, true, true, true, true, true, false, false, false] [(122, .tuple #[.int .u64 ra_6, .int .i64 rb_6]), (123, .int .u64 ra_6)] (pure (.value (.int .u64 ra_6)) : Sem Next) (fun _=>by kernel_rfl) (fun _ _ _ _ _ => rfl) (by kernel_rfl) (by kernel_rfl) (by kernel_rfl) (by kernel_rfl) (by kernel_rfl) (by kernel_rfl) (ps (by kernel_rfl)) ?_
              refine G_take 10 (some 124) (.int .i64 rb_6) #[true, true, true, true, true, true, true, true, true, true, true, false, false] [(123, .int .u64 ra_6), (124, .int .i64 rb_6)] (pure (.value (.int .i64 rb_6)) : Sem Next) (fun _=>by kernel_rfl) (fun _ _ _ _ _ => rfl) (by kernel_rfl) (by kernel_rfl) (by kernel_rfl) (by kernel_rfl) (by kernel_rfl) (by kernel_rfl) (ps (by kernel_rfl)) ?_
              refine G_take 11 (some 6) (.int .u64 ra_6) #[true, true, true, true, true, true, true, true, true, true, true, true, false] [(6, .int .u64 ra_6), (124, .int .i64 rb_6)] (pure (.value (.int .u64 ra_6)) : Sem Next) (fun _=>by kernel_rfl) (fun _ _ _ _ _ => rfl) (by kernel_rfl) (by kernel_rfl) (by kernel_rfl) (by kernel_rfl) (by kernel_rfl) (by kernel_rfl) (ps (by kernel_rfl)) ?_
              refine G_take 12 (some 7) (.int .i64 rb_6) #[true, true, true, true, true, true, true, true, true, true, true, true, true] [(6, .int .u64 ra_6), (7, .int .i64 rb_6)] (pure (.value (.int .i64 rb_6)) : Sem Next) (fun _=>by kernel_rfl) (fun _ _ _ _ _ => rfl) (by kernel_rfl) (by kernel_rfl) (by kernel_rfl) (by kernel_rfl) (by kernel_rfl) (by kernel_rfl) (ps (by kernel_rfl)) ?_
              refine G_sub [(6, .int .u64 ra_6), (7, .int .i64 rb_6)] (sb (by kernel_rfl)) ?_
              refine G_end (by kernel_rfl) ?_
              refine S_then ?_
              refine S_ret (by kernel_rfl) ?_
              show At _ _ _ _ _ (Q .ret)
              exact S_done (fn := Tryz.f5) [.int .u64 ra_6, .int .i64 rb_6] hQ (show ResOK _ _ _ [.tmp 6, .tmp 7] _ from .tmp (by kernel_rfl) (.tmp (by kernel_rfl) (.nil))) h
             ·rw [if_neg c45] at h
              have b46 : (nv == 8) = false := beq_eq_false_iff_ne.mpr c45
              refine S_env [(0, .pointer (some hvA)), (1, .int .i64 nv), (2, .slice argsB argsN argsC), (49, .int .i64 nv), (112, .bool false)] (by simp only [b46, Bool.not_true, Bool.not_false]) ?_
              clear b46
              refine S_condF (.tmp 112) kk62 kk63 (by kernel_rfl) (by kernel_rfl) ?_
              refine S_seq kk66 kk67 (by kernel_rfl) ?_
              refine T_sr 22 kk68 kk69 ?_
              refine N_run 2 [(0, .pointer (some hvA)), (1, .int .i64 nv), (2, .slice argsB argsN argsC), (49, .int .i64 nv), (125, .bool (nv == 11))] (fun _=>by kernel_rfl) ?_
              refine T_e ?_
              obtain ⟨J_3, h, j52⟩ := h
              refine S_join (σ := Bool) (fun s_ => [(0, .pointer (some hvA)), (1, .int .i64 nv), (2, .slice argsB argsN argsC), (49, .int .i64 nv), (125, .bool s_)]) (fun s_ H => J_3 s_ H) ?_ ?_
              ·rintro s125 H15 j53
               replace h := j52 s125 H15 j53
               refine S_sub [(0, .pointer (some hvA)), (1, .int .i64 nv), (2, .slice argsB argsN argsC), (49, .int .i64 nv), (125, .bool s125)] (sb (by kernel_rfl)) ?_
               refine S_then ?_
               by_cases c54 : s125 = true
               ·rw [if_pos c54] at h
                have b55 : s125 = true := c54
                refine S_env [(0, .pointer (some hvA)), (1, .int .i64 nv), (2, .slice argsB argsN argsC), (49, .int .i64 nv), (125, .bool true)] (by simp only [b55, Bool.not_true, Bool.not_false]) ?_
                clear b55
                refine S_condT (.tmp 125) kk72 kk73 (by kernel_rfl) (by kernel_rfl) ?_
                refine T_sr 25 kk74 kk75 ?_
                refine N_run 3 [(129, .pointer (some hvA)), (130, .int .i64 nv), (131, .slice argsB argsN argsC)] (fun _=>by kernel_rfl) ?_
                obtain ⟨argsBA_7, rfl, h⟩ := h
                obtain ⟨q56, h⟩ := h
                refine N_val (some 132) (indexAtN 22 (.slice (some argsBA_7) argsN argsC) (.int .i64 0)) (.pointer (some (argsBA_7.add (Int.toNat 0 * 1)))) (fun _=>by kernel_rfl) (fun w _ => indexAt_run (P := Tryz.prog) (t := 22) (elem := 26) (sz := 1) (a := argsBA_7) (len := argsN) (cap := argsC) (k := .i64) (i := 0) Tryz.underlying22 (fun _=>by kernel_rfl) q56.1 q56.2 w) [(129, .pointer (some hvA)), (130, .int .i64 nv), (132, .pointer (some (argsBA_7.add (Int.toNat 0 * 1))))] (ps (by kernel_rfl)) ?_
                obtain ⟨x_14, q57, h⟩ := h
                refine N_val (some 133) (loadN 26 (.pointer (some (argsBA_7.add (Int.toNat 0 * 1))))) (.int .u64 x_14) (fun _=>by kernel_rfl) (loadN_run (loadOK_one (fun _=>by kernel_rfl) q57)) [(129, .pointer (some hvA)), (130, .int .i64 nv), (133, .int .u64 x_14)] (ps (by kernel_rfl)) ?_
                refine N_call (some 134) 17 #[.pointer (some hvA), .int .i64 nv, .int .u64 x_14] (fun _=>by kernel_rfl) h ?_; clear h
                rintro v_10 H16 ⟨ra_7, rb_7, rfl, h⟩
                refine ⟨[(134, .tuple #[.int .u64 ra_7, .int .i64 rb_7])], ps (by kernel_rfl), ?_⟩
                refine N_run 4 [(6, .int .u64 ra_7), (7, .int .i64 rb_7)] (fun _=>by kernel_rfl) ?_
                refine T_e ?_
                refine S_ret (by kernel_rfl) ?_
                show At _ _ _ _ _ (Q .ret)
                exact S_done (fn := Tryz.f5) [.int .u64 ra_7, .int .i64 rb_7] hQ (show ResOK _ _ _ [.tmp 6, .tmp 7] _ from .tmp (by kernel_rfl) (.tmp (by kernel_rfl) (.nil))) h
               ·rw [if_neg c54] at h
                have b55 : s125 = false := eq_false_of_ne_true c54
                refine S_env [(0, .pointer (some hvA)), (1, .int .i64 nv), (2, .slice argsB argsN argsC), (49, .int .i64 nv), (125, .bool false)] (by simp only [b55, Bool.not_true, Bool.not_false]) ?_
                clear b55
                refine S_condF (.tmp 125) kk72 kk73 (by kernel_rfl) (by kernel_rfl) ?_
                refine T_sr 26 kk76 kk77 ?_
                refine N_run 2 [(0, .pointer (some hvA)), (1, .int .i64 nv), (2, .slice argsB argsN argsC), (49, .int .i64 nv), (137, .bool (nv == 12))] (fun _=>by kernel_rfl) ?_
                refine T_e ?_
                by_cases c58 : nv = 12
                ·rw [if_pos c58] at h
                 have b59 : (nv == 12) = true := beq_iff_eq.mpr c58
                 refine S_env [(0, .pointer (some hvA)), (1, .int .i64 nv), (2, .slice argsB argsN argsC), (49, .int .i64 nv), (137, .bool true)] (by simp only [b59, Bool.not_true, Bool.not_false]) ?_
                 clear b59
                 refine S_condT (.tmp 137) kk78 kk79 (by kernel_rfl) (by kernel_rfl) ?_
                 refine T_sr 27 kk80 kk81 ?_
                 refine N_run 2 [(139, .pointer (some hvA)), (140, .slice argsB argsN argsC)] (fun _=>by kernel_rfl) ?_
                 refine N_call (some 141) 18 #[.pointer (some hvA), .int .u64 20, .slice argsB argsN argsC] (fun _=>by kernel_rfl) h ?_; clear h
                 rintro v_11 H17 ⟨ra_8, rb_8, rfl, h⟩
                 refine ⟨[(141, .tuple #[.int .u64 ra_8, .int .i64 rb_8])], ps (by kernel_rfl), ?_⟩
                 refine N_run 4 [(6, .int .u64 ra_8), (7, .int .i64 rb_8)] (fun _=>by kernel_rfl) ?_
                 refine T_e ?_
                 refine S_ret (by kernel_rfl) ?_
                 show At _ _ _ _ _ (Q .ret)
                 exact S_done (fn := Tryz.f5) [.int .u64 ra_8, .int .i64 rb_8] hQ (show ResOK _ _ _ [.tmp 6, .tmp 7] _ from .tmp (by kernel_rfl) (.tmp (by kernel_rfl) (.nil))) h
                ·rw [if_neg c58] at h
                 have b59 : (nv == 12) = false := beq_eq_false_iff_ne.mpr c58
                 refine S_env [(0, .pointer (some hvA)), (1, .int .i64 nv), (2, .slice argsB argsN argsC), (49, .int .i64 nv), (137, .bool false)] (by simp only [b59, Bool.not_true, Bool.not_false]) ?_
                 clear b59
                 refine S_condF (.tmp 137) kk78 kk79 (by kernel_rfl) (by kernel_rfl) ?_
                 refine T_sr 28 kk82 kk83 ?_
                 refine N_run 2 [(0, .pointer (some hvA)), (1, .int .i64 nv), (2, .slice argsB argsN argsC), (49, .int .i64 nv), (144, .bool (nv == 14))] (fun _=>by kernel_rfl) ?_
                 refine T_e ?_
                 by_cases c60 : nv = 14
                 ·rw [if_pos c60] at h
                  have b61 : (nv == 14) = true := beq_iff_eq.mpr c60
                  refine S_env [(0, .pointer (some hvA)), (1, .int .i64 nv), (2, .slice argsB argsN argsC), (49, .int .i64 nv), (144, .bool true)] (by simp only [b61, Bool.not_true, Bool.not_false]) ?_
                  clear b61
                  refine S_condT (.tmp 144) kk84 kk85 (by kernel_rfl) (by kernel_rfl) ?_
                  refine T_sr 29 kk86 kk87 ?_
                  refine N_run 2 [(146, .pointer (some hvA)), (147, .slice argsB argsN argsC)] (fun _=>by kernel_rfl) ?_
                  refine N_call (some 148) 19 #[.pointer (some hvA), .slice argsB argsN argsC] (fun _=>by kernel_rfl) h ?_; clear h
                  rintro v_12 H18 ⟨ra_9, rb_9, rfl, h⟩
                  refine ⟨[(148, .tuple #[.int .u64 ra_9, .int .i64 rb_9])], ps (by kernel_rfl), ?_⟩
                  refine N_run 4 [(6, .int .u64 ra_9), (7, .int .i64 rb_9)] (fun _=>by kernel_rfl) ?_
                  refine T_e ?_
                  refine S_ret (by kernel_rfl) ?_
                  show At _ _ _ _ _ (Q .ret)
                  exact S_done (fn := Tryz.f5) [.int .u64 ra_9, .int .i64 rb_9] hQ (show ResOK _ _ _ [.tmp 6, .tmp 7] _ from .tmp (by kernel_rfl) (.tmp (by kernel_rfl) (.nil))) h
                 ·rw [if_neg c60] at h
                  have b61 : (nv == 14) = false := beq_eq_false_iff_ne.mpr c60
                  refine S_env [(0, .pointer (some hvA)), (1, .int .i64 nv), (2, .slice argsB argsN argsC), (49, .int .i64 nv), (144, .bool false)] (by simp only [b61, Bool.not_true, Bool.not_false]) ?_
                  clear b61
                  refine S_condF (.tmp 144) kk84 kk85 (by kernel_rfl) (by kernel_rfl) ?_
                  refine T_sr 30 kk88 kk89 ?_
                  refine N_run 2 [(0, .pointer (some hvA)), (1, .int .i64 nv), (2, .slice argsB argsN argsC), (49, .int .i64 nv), (151, .bool (nv == 16))] (fun _=>by kernel_rfl) ?_
                  refine T_e ?_
                  by_cases c62 : nv = 16
                  ·rw [if_pos c62] at h
                   have b63 : (nv == 16) = true := beq_iff_eq.mpr c62
                   refine S_env [(0, .pointer (some hvA)), (1, .int .i64 nv), (2, .slice argsB argsN argsC), (49, .int .i64 nv), (151, .bool true)] (by simp only [b63, Bool.not_true, Bool.not_false]) ?_
                   clear b63
                   refine S_condT (.tmp 151) kk90 kk91 (by kernel_rfl) (by kernel_rfl) ?_
                   refine S_seq kk92 kk93 (by kernel_rfl) ?_
                   obtain ⟨argsBA_8, rfl, h⟩ := h
                   obtain ⟨q64, h⟩ := h
                   obtain ⟨x_15, q65, h⟩ := h
                   obtain ⟨q66, h⟩ := h
                   obtain ⟨x_16, q67, h⟩ := h
                   refine S_regionG 31 (Code.ops kk92) [(7, (argsBA_8.add (Int.toNat 0 * 1)), [.int .u64 x_15]), (7, (argsBA_8.add (Int.toNat 1 * 1)), [.int .u64 x_16])] 12 #[false, false, false, false, false, false, false, false, false, false, false, false] (by kernel_rfl) (by kernel_rfl) (by kernel_rfl) (by kernel_rfl) (by kernel_rfl) (show FactsAt _ _ _ from ⟨⟨q65, trivial⟩, ⟨q67, trivial⟩, trivial⟩) ?_
                   refine G_take 0 (some 153) (.pointer (some hvA)) #[true, false, false, false, false, false, false, false, false, false, false, false] [(2, .slice (some argsBA_8) argsN argsC), (153, .pointer (some hvA))] ((pure (.value (.pointer (some hvA))) : Sem Next)) (fun _=>by kernel_rfl) (fun _ _ _ _ _ => rfl) (by kernel_rfl) (by kernel_rfl) (by kernel_rfl) (by kernel_rfl) (by kernel_rfl) (by kernel_rfl) (ps (by kernel_rfl)) ?_
                   refine G_take 1 (some 154) (.slice (some argsBA_8) argsN argsC) #[true, true, false, false, false, false, false, false, false, false, false, false] [(2, .slice (some argsBA_8) argsN argsC), (153, .pointer (some hvA)), (154, .slice (some argsBA_8) argsN argsC)] ((pure (.value (.slice (some argsBA_8) argsN argsC)) : Sem Next)) (fun _=>by kernel_rfl) (fun _ _ _ _ _ => rfl) (by kernel_rfl) (by kernel_rfl) (by kernel_rfl) (by kernel_rfl) (by kernel_rfl) (by kernel_rfl) (ps (by kernel_rfl)) ?_
                   refine G_take 2 (some 155) (.pointer (some (argsBA_8.add (Int.toNat 0 * 1)))) #[true, true, true, false, false, false, false, false, false, false, false, false] [(2, .slice (some argsBA_8) argsN argsC), (153, .pointer (some hvA)), (155, .pointer (some (argsBA_8.add (Int.toNat 0 * 1))))] (indexAtN 22 (.slice (some argsBA_8) argsN argsC) (.int .i64 0)) (fun _=>by kernel_rfl) (fun _ w _ _ _ => indexAt_run (P := Tryz.prog) (t := 22) (elem := 26) (sz := 1) (a := argsBA_8) (len := argsN) (cap := argsC) (k := .i64) (i := 0) Tryz.underlying22 (fun _=>by kernel_rfl) q64.1 q64.2 w) (by kernel_rfl) (by kernel_rfl) (by kernel_rfl) (by kernel_rfl) (by kernel_rfl) (by kernel_rfl) (ps (by kernel_rfl)) ?_
                   refine G_take 3 (some 156) (.int .u64 x_15) #[true, true, true, true, false, false, false, false, false, false, false, false] [(2, .slice (some argsBA_8) argsN argsC), (153, .pointer (some hvA)), (156, .int .u64 x_15)] (loadN 26 (.pointer (some (argsBA_8.add (Int.toNat 0 * 1))))) (fun _=>by kernel_rfl) (held_one 7 (fun _=>by kernel_rfl) (List.Mem.head _) (.inl (by kernel_rfl))) (by kernel_rfl) (by kernel_rfl) (by kernel_rfl) (by kernel_rfl) (by kernel_rfl) (by kernel_rfl) (ps (by kernel_rfl)) ?_
                   refine G_take 4 (some 157) (.slice (some argsBA_8) argsN argsC) #[true, true, true, true, true, false, false, false, false, false, false, false] [(153, .pointer (some hvA)), (156, .int .u64 x_15), (157, .slice (some argsBA_8) argsN argsC)] ((pure (.value (.slice (some argsBA_8) argsN argsC)) : Sem Next)) (fun _=>by kernel_rfl) (fun _ _ _ _ _ => rfl) (by kernel_rfl) (by kernel_rfl) (by kernel_rfl) (by kernel_rfl) (by kernel_rfl) (by kernel_rfl) (ps (by kernel_rfl)) ?_
                   refine G_take 5 (some 158) (.pointer (some (argsBA_8.add (Int.toNat 1 * 1)))) #[true, true, true, true, true, true, false, false, false, false, false, false] [(153, .pointer (some hvA)), (156, .int .u64 x_15), (158, .pointer (some (argsBA_8.add (Int.toNat 1 * 1))))] (indexAtN 22 (.slice (some argsBA_8) argsN argsC) (.int .i64 1)) (fun _=>by kernel_rfl) (fun _ w _ _ _ => indexAt_run (P := Tryz.prog) (t := 22) (elem := 26) (sz := 1) (a := argsBA_8) (len := argsN) (cap := argsC) (k := .i64) (i := 1) Tryz.underlying22 (fun _=>by kernel_rfl) q66.1 q66.2 w) (by kernel_rfl) (by kernel_rfl) (by kernel_rfl) (by kernel_rfl) (by kernel_rfl) (by kernel_rfl) (ps (by kernel_rfl)) ?_
                   refine G_take 6 (some 159) (.int .u64 x_16) #[true, true, true, true, true, true, true, false, false, false, false, false] [(153, .pointer (some hvA)), (156, .int .u64 x_15), (159, .int .u64 x_16)] (loadN 26 (.pointer (some (argsBA_8.add (Int.toNat 1 * 1))))) (fun _=>by kernel_rfl) (held_one 7 (fun _=>by kernel_rfl) (List.Mem.tail _ (List.Mem.head _)) (.inl (by kernel_rfl))) (by kernel_rfl) (by kernel_rfl) (by kernel_rfl) (by kernel_rfl) (by kernel_rfl) (by kernel_rfl) (ps (by kernel_rfl)) ?_
                   refine G_call 7 (some 160) #[true, true, true, true, true, true, true, true, false, false, false, false] 20 #[.pointer (some hvA), .int .u64 x_15, .int .u64 x_16] (by kernel_rfl) (fun _=>by kernel_rfl) h (by kernel_rfl) ?_; clear h
                   rintro v_13 H19 ⟨ra_10, rb_10, rfl, h⟩
                   refine ⟨[(160, .tuple #[.int .u64 ra_10, .int .i64 rb_10])], ps (by kernel_rfl), (show FactsAt _ _ _ from ⟨trivial, trivial, trivial⟩), ?_⟩
                   refine G_take 8 (some 161) (.int .u64 ra_10) #[true, true, true, true, true, true, true, true, true, false, false, false] [(160, .tuple #[.int .u64 ra_10, .int .i64 rb_10]), (161, .int .u64 ra_10)] (pure (.value (.int .u64 ra_10)) : Sem Next) (fun _=>by kernel_rfl) (fun _ _ _ _ _ => rfl) (by kernel_rfl) (by kernel_rfl) (by kernel_rfl) (by kernel_rfl) (by kernel_rfl) (by kernel_rfl) (ps (by kernel_rfl)) ?_
                   refine G_take 9 (some 162) (.int .i64 rb_10) #[true, true, true, true, true, true, true, true, true, true, false, false] [(161, .int .u64 ra_10), (162, .int .i64 rb_10)] (pure (.value (.int .i64 rb_10)) : Sem Next) (fun _=>by kernel_rfl) (fun _ _ _ _ _ => rfl) (by kernel_rfl) (by kernel_rfl) (by kernel_rfl) (by kernel_rfl) (by kernel_rfl) (by kernel_rfl) (ps (by kernel_rfl)) ?_
                   refine G_take 10 (some 6) (.int .u64 ra_10) #[true, true, true, true, true, true, true, true, true, true, true, false] [(6, .int .u64 ra_10), (162, .int .i64 rb_10)] (pure (.value (.int .u64 ra_10)) : Sem Next) (fun _=>by kernel_rfl) (fun _ _ _ _ _ => rfl) (by kernel_rfl) (by kernel_rfl) (by kernel_rfl) (by kernel_rfl) (by kernel_rfl) (by kernel_rfl) (ps (by kernel_rfl)) ?_
                   refine G_take 11 (some 7) (.int .i64 rb_10) #[true, true, true, true, true, true, true, true, true, true, true, true] [(6, .int .u64 ra_10), (7, .int .i64 rb_10)] (pure (.value (.int .i64 rb_10)) : Sem Next) (fun _=>by kernel_rfl) (fun _ _ _ _ _ => rfl) (by kernel_rfl) (by kernel_rfl) (by kernel_rfl) (by kernel_rfl) (by kernel_rfl) (by kernel_rfl) (ps (by kernel_rfl)) ?_
                   refine G_sub [(6, .int .u64 ra_10), (7, .int .i64 rb_10)] (sb (by kernel_rfl)) ?_
                   refine G_end (by kernel_rfl) ?_
                   refine S_then ?_
                   refine S_ret (by kernel_rfl) ?_
                   show At _ _ _ _ _ (Q .ret)
                   exact S_done (fn := Tryz.f5) [.int .u64 ra_10, .int .i64 rb_10] hQ (show ResOK _ _ _ [.tmp 6, .tmp 7] _ from .tmp (by kernel_rfl) (.tmp (by kernel_rfl) (.nil))) h
                  ·rw [if_neg c62] at h
                   have b63 : (nv == 16) = false := beq_eq_false_iff_ne.mpr c62
                   refine S_env [(0, .pointer (some hvA)), (1, .int .i64 nv), (2, .slice argsB argsN argsC), (49, .int .i64 nv), (151, .bool false)] (by simp only [b63, Bool.not_true, Bool.not_false]) ?_
                   clear b63
                   refine S_condF (.tmp 151) kk90 kk91 (by kernel_rfl) (by kernel_rfl) ?_
                   refine T_sr 32 kk94 kk95 ?_
                   refine N_run 2 [(0, .pointer (some hvA)), (1, .int .i64 nv), (2, .slice argsB argsN argsC), (49, .int .i64 nv), (163, .bool (nv == 17))] (fun _=>by kernel_rfl) ?_
                   refine T_e ?_
                   by_cases c68 : nv = 17
                   ·rw [if_pos c68] at h
                    have b69 : (nv == 17) = true := beq_iff_eq.mpr c68
                    refine S_env [(0, .pointer (some hvA)), (1, .int .i64 nv), (2, .slice argsB argsN argsC), (49, .int .i64 nv), (163, .bool true)] (by simp only [b69, Bool.not_true, Bool.not_false]) ?_
                    clear b69
                    refine S_condT (.tmp 163) kk96 kk97 (by kernel_rfl) (by kernel_rfl) ?_
                    refine S_seq kk98 kk99 (by kernel_rfl) ?_
                    obtain ⟨argsBA_9, rfl, h⟩ := h
                    obtain ⟨q70, h⟩ := h
                    obtain ⟨x_17, q71, h⟩ := h
                    obtain ⟨q72, h⟩ := h
                    obtain ⟨x_18, q73, h⟩ := h
                    refine S_regionG 33 (Code.ops kk98) [(7, (argsBA_9.add (Int.toNat 0 * 1)), [.int .u64 x_17]), (7, (argsBA_9.add (Int.toNat 1 * 1)), [.int .u64 x_18])] 13 #[false, false, false, false, false, false, false, false, false, false, false, false, false] (by kernel_rfl) (by kernel_rfl) (by kernel_rfl) (by kernel_rfl) (by kernel_rfl) (show FactsAt _ _ _ from ⟨⟨q71, trivial⟩, ⟨q73, trivial⟩, trivial⟩) ?_
                    refine G_take 0 (some 166) (.pointer (some hvA)) #[true, false, false, false, false, false, false, false, false, false, false, false, false] [(0, .pointer (some hvA)), (2, .slice (some argsBA_9) argsN argsC), (166, .pointer (some hvA))] ((pure (.value (.pointer (some hvA))) : Sem Next)) (fun _=>by kernel_rfl) (fun _ _ _ _ _ => rfl) (by kernel_rfl) (by kernel_rfl) (by kernel_rfl) (by kernel_rfl) (by kernel_rfl) (by kernel_rfl) (ps (by kernel_rfl)) ?_
                    refine G_take 1 (some 167) (.slice (some argsBA_9) argsN argsC) #[true, true, false, false, false, false, false, false, false, false, false, false, false] [(0, .pointer (some hvA)), (2, .slice (some argsBA_9) argsN argsC), (166, .pointer (some hvA)), (167, .slice (some argsBA_9) argsN argsC)] ((pure (.value (.slice (some argsBA_9) argsN argsC)) : Sem Next)) (fun _=>by kernel_rfl) (fun _ _ _ _ _ => rfl) (by kernel_rfl) (by kernel_rfl) (by kernel_rfl) (by kernel_rfl) (by kernel_rfl) (by kernel_rfl) (ps (by kernel_rfl)) ?_
                    refine G_take 2 (some 168) (.pointer (some (argsBA_9.add (Int.toNat 0 * 1)))) #[true, true, true, false, false, false, false, false, false, false, false, false, false] [(0, .pointer (some hvA)), (2, .slice (some argsBA_9) argsN argsC), (166, .pointer (some hvA)), (168, .pointer (some (argsBA_9.add (Int.toNat 0 * 1))))] (indexAtN 22 (.slice (some argsBA_9) argsN argsC) (.int .i64 0)) (fun _=>by kernel_rfl) (fun _ w _ _ _ => indexAt_run (P := Tryz.prog) (t := 22) (elem := 26) (sz := 1) (a := argsBA_9) (len := argsN) (cap := argsC) (k := .i64) (i := 0) Tryz.underlying22 (fun _=>by kernel_rfl) q70.1 q70.2 w) (by kernel_rfl) (by kernel_rfl) (by kernel_rfl) (by kernel_rfl) (by kernel_rfl) (by kernel_rfl) (ps (by kernel_rfl)) ?_
                    refine G_take 3 (some 169) (.int .u64 x_17) #[true, true, true, true, false, false, false, false, false, false, false, false, false] [(0, .pointer (some hvA)), (2, .slice (some argsBA_9) argsN argsC), (166, .pointer (some hvA)), (169, .int .u64 x_17)] (loadN 26 (.pointer (some (argsBA_9.add (Int.toNat 0 * 1))))) (fun _=>by kernel_rfl) (held_one 7 (fun _=>by kernel_rfl) (List.Mem.head _) (.inl (by kernel_rfl))) (by kernel_rfl) (by kernel_rfl) (by kernel_rfl) (by kernel_rfl) (by kernel_rfl) (by kernel_rfl) (ps (by kernel_rfl)) ?_
                    refine G_take 4 (some 170) (.slice (some argsBA_9) argsN argsC) #[true, true, true, true, true, false, false, false, false, false, false, false, false] [(0, .pointer (some hvA)), (166, .pointer (some hvA)), (169, .int .u64 x_17), (170, .slice (some argsBA_9) argsN argsC)] ((pure (.value (.slice (some argsBA_9) argsN argsC)) : Sem Next)) (fun _=>by kernel_rfl) (fun _ _ _ _ _ => rfl) (by kernel_rfl) (by kernel_rfl) (by kernel_rfl) (by kernel_rfl) (by kernel_rfl) (by kernel_rfl) (ps (by kernel_rfl)) ?_
                    refine G_take 5 (some 171) (.pointer (some (argsBA_9.add (Int.toNat 1 * 1)))) #[true, true, true, true, true, true, false, false, false, false, false, false, false] [(0, .pointer (some hvA)), (166, .pointer (some hvA)), (169, .int .u64 x_17), (171, .pointer (some (argsBA_9.add (Int.toNat 1 * 1))))] (indexAtN 22 (.slice (some argsBA_9) argsN argsC) (.int .i64 1)) (fun _=>by kernel_rfl) (fun _ w _ _ _ => indexAt_run (P := Tryz.prog) (t := 22) (elem := 26) (sz := 1) (a := argsBA_9) (len := argsN) (cap := argsC) (k := .i64) (i := 1) Tryz.underlying22 (fun _=>by kernel_rfl) q72.1 q72.2 w) (by kernel_rfl) (by kernel_rfl) (by kernel_rfl) (by kernel_rfl) (by kernel_rfl) (by kernel_rfl) (ps (by kernel_rfl)) ?_
                    refine G_take 6 (some 172) (.int .u64 x_18) #[true, true, true, true, true, true, true, false, false, false, false, false, false] [(0, .pointer (some hvA)), (166, .pointer (some hvA)), (169, .int .u64 x_17), (172, .int .u64 x_18)] (loadN 26 (.pointer (some (argsBA_9.add (Int.toNat 1 * 1))))) (fun _=>by kernel_rfl) (held_one 7 (fun _=>by kernel_rfl) (List.Mem.tail _ (List.Mem.head _)) (.inl (by kernel_rfl))) (by kernel_rfl) (by kernel_rfl) (by kernel_rfl) (by kernel_rfl) (by kernel_rfl) (by kernel_rfl) (ps (by kernel_rfl)) ?_
                    refine G_call 7 (some 173) #[true, true, true, true, true, true, true, true, false, false, false, false, false] 20 #[.pointer (some hvA), .int .u64 x_17, .int .u64 x_18] (by kernel_rfl) (fun _=>by kernel_rfl) h (by kernel_rfl) ?_; clear h
                    rintro v_14 H20 ⟨ra_11, rb_11, rfl, h⟩
                    refine ⟨[(0, .pointer (some hvA)), (173, .tuple #[.int .u64 ra_11, .int .i64 rb_11])], ps (by kernel_rfl), (show FactsAt _ _ _ from ⟨trivial, trivial, trivial⟩), ?_⟩
                    refine G_take 8 (some 165) (.tuple #[.int .u64 ra_11, .int .i64 rb_11]) #[true, true, true, true, true, true, true, true, true, false, false, false, false] [(0, .pointer (some hvA)), (165, .tuple #[.int .u64 ra_11, .int .i64 rb_11])] (pure (.value (.tuple #[.int .u64 ra_11, .int .i64 rb_11])) : Sem Next) (fun _=>by kernel_rfl) (fun _ _ _ _ _ => rfl) (by kernel_rfl) (by kernel_rfl) (by kernel_rfl) (by kernel_rfl) (by kernel_rfl) (by kernel_rfl) (ps (by kernel_rfl)) ?_
                    refine G_take 9 (some 174) (.int .u64 ra_11) #[true, true, true, true, true, true, true, true, true, true, false, false, false] [(0, .pointer (some hvA)), (165, .tuple #[.int .u64 ra_11, .int .i64 rb_11]), (174, .int .u64 ra_11)] (pure (.value (.int .u64 ra_11)) : Sem Next) (fun _=>by kernel_rfl) (fun _ _ _ _ _ => rfl) (by kernel_rfl) (by kernel_rfl) (by kernel_rfl) (by kernel_rfl) (by kernel_rfl) (by kernel_rfl) (ps (by kernel_rfl)) ?_
                    refine G_take 10 (some 175) (.int .i64 rb_11) #[true, true, true, true, true, true, true, true, true, true, true, false, false] [(0, .pointer (some hvA)), (174, .int .u64 ra_11), (175, .int .i64 rb_11)] (pure (.value (.int .i64 rb_11)) : Sem Next) (fun _=>by kernel_rfl) (fun _ _ _ _ _ => rfl) (by kernel_rfl) (by kernel_rfl) (by kernel_rfl) (by kernel_rfl) (by kernel_rfl) (by kernel_rfl) (ps (by kernel_rfl)) ?_
                    refine G_take 11 (some 9) (.int .u64 ra_11) #[true, true, true, true, true, true, true, true, true, true, true, true, false] [(0, .pointer (some hvA)), (9, .int .u64 ra_11), (175, .int .i64 rb_11)] (pure (.value (.int .u64 ra_11)) : Sem Next) (fun _=>by kernel_rfl) (fun _ _ _ _ _ => rfl) (by kernel_rfl) (by kernel_rfl) (by kernel_rfl) (by kernel_rfl) (by kernel_rfl) (by kernel_rfl) (ps (by kernel_rfl)) ?_
                    refine G_take 12 (some 10) (.int .i64 rb_11) #[true, true, true, true, true, true, true, true, true, true, true, true, true] [(0, .pointer (some hvA)), (9, .int .u64 ra_11), (10, .int .i64 rb_11)] (pure (.value (.int .i64 rb_11)) : Sem Next) (fun _=>by kernel_rfl) (fun _ _ _ _ _ => rfl) (by kernel_rfl) (by kernel_rfl) (by kernel_rfl) (by kernel_rfl) (by kernel_rfl) (by kernel_rfl) (ps (by kernel_rfl)) ?_
                    refine G_sub [(0, .pointer (some hvA)), (9, .int .u64 ra_11), (10, .int .i64 rb_11)] (sb (by kernel_rfl)) ?_
                    refine G_end (by kernel_rfl) ?_
                    refine S_then ?_
                    refine S_seq kk100 kk101 (by kernel_rfl) ?_
                    refine T_sr 34 kk102 kk103 ?_
                    refine N_run 2 [(0, .pointer (some hvA)), (9, .int .u64 ra_11), (10, .int .i64 rb_11), (177, .bool (rb_11 != 0))] (fun _=>by kernel_rfl) ?_
                    refine T_e ?_
                    by_cases c74 : rb_11 = 0
                    ·rw [if_pos c74] at h
                     have b75 : (rb_11 != 0) = false := bne_eq_false_iff_eq.mpr c74
                     refine S_env [(0, .pointer (some hvA)), (9, .int .u64 ra_11), (10, .int .i64 rb_11), (177, .bool false)] (by simp only [b75, Bool.not_true, Bool.not_false]) ?_
                     clear b75
                     refine S_condF (.tmp 177) kk104 kk105 (by kernel_rfl) (by kernel_rfl) ?_
                     refine S_skip (by kernel_rfl) ?_
                     refine S_then ?_
                     refine T_sr 36 kk106 kk107 ?_
                     refine N_run 2 [(179, .pointer (some hvA)), (180, .int .u64 ra_11)] (fun _=>by kernel_rfl) ?_
                     refine N_call (some 181) 9 #[.pointer (some hvA), .int .u64 ra_11] (fun _=>by kernel_rfl) h ?_; clear h
                     rintro v_15 H21 ⟨ra_12, rb_12, rfl, h⟩
                     refine ⟨[(181, .tuple #[.int .u64 ra_12, .int .i64 rb_12])], ps (by kernel_rfl), ?_⟩
                     refine N_run 4 [(6, .int .u64 ra_12), (7, .int .i64 rb_12)] (fun _=>by kernel_rfl) ?_
                     refine T_e ?_
                     refine S_ret (by kernel_rfl) ?_
                     show At _ _ _ _ _ (Q .ret)
                     exact S_done (fn := Tryz.f5) [.int .u64 ra_12, .int .i64 rb_12] hQ (show ResOK _ _ _ [.tmp 6, .tmp 7] _ from .tmp (by kernel_rfl) (.tmp (by kernel_rfl) (.nil))) h
                    ·rw [if_neg c74] at h
                     have b75 : (rb_11 != 0) = true := bne_iff_ne.mpr c74
                     refine S_env [(0, .pointer (some hvA)), (9, .int .u64 ra_11), (10, .int .i64 rb_11), (177, .bool true)] (by simp only [b75, Bool.not_true, Bool.not_false]) ?_
                     clear b75
                     refine S_condT (.tmp 177) kk104 kk105 (by kernel_rfl) (by kernel_rfl) ?_
                     refine T_sr 35 kk108 kk109 ?_
                     refine N_run 3 [(6, .int .u64 0), (7, .int .i64 rb_11)] (fun _=>by kernel_rfl) ?_
                     refine T_e ?_
                     refine S_ret (by kernel_rfl) ?_
                     show At _ _ _ _ _ (Q .ret)
                     exact S_done (fn := Tryz.f5) [.int .u64 0, .int .i64 rb_11] hQ (show ResOK _ _ _ [.tmp 6, .tmp 7] _ from .tmp (by kernel_rfl) (.tmp (by kernel_rfl) (.nil))) h
                   ·rw [if_neg c68] at h
                    have b69 : (nv == 17) = false := beq_eq_false_iff_ne.mpr c68
                    refine S_env [(0, .pointer (some hvA)), (1, .int .i64 nv), (2, .slice argsB argsN argsC), (49, .int .i64 nv), (163, .bool false)] (by simp only [b69, Bool.not_true, Bool.not_false]) ?_
                    clear b69
                    refine S_condF (.tmp 163) kk96 kk97 (by kernel_rfl) (by kernel_rfl) ?_
                    refine S_seq kk110 kk111 (by kernel_rfl) ?_
                    refine T_sr 37 kk112 kk113 ?_
                    refine N_run 2 [(0, .pointer (some hvA)), (1, .int .i64 nv), (2, .slice argsB argsN argsC), (49, .int .i64 nv), (184, .bool (nv == 18))] (fun _=>by kernel_rfl) ?_
                    refine T_e ?_
                    obtain ⟨J_4, h, j77⟩ := h
                    refine S_join (σ := Bool) (fun s_ => [(0, .pointer (some hvA)), (1, .int .i64 nv), (2, .slice argsB argsN argsC), (49, .int .i64 nv), (184, .bool s_)]) (fun s_ H => J_4 s_ H) ?_ ?_
                    ·rintro s184 H22 j78
                     replace h := j77 s184 H22 j78
                     refine S_sub [(0, .pointer (some hvA)), (1, .int .i64 nv), (2, .slice argsB argsN argsC), (49, .int .i64 nv), (184, .bool s184)] (sb (by kernel_rfl)) ?_
                     refine S_then ?_
                     by_cases c79 : s184 = true
                     ·rw [if_pos c79] at h
                      have b80 : s184 = true := c79
                      refine S_env [(0, .pointer (some hvA)), (1, .int .i64 nv), (2, .slice argsB argsN argsC), (49, .int .i64 nv), (184, .bool true)] (by simp only [b80, Bool.not_true, Bool.not_false]) ?_
                      clear b80
                      refine S_condT (.tmp 184) kk116 kk117 (by kernel_rfl) (by kernel_rfl) ?_
                      refine S_seq kk118 kk119 (by kernel_rfl) ?_
                      obtain ⟨argsBA_10, rfl, h⟩ := h
                      obtain ⟨q81, h⟩ := h
                      obtain ⟨x_19, q82, h⟩ := h
                      obtain ⟨q83, h⟩ := h
                      obtain ⟨x_20, q84, h⟩ := h
                      refine S_regionG 40 (Code.ops kk118) [(9, (argsBA_10.add (Int.toNat 0 * 1)), [.int .u64 x_19]), (9, (argsBA_10.add (Int.toNat 1 * 1)), [.int .u64 x_20])] 14 #[false, false, false, false, false, false, false, false, false, false, false, false, false, false] (by kernel_rfl) (by kernel_rfl) (by kernel_rfl) (by kernel_rfl) (by kernel_rfl) (show FactsAt _ _ _ from ⟨⟨q82, trivial⟩, ⟨q84, trivial⟩, trivial⟩) ?_
                      refine G_take 0 (some 188) (.pointer (some hvA)) #[true, false, false, false, false, false, false, false, false, false, false, false, false, false] [(1, .int .i64 nv), (2, .slice (some argsBA_10) argsN argsC), (188, .pointer (some hvA))] ((pure (.value (.pointer (some hvA))) : Sem Next)) (fun _=>by kernel_rfl) (fun _ _ _ _ _ => rfl) (by kernel_rfl) (by kernel_rfl) (by kernel_rfl) (by kernel_rfl) (by kernel_rfl) (by kernel_rfl) (ps (by kernel_rfl)) ?_
                      refine G_take 1 (some 189) (.int .i64 nv) #[true, true, false, false, false, false, false, false, false, false, false, false, false, false] [(2, .slice (some argsBA_10) argsN argsC), (188, .pointer (some hvA)), (189, .int .i64 nv)] ((pure (.value (.int .i64 nv)) : Sem Next)) (fun _=>by kernel_rfl) (fun _ _ _ _ _ => rfl) (by kernel_rfl) (by kernel_rfl) (by kernel_rfl) (by kernel_rfl) (by kernel_rfl) (by kernel_rfl) (ps (by kernel_rfl)) ?_
                      refine G_take 2 (some 190) (.int .i64 (IntKind.wrap .i64 (nv - 18))) #[true, true, true, false, false, false, false, false, false, false, false, false, false, false] [(2, .slice (some argsBA_10) argsN argsC), (188, .pointer (some hvA)), (190, .int .i64 (IntKind.wrap .i64 (nv - 18)))] ((pure (.value (.int .i64 (IntKind.wrap .i64 (nv - 18)))) : Sem Next)) (fun _=>by kernel_rfl) (fun _ _ _ _ _ => rfl) (by kernel_rfl) (by kernel_rfl) (by kernel_rfl) (by kernel_rfl) (by kernel_rfl) (by kernel_rfl) (ps (by kernel_rfl)) ?_
                      refine G_take 3 (some 191) (.slice (some argsBA_10) argsN argsC) #[true, true, true, true, false, false, false, false, false, false, false, false, false, false] [(2, .slice (some argsBA_10) argsN argsC), (188, .pointer (some hvA)), (190, .int .i64 (IntKind.wrap .i64 (nv - 18))), (191, .slice (some argsBA_10) argsN argsC)] ((pure (.value (.slice (some argsBA_10) argsN argsC)) : Sem Next)) (fun _=>by kernel_rfl) (fun _ _ _ _ _ => rfl) (by kernel_rfl) (by kernel_rfl) (by kernel_rfl) (by kernel_rfl) (by kernel_rfl) (by kernel_rfl) (ps (by kernel_rfl)) ?_
                      refine G_take 4 (some 192) (.pointer (some (argsBA_10.add (Int.toNat 0 * 1)))) #[true, true, true, true, true, false, false, false, false, false, false, false, false, false] [(2, .slice (some argsBA_10) argsN argsC), (188, .pointer (some hvA)), (190, .int .i64 (IntKind.wrap .i64 (nv - 18))), (192, .pointer (some (argsBA_10.add (Int.toNat 0 * 1))))] (indexAtN 22 (.slice (some argsBA_10) argsN argsC) (.int .i64 0)) (fun _=>by kernel_rfl) (fun _ w _ _ _ => indexAt_run (P := Tryz.prog) (t := 22) (elem := 26) (sz := 1) (a := argsBA_10) (len := argsN) (cap := argsC) (k := .i64) (i := 0) Tryz.underlying22 (fun _=>by kernel_rfl) q81.1 q81.2 w) (by kernel_rfl) (by kernel_rfl) (by kernel_rfl) (by kernel_rfl) (by kernel_rfl) (by kernel_rfl) (ps (by kernel_rfl)) ?_
                      refine G_take 5 (some 193) (.int .u64 x_19) #[true, true, true, true, true, true, false, false, false, false, false, false, false, false] [(2, .slice (some argsBA_10) argsN argsC), (188, .pointer (some hvA)), (190, .int .i64 (IntKind.wrap .i64 (nv - 18))), (193, .int .u64 x_19)] (loadN 26 (.pointer (some (argsBA_10.add (Int.toNat 0 * 1))))) (fun _=>by kernel_rfl) (held_one 9 (fun _=>by kernel_rfl) (List.Mem.head _) (.inl (by kernel_rfl))) (by kernel_rfl) (by kernel_rfl) (by kernel_rfl) (by kernel_rfl) (by kernel_rfl) (by kernel_rfl) (ps (by kernel_rfl)) ?_
                      refine G_take 6 (some 194) (.slice (some argsBA_10) argsN argsC) #[true, true, true, true, true, true, true, false, false, false, false, false, false, false] [(188, .pointer (some hvA)), (190, .int .i64 (IntKind.wrap .i64 (nv - 18))), (193, .int .u64 x_19), (194, .slice (some argsBA_10) argsN argsC)] ((pure (.value (.slice (some argsBA_10) argsN argsC)) : Sem Next)) (fun _=>by kernel_rfl) (fun _ _ _ _ _ => rfl) (by kernel_rfl) (by kernel_rfl) (by kernel_rfl) (by kernel_rfl) (by kernel_rfl) (by kernel_rfl) (ps (by kernel_rfl)) ?_
                      refine G_take 7 (some 195) (.pointer (some (argsBA_10.add (Int.toNat 1 * 1)))) #[true, true, true, true, true, true, true, true, false, false, false, false, false, false] [(188, .pointer (some hvA)), (190, .int .i64 (IntKind.wrap .i64 (nv - 18))), (193, .int .u64 x_19), (195, .pointer (some (argsBA_10.add (Int.toNat 1 * 1))))] (indexAtN 22 (.slice (some argsBA_10) argsN argsC) (.int .i64 1)) (fun _=>by kernel_rfl) (fun _ w _ _ _ => indexAt_run (P := Tryz.prog) (t := 22) (elem := 26) (sz := 1) (a := argsBA_10) (len := argsN) (cap := argsC) (k := .i64) (i := 1) Tryz.underlying22 (fun _=>by kernel_rfl) q83.1 q83.2 w) (by kernel_rfl) (by kernel_rfl) (by kernel_rfl) (by kernel_rfl) (by kernel_rfl) (by kernel_rfl) (ps (by kernel_rfl)) ?_
                      refine G_take 8 (some 196) (.int .u64 x_20) #[true, true, true, true, true, true, true, true, true, false, false, false, false, false] [(188, .pointer (some hvA)), (190, .int .i64 (IntKind.wrap .i64 (nv - 18))), (193, .int .u64 x_19), (196, .int .u64 x_20)] (loadN 26 (.pointer (some (argsBA_10.add (Int.toNat 1 * 1))))) (fun _=>by kernel_rfl) (held_one 9 (fun _=>by kernel_rfl) (List.Mem.tail _ (List.Mem.head _)) (.inl (by kernel_rfl))) (by kernel_rfl) (by kernel_rfl) (by kernel_rfl) (by kernel_rfl) (by kernel_rfl) (by kernel_rfl) (ps (by kernel_rfl)) ?_
                      refine G_call 9 (some 197) #[true, true, true, true, true, true, true, true, true, true, false, false, false, false] 21 #[.pointer (some hvA), .int .i64 (IntKind.wrap .i64 (nv - 18)), .int .u64 x_19, .int .u64 x_20, .bool false] (by kernel_rfl) (fun _=>by kernel_rfl) h (by kernel_rfl) ?_; clear h
                      rintro v_16 H23 ⟨ra_13, rb_13, rfl, h⟩
                      refine ⟨[(197, .tuple #[.int .u64 ra_13, .int .i64 rb_13])], ps (by kernel_rfl), (show FactsAt _ _ _ from ⟨trivial, trivial, trivial⟩), ?_⟩
                      refine G_take 10 (some 198) (.int .u64 ra_13) #[true, true, true, true, true, true, true, true, true, true, true, false, false, false] [(197, .tuple #[.int .u64 ra_13, .int .i64 rb_13]), (198, .int .u64 ra_13)] (pure (.value (.int .u64 ra_13)) : Sem Next) (fun _=>by kernel_rfl) (fun _ _ _ _ _ => rfl) (by kernel_rfl) (by kernel_rfl) (by kernel_rfl) (by kernel_rfl) (by kernel_rfl) (by kernel_rfl) (ps (by kernel_rfl)) ?_
                      refine G_take 11 (some 199) (.int .i64 rb_13) #[true, true, true, true, true, true, true, true, true, true, true, true, false, false] [(198, .int .u64 ra_13), (199, .int .i64 rb_13)] (pure (.value (.int .i64 rb_13)) : Sem Next) (fun _=>by kernel_rfl) (fun _ _ _ _ _ => rfl) (by kernel_rfl) (by kernel_rfl) (by kernel_rfl) (by kernel_rfl) (by kernel_rfl) (by kernel_rfl) (ps (by kernel_rfl)) ?_
                      refine G_take 12 (some 6) (.int .u64 ra_13) #[true, true, true, true, true, true, true, true, true, true, true, true, true, false] [(6, .int .u64 ra_13), (199, .int .i64 rb_13)] (pure (.value (.int .u64 ra_13)) : Sem Next) (fun _=>by kernel_rfl) (fun _ _ _ _ _ => rfl) (by kernel_rfl) (by kernel_rfl) (by kernel_rfl) (by kernel_rfl) (by kernel_rfl) (by kernel_rfl) (ps (by kernel_rfl)) ?_
                      refine G_take 13 (some 7) (.int .i64 rb_13) #[true, true, true, true, true, true, true, true, true, true, true, true, true, true] [(6, .int .u64 ra_13), (7, .int .i64 rb_13)] (pure (.value (.int .i64 rb_13)) : Sem Next) (fun _=>by kernel_rfl) (fun _ _ _ _ _ => rfl) (by kernel_rfl) (by kernel_rfl) (by kernel_rfl) (by kernel_rfl) (by kernel_rfl) (by kernel_rfl) (ps (by kernel_rfl)) ?_
                      refine G_sub [(6, .int .u64 ra_13), (7, .int .i64 rb_13)] (sb (by kernel_rfl)) ?_
                      refine G_end (by kernel_rfl) ?_
                      refine S_then ?_
                      refine S_ret (by kernel_rfl) ?_
                      show At _ _ _ _ _ (Q .ret)
                      exact S_done (fn := Tryz.f5) [.int .u64 ra_13, .int .i64 rb_13] hQ (show ResOK _ _ _ [.tmp 6, .tmp 7] _ from .tmp (by kernel_rfl) (.tmp (by kernel_rfl) (.nil))) h
                     ·rw [if_neg c79] at h
                      have b80 : s184 = false := eq_false_of_ne_true c79
                      refine S_env [(0, .pointer (some hvA)), (1, .int .i64 nv), (2, .slice argsB argsN argsC), (49, .int .i64 nv), (184, .bool false)] (by simp only [b80, Bool.not_true, Bool.not_false]) ?_
                      clear b80
                      refine S_condF (.tmp 184) kk116 kk117 (by kernel_rfl) (by kernel_rfl) ?_
                      refine S_seq kk120 kk121 (by kernel_rfl) ?_
                      refine T_sr 41 kk122 kk123 ?_
                      refine N_run 2 [(0, .pointer (some hvA)), (1, .int .i64 nv), (2, .slice argsB argsN argsC), (49, .int .i64 nv), (200, .bool (nv == 21))] (fun _=>by kernel_rfl) ?_
                      refine T_e ?_
                      obtain ⟨J_5, h, j86⟩ := h
                      refine S_join (σ := Bool) (fun s_ => [(0, .pointer (some hvA)), (1, .int .i64 nv), (2, .slice argsB argsN argsC), (49, .int .i64 nv), (200, .bool s_)]) (fun s_ H => J_5 s_ H) ?_ ?_
                      ·rintro s200 H24 j87
                       replace h := j86 s200 H24 j87
                       refine S_sub [(0, .pointer (some hvA)), (1, .int .i64 nv), (2, .slice argsB argsN argsC), (49, .int .i64 nv), (200, .bool s200)] (sb (by kernel_rfl)) ?_
                       refine S_then ?_
                       by_cases c88 : s200 = true
                       ·rw [if_pos c88] at h
                        have b89 : s200 = true := c88
                        refine S_env [(0, .pointer (some hvA)), (1, .int .i64 nv), (2, .slice argsB argsN argsC), (49, .int .i64 nv), (200, .bool true)] (by simp only [b89, Bool.not_true, Bool.not_false]) ?_
                        clear b89
                        refine S_condT (.tmp 200) kk126 kk127 (by kernel_rfl) (by kernel_rfl) ?_
                        refine S_seq kk128 kk129 (by kernel_rfl) ?_
                        obtain ⟨argsBA_11, rfl, h⟩ := h
                        obtain ⟨q90, h⟩ := h
                        obtain ⟨x_21, q91, h⟩ := h
                        obtain ⟨q92, h⟩ := h
                        obtain ⟨x_22, q93, h⟩ := h
                        refine S_regionG 44 (Code.ops kk128) [(9, (argsBA_11.add (Int.toNat 0 * 1)), [.int .u64 x_21]), (9, (argsBA_11.add (Int.toNat 1 * 1)), [.int .u64 x_22])] 14 #[false, false, false, false, false, false, false, false, false, false, false, false, false, false] (by kernel_rfl) (by kernel_rfl) (by kernel_rfl) (by kernel_rfl) (by kernel_rfl) (show FactsAt _ _ _ from ⟨⟨q91, trivial⟩, ⟨q93, trivial⟩, trivial⟩) ?_
                        refine G_take 0 (some 204) (.pointer (some hvA)) #[true, false, false, false, false, false, false, false, false, false, false, false, false, false] [(1, .int .i64 nv), (2, .slice (some argsBA_11) argsN argsC), (204, .pointer (some hvA))] ((pure (.value (.pointer (some hvA))) : Sem Next)) (fun _=>by kernel_rfl) (fun _ _ _ _ _ => rfl) (by kernel_rfl) (by kernel_rfl) (by kernel_rfl) (by kernel_rfl) (by kernel_rfl) (by kernel_rfl) (ps (by kernel_rfl)) ?_
                        refine G_take 1 (some 205) (.int .i64 nv) #[true, true, false, false, false, false, false, false, false, false, false, false, false, false] [(2, .slice (some argsBA_11) argsN argsC), (204, .pointer (some hvA)), (205, .int .i64 nv)] ((pure (.value (.int .i64 nv)) : Sem Next)) (fun _=>by kernel_rfl) (fun _ _ _ _ _ => rfl) (by kernel_rfl) (by kernel_rfl) (by kernel_rfl) (by kernel_rfl) (by kernel_rfl) (by kernel_rfl) (ps (by kernel_rfl)) ?_
                        refine G_take 2 (some 206) (.int .i64 (IntKind.wrap .i64 (nv - 21))) #[true, true, true, false, false, false, false, false, false, false, false, false, false, false] [(2, .slice (some argsBA_11) argsN argsC), (204, .pointer (some hvA)), (206, .int .i64 (IntKind.wrap .i64 (nv - 21)))] ((pure (.value (.int .i64 (IntKind.wrap .i64 (nv - 21)))) : Sem Next)) (fun _=>by kernel_rfl) (fun _ _ _ _ _ => rfl) (by kernel_rfl) (by kernel_rfl) (by kernel_rfl) (by kernel_rfl) (by kernel_rfl) (by kernel_rfl) (ps (by kernel_rfl)) ?_
                        refine G_take 3 (some 207) (.slice (some argsBA_11) argsN argsC) #[true, true, true, true, false, false, false, false, false, false, false, false, false, false] [(2, .slice (some argsBA_11) argsN argsC), (204, .pointer (some hvA)), (206, .int .i64 (IntKind.wrap .i64 (nv - 21))), (207, .slice (some argsBA_11) argsN argsC)] ((pure (.value (.slice (some argsBA_11) argsN argsC)) : Sem Next)) (fun _=>by kernel_rfl) (fun _ _ _ _ _ => rfl) (by kernel_rfl) (by kernel_rfl) (by kernel_rfl) (by kernel_rfl) (by kernel_rfl) (by kernel_rfl) (ps (by kernel_rfl)) ?_
                        refine G_take 4 (some 208) (.pointer (some (argsBA_11.add (Int.toNat 0 * 1)))) #[true, true, true, true, true, false, false, false, false, false, false, false, false, false] [(2, .slice (some argsBA_11) argsN argsC), (204, .pointer (some hvA)), (206, .int .i64 (IntKind.wrap .i64 (nv - 21))), (208, .pointer (some (argsBA_11.add (Int.toNat 0 * 1))))] (indexAtN 22 (.slice (some argsBA_11) argsN argsC) (.int .i64 0)) (fun _=>by kernel_rfl) (fun _ w _ _ _ => indexAt_run (P := Tryz.prog) (t := 22) (elem := 26) (sz := 1) (a := argsBA_11) (len := argsN) (cap := argsC) (k := .i64) (i := 0) Tryz.underlying22 (fun _=>by kernel_rfl) q90.1 q90.2 w) (by kernel_rfl) (by kernel_rfl) (by kernel_rfl) (by kernel_rfl) (by kernel_rfl) (by kernel_rfl) (ps (by kernel_rfl)) ?_
                        refine G_take 5 (some 209) (.int .u64 x_21) #[true, true, true, true, true, true, false, false, false, false, false, false, false, false] [(2, .slice (some argsBA_11) argsN argsC), (204, .pointer (some hvA)), (206, .int .i64 (IntKind.wrap .i64 (nv - 21))), (209, .int .u64 x_21)] (loadN 26 (.pointer (some (argsBA_11.add (Int.toNat 0 * 1))))) (fun _=>by kernel_rfl) (held_one 9 (fun _=>by kernel_rfl) (List.Mem.head _) (.inl (by kernel_rfl))) (by kernel_rfl) (by kernel_rfl) (by kernel_rfl) (by kernel_rfl) (by kernel_rfl) (by kernel_rfl) (ps (by kernel_rfl)) ?_
                        refine G_take 6 (some 210) (.slice (some argsBA_11) argsN argsC) #[true, true, true, true, true, true, true, false, false, false, false, false, false, false] [(204, .pointer (some hvA)), (206, .int .i64 (IntKind.wrap .i64 (nv - 21))), (209, .int .u64 x_21), (210, .slice (some argsBA_11) argsN argsC)] ((pure (.value (.slice (some argsBA_11) argsN argsC)) : Sem Next)) (fun _=>by kernel_rfl) (fun _ _ _ _ _ => rfl) (by kernel_rfl) (by kernel_rfl) (by kernel_rfl) (by kernel_rfl) (by kernel_rfl) (by kernel_rfl) (ps (by kernel_rfl)) ?_
                        refine G_take 7 (some 211) (.pointer (some (argsBA_11.add (Int.toNat 1 * 1)))) #[true, true, true, true, true, true, true, true, false, false, false, false, false, false] [(204, .pointer (some hvA)), (206, .int .i64 (IntKind.wrap .i64 (nv - 21))), (209, .int .u64 x_21), (211, .pointer (some (argsBA_11.add (Int.toNat 1 * 1))))] (indexAtN 22 (.slice (some argsBA_11) argsN argsC) (.int .i64 1)) (fun _=>by kernel_rfl) (fun _ w _ _ _ => indexAt_run (P := Tryz.prog) (t := 22) (elem := 26) (sz := 1) (a := argsBA_11) (len := argsN) (cap := argsC) (k := .i64) (i := 1) Tryz.underlying22 (fun _=>by kernel_rfl) q92.1 q92.2 w) (by kernel_rfl) (by kernel_rfl) (by kernel_rfl) (by kernel_rfl) (by kernel_rfl) (by kernel_rfl) (ps (by kernel_rfl)) ?_
                        refine G_take 8 (some 212) (.int .u64 x_22) #[true, true, true, true, true, true, true, true, true, false, false, false, false, false] [(204, .pointer (some hvA)), (206, .int .i64 (IntKind.wrap .i64 (nv - 21))), (209, .int .u64 x_21), (212, .int .u64 x_22)] (loadN 26 (.pointer (some (argsBA_11.add (Int.toNat 1 * 1))))) (fun _=>by kernel_rfl) (held_one 9 (fun _=>by kernel_rfl) (List.Mem.tail _ (List.Mem.head _)) (.inl (by kernel_rfl))) (by kernel_rfl) (by kernel_rfl) (by kernel_rfl) (by kernel_rfl) (by kernel_rfl) (by kernel_rfl) (ps (by kernel_rfl)) ?_
                        refine G_call 9 (some 213) #[true, true, true, true, true, true, true, true, true, true, false, false, false, false] 21 #[.pointer (some hvA), .int .i64 (IntKind.wrap .i64 (nv - 21)), .int .u64 x_21, .int .u64 x_22, .bool true] (by kernel_rfl) (fun _=>by kernel_rfl) h (by kernel_rfl) ?_; clear h
                        rintro v_17 H25 ⟨ra_14, rb_14, rfl, h⟩
                        refine ⟨[(213, .tuple #[.int .u64 ra_14, .int .i64 rb_14])], ps (by kernel_rfl), (show FactsAt _ _ _ from ⟨trivial, trivial, trivial⟩), ?_⟩
                        refine G_take 10 (some 214) (.int .u64 ra_14) #[true, true, true, true, true, true, true, true, true, true, true, false, false, false] [(213, .tuple #[.int .u64 ra_14, .int .i64 rb_14]), (214, .int .u64 ra_14)] (pure (.value (.int .u64 ra_14)) : Sem Next) (fun _=>by kernel_rfl) (fun _ _ _ _ _ => rfl) (by kernel_rfl) (by kernel_rfl) (by kernel_rfl) (by kernel_rfl) (by kernel_rfl) (by kernel_rfl) (ps (by kernel_rfl)) ?_
                        refine G_take 11 (some 215) (.int .i64 rb_14) #[true, true, true, true, true, true, true, true, true, true, true, true, false, false] [(214, .int .u64 ra_14), (215, .int .i64 rb_14)] (pure (.value (.int .i64 rb_14)) : Sem Next) (fun _=>by kernel_rfl) (fun _ _ _ _ _ => rfl) (by kernel_rfl) (by kernel_rfl) (by kernel_rfl) (by kernel_rfl) (by kernel_rfl) (by kernel_rfl) (ps (by kernel_rfl)) ?_
                        refine G_take 12 (some 6) (.int .u64 ra_14) #[true, true, true, true, true, true, true, true, true, true, true, true, true, false] [(6, .int .u64 ra_14), (215, .int .i64 rb_14)] (pure (.value (.int .u64 ra_14)) : Sem Next) (fun _=>by kernel_rfl) (fun _ _ _ _ _ => rfl) (by kernel_rfl) (by kernel_rfl) (by kernel_rfl) (by kernel_rfl) (by kernel_rfl) (by kernel_rfl) (ps (by kernel_rfl)) ?_
                        refine G_take 13 (some 7) (.int .i64 rb_14) #[true, true, true, true, true, true, true, true, true, true, true, true, true, true] [(6, .int .u64 ra_14), (7, .int .i64 rb_14)] (pure (.value (.int .i64 rb_14)) : Sem Next) (fun _=>by kernel_rfl) (fun _ _ _ _ _ => rfl) (by kernel_rfl) (by kernel_rfl) (by kernel_rfl) (by kernel_rfl) (by kernel_rfl) (by kernel_rfl) (ps (by kernel_rfl)) ?_
                        refine G_sub [(6, .int .u64 ra_14), (7, .int .i64 rb_14)] (sb (by kernel_rfl)) ?_
                        refine G_end (by kernel_rfl) ?_
                        refine S_then ?_
                        refine S_ret (by kernel_rfl) ?_
                        show At _ _ _ _ _ (Q .ret)
                        exact S_done (fn := Tryz.f5) [.int .u64 ra_14, .int .i64 rb_14] hQ (show ResOK _ _ _ [.tmp 6, .tmp 7] _ from .tmp (by kernel_rfl) (.tmp (by kernel_rfl) (.nil))) h
                       ·rw [if_neg c88] at h
                        have b89 : s200 = false := eq_false_of_ne_true c88
                        refine S_env [(0, .pointer (some hvA)), (1, .int .i64 nv), (2, .slice argsB argsN argsC), (49, .int .i64 nv), (200, .bool false)] (by simp only [b89, Bool.not_true, Bool.not_false]) ?_
                        clear b89
                        refine S_condF (.tmp 200) kk126 kk127 (by kernel_rfl) (by kernel_rfl) ?_
                        refine S_seq kk130 kk131 (by kernel_rfl) ?_
                        refine T_sr 45 kk132 kk133 ?_
                        refine N_run 2 [(0, .pointer (some hvA)), (1, .int .i64 nv), (2, .slice argsB argsN argsC), (49, .int .i64 nv), (216, .bool (nv == 24))] (fun _=>by kernel_rfl) ?_
                        refine T_e ?_
                        obtain ⟨J_6, h, j95⟩ := h
                        refine S_join (σ := Bool) (fun s_ => [(0, .pointer (some hvA)), (1, .int .i64 nv), (2, .slice argsB argsN argsC), (216, .bool s_)]) (fun s_ H => J_6 s_ H) ?_ ?_
                        ·rintro s216 H26 j96
                         replace h := j95 s216 H26 j96
                         refine S_sub [(0, .pointer (some hvA)), (1, .int .i64 nv), (2, .slice argsB argsN argsC), (216, .bool s216)] (sb (by kernel_rfl)) ?_
                         refine S_then ?_
                         by_cases c97 : s216 = true
                         ·rw [if_pos c97] at h
                          have b98 : s216 = true := c97
                          refine S_env [(0, .pointer (some hvA)), (1, .int .i64 nv), (2, .slice argsB argsN argsC), (216, .bool true)] (by simp only [b98, Bool.not_true, Bool.not_false]) ?_
                          clear b98
                          refine S_condT (.tmp 216) kk136 kk137 (by kernel_rfl) (by kernel_rfl) ?_
                          refine T_sr 48 kk138 kk139 ?_
                          refine N_run 2 [(1, .int .i64 nv), (2, .slice argsB argsN argsC), (221, .agg #[.pointer (some hvA), .int .i64 0])] (fun _=>by kernel_rfl) ?_
                          refine N_new (some 222) (fun b => .pointer (some (Addr.mk b 0 none))) (.cells #[.pointer (some hvA), .int .i64 0] 59) (fun _=>by kernel_rfl) ?_
                          intro b_3 H27 e99 e100
                          replace h := h b_3 H27 e99 e100
                          refine ⟨[(1, .int .i64 nv), (2, .slice argsB argsN argsC), (222, .pointer (some (Addr.mk b_3 0 none)))], ps (by kernel_rfl), ?_⟩
                          refine N_run 1 [(1, .int .i64 nv), (2, .slice argsB argsN argsC), (11, .pointer (some (Addr.mk b_3 0 none)))] (fun _=>by kernel_rfl) ?_
                          refine T_e ?_
                          refine S_seq kk140 kk141 (by kernel_rfl) ?_
                          obtain ⟨argsBA_12, rfl, h⟩ := h
                          obtain ⟨q101, h⟩ := h
                          obtain ⟨x_23, q102, h⟩ := h
                          obtain ⟨q103, h⟩ := h
                          obtain ⟨x_24, q104, h⟩ := h
                          refine S_regionG 49 (Code.ops kk140) [(9, (argsBA_12.add (Int.toNat 0 * 1)), [.int .u64 x_23]), (9, (argsBA_12.add (Int.toNat 1 * 1)), [.int .u64 x_24])] 17 #[false, false, false, false, false, false, false, false, false, false, false, false, false, false, false, false, false] (by kernel_rfl) (by kernel_rfl) (by kernel_rfl) (by kernel_rfl) (by kernel_rfl) (show FactsAt _ _ _ from ⟨⟨q102, trivial⟩, ⟨q104, trivial⟩, trivial⟩) ?_
                          refine G_take 0 (some 223) (.pointer (some (Addr.mk b_3 0 none))) #[true, false, false, false, false, false, false, false, false, false, false, false, false, false, false, false, false] [(1, .int .i64 nv), (2, .slice (some argsBA_12) argsN argsC), (223, .pointer (some (Addr.mk b_3 0 none)))] ((pure (.value (.pointer (some (Addr.mk b_3 0 none)))) : Sem Next)) (fun _=>by kernel_rfl) (fun _ _ _ _ _ => rfl) (by kernel_rfl) (by kernel_rfl) (by kernel_rfl) (by kernel_rfl) (by kernel_rfl) (by kernel_rfl) (ps (by kernel_rfl)) ?_
                          refine G_take 1 (some 224) (.int .i64 nv) #[true, true, false, false, false, false, false, false, false, false, false, false, false, false, false, false, false] [(2, .slice (some argsBA_12) argsN argsC), (223, .pointer (some (Addr.mk b_3 0 none))), (224, .int .i64 nv)] ((pure (.value (.int .i64 nv)) : Sem Next)) (fun _=>by kernel_rfl) (fun _ _ _ _ _ => rfl) (by kernel_rfl) (by kernel_rfl) (by kernel_rfl) (by kernel_rfl) (by kernel_rfl) (by kernel_rfl) (ps (by kernel_rfl)) ?_
                          refine G_take 2 (some 225) (.int .i64 (IntKind.wrap .i64 (nv - 24))) #[true, true, true, false, false, false, false, false, false, false, false, false, false, false, false, false, false] [(2, .slice (some argsBA_12) argsN argsC), (223, .pointer (some (Addr.mk b_3 0 none))), (225, .int .i64 (IntKind.wrap .i64 (nv - 24)))] ((pure (.value (.int .i64 (IntKind.wrap .i64 (nv - 24)))) : Sem Next)) (fun _=>by kernel_rfl) (fun _ _ _ _ _ => rfl) (by kernel_rfl) (by kernel_rfl) (by kernel_rfl) (by kernel_rfl) (by kernel_rfl) (by kernel_rfl) (ps (by kernel_rfl)) ?_
                          refine G_take 3 (some 226) (.slice (some argsBA_12) argsN argsC) #[true, true, true, true, false, false, false, false, false, false, false, false, false, false, false, false, false] [(2, .slice (some argsBA_12) argsN argsC), (223, .pointer (some (Addr.mk b_3 0 none))), (225, .int .i64 (IntKind.wrap .i64 (nv - 24))), (226, .slice (some argsBA_12) argsN argsC)] ((pure (.value (.slice (some argsBA_12) argsN argsC)) : Sem Next)) (fun _=>by kernel_rfl) (fun _ _ _ _ _ => rfl) (by kernel_rfl) (by kernel_rfl) (by kernel_rfl) (by kernel_rfl) (by kernel_rfl) (by kernel_rfl) (ps (by kernel_rfl)) ?_
                          refine G_take 4 (some 227) (.pointer (some (argsBA_12.add (Int.toNat 0 * 1)))) #[true, true, true, true, true, false, false, false, false, false, false, false, false, false, false, false, false] [(2, .slice (some argsBA_12) argsN argsC), (223, .pointer (some (Addr.mk b_3 0 none))), (225, .int .i64 (IntKind.wrap .i64 (nv - 24))), (227, .pointer (some (argsBA_12.add (Int.toNat 0 * 1))))] (indexAtN 22 (.slice (some argsBA_12) argsN argsC) (.int .i64 0)) (fun _=>by kernel_rfl) (fun _ w _ _ _ => indexAt_run (P := Tryz.prog) (t := 22) (elem := 26) (sz := 1) (a := argsBA_12) (len := argsN) (cap := argsC) (k := .i64) (i := 0) Tryz.underlying22 (fun _=>by kernel_rfl) q101.1 q101.2 w) (by kernel_rfl) (by kernel_rfl) (by kernel_rfl) (by kernel_rfl) (by kernel_rfl) (by kernel_rfl) (ps (by kernel_rfl)) ?_
                          refine G_take 5 (some 228) (.int .u64 x_23) #[true, true, true, true, true, true, false, false, false, false, false, false, false, false, false, false, false] [(2, .slice (some argsBA_12) argsN argsC), (223, .pointer (some (Addr.mk b_3 0 none))), (225, .int .i64 (IntKind.wrap .i64 (nv - 24))), (228, .int .u64 x_23)] (loadN 26 (.pointer (some (argsBA_12.add (Int.toNat 0 * 1))))) (fun _=>by kernel_rfl) (held_one 9 (fun _=>by kernel_rfl) (List.Mem.head _) (.inl (by kernel_rfl))) (by kernel_rfl) (by kernel_rfl) (by kernel_rfl) (by kernel_rfl) (by kernel_rfl) (by kernel_rfl) (ps (by kernel_rfl)) ?_
                          refine G_take 6 (some 229) (.slice (some argsBA_12) argsN argsC) #[true, true, true, true, true, true, true, false, false, false, false, false, false, false, false, false, false] [(223, .pointer (some (Addr.mk b_3 0 none))), (225, .int .i64 (IntKind.wrap .i64 (nv - 24))), (228, .int .u64 x_23), (229, .slice (some argsBA_12) argsN argsC)] ((pure (.value (.slice (some argsBA_12) argsN argsC)) : Sem Next)) (fun _=>by kernel_rfl) (fun _ _ _ _ _ => rfl) (by kernel_rfl) (by kernel_rfl) (by kernel_rfl) (by kernel_rfl) (by kernel_rfl) (by kernel_rfl) (ps (by kernel_rfl)) ?_
                          refine G_take 7 (some 230) (.pointer (some (argsBA_12.add (Int.toNat 1 * 1)))) #[true, true, true, true, true, true, true, true, false, false, false, false, false, false, false, false, false] [(223, .pointer (some (Addr.mk b_3 0 none))), (225, .int .i64 (IntKind.wrap .i64 (nv - 24))), (228, .int .u64 x_23), (230, .pointer (some (argsBA_12.add (Int.toNat 1 * 1))))] (indexAtN 22 (.slice (some argsBA_12) argsN argsC) (.int .i64 1)) (fun _=>by kernel_rfl) (fun _ w _ _ _ => indexAt_run (P := Tryz.prog) (t := 22) (elem := 26) (sz := 1) (a := argsBA_12) (len := argsN) (cap := argsC) (k := .i64) (i := 1) Tryz.underlying22 (fun _=>by kernel_rfl) q103.1 q103.2 w) (by kernel_rfl) (by kernel_rfl) (by kernel_rfl) (by kernel_rfl) (by kernel_rfl) (by kernel_rfl) (ps (by kernel_rfl)) ?_
                          refine G_take 8 (some 231) (.int .u64 x_24) #[true, true, true, true, true, true, true, true, true, false, false, false, false, false, false, false, false] [(223, .pointer (some (Addr.mk b_3 0 none))), (225, .int .i64 (IntKind.wrap .i64 (nv - 24))), (228, .int .u64 x_23), (231, .int .u64 x_24)] (loadN 26 (.pointer (some (argsBA_12.add (Int.toNat 1 * 1))))) (fun _=>by kernel_rfl) (held_one 9 (fun _=>by kernel_rfl) (List.Mem.tail _ (List.Mem.head _)) (.inl (by kernel_rfl))) (by kernel_rfl) (by kernel_rfl) (by kernel_rfl) (by kernel_rfl) (by kernel_rfl) (by kernel_rfl) (ps (by kernel_rfl)) ?_
                          refine G_call 9 (some 232) #[true, true, true, true, true, true, true, true, true, true, false, false, false, false, false, false, false] 23 #[.pointer (some (Addr.mk b_3 0 none)), .int .i64 (IntKind.wrap .i64 (nv - 24)), .int .u64 x_23, .int .u64 x_24] (by kernel_rfl) (fun _=>by kernel_rfl) h (by kernel_rfl) ?_; clear h
                          rintro v_18 H28 ⟨ra_15, rb_15, rfl, h⟩
                          refine ⟨[(232, .tuple #[.bool ra_15, .int .i64 rb_15])], ps (by kernel_rfl), (show FactsAt _ _ _ from ⟨trivial, trivial, trivial⟩), ?_⟩
                          refine G_take 10 (some 233) (.bool ra_15) #[true, true, true, true, true, true, true, true, true, true, true, false, false, false, false, false, false] [(232, .tuple #[.bool ra_15, .int .i64 rb_15]), (233, .bool ra_15)] (pure (.value (.bool ra_15)) : Sem Next) (fun _=>by kernel_rfl) (fun _ _ _ _ _ => rfl) (by kernel_rfl) (by kernel_rfl) (by kernel_rfl) (by kernel_rfl) (by kernel_rfl) (by kernel_rfl) (ps (by kernel_rfl)) ?_
                          refine G_take 11 (some 234) (.int .i64 rb_15) #[true, true, true, true, true, true, true, true, true, true, true, true, false, false, false, false, false] [(233, .bool ra_15), (234, .int .i64 rb_15)] (pure (.value (.int .i64 rb_15)) : Sem Next) (fun _=>by kernel_rfl) (fun _ _ _ _ _ => rfl) (by kernel_rfl) (by kernel_rfl) (by kernel_rfl) (by kernel_rfl) (by kernel_rfl) (by kernel_rfl) (ps (by kernel_rfl)) ?_
                          refine G_call 12 (some 235) #[true, true, true, true, true, true, true, true, true, true, true, true, true, false, false, false, false] 22 #[.bool ra_15, .int .i64 rb_15] (by kernel_rfl) (fun _=>by kernel_rfl) h (by kernel_rfl) ?_; clear h
                          rintro v_19 H29 ⟨ra_16, rb_16, rfl, h⟩
                          refine ⟨[(235, .tuple #[.int .u64 ra_16, .int .i64 rb_16])], ps (by kernel_rfl), (show FactsAt _ _ _ from ⟨trivial, trivial, trivial⟩), ?_⟩
                          refine G_take 13 (some 236) (.int .u64 ra_16) #[true, true, true, true, true, true, true, true, true, true, true, true, true, true, false, false, false] [(235, .tuple #[.int .u64 ra_16, .int .i64 rb_16]), (236, .int .u64 ra_16)] (pure (.value (.int .u64 ra_16)) : Sem Next) (fun _=>by kernel_rfl) (fun _ _ _ _ _ => rfl) (by kernel_rfl) (by kernel_rfl) (by kernel_rfl) (by kernel_rfl) (by kernel_rfl) (by kernel_rfl) (ps (by kernel_rfl)) ?_
                          refine G_take 14 (some 237) (.int .i64 rb_16) #[true, true, true, true, true, true, true, true, true, true, true, true, true, true, true, false, false] [(236, .int .u64 ra_16), (237, .int .i64 rb_16)] (pure (.value (.int .i64 rb_16)) : Sem Next) (fun _=>by kernel_rfl) (fun _ _ _ _ _ => rfl) (by kernel_rfl) (by kernel_rfl) (by kernel_rfl) (by kernel_rfl) (by kernel_rfl) (by kernel_rfl) (ps (by kernel_rfl)) ?_
                          refine G_take 15 (some 6) (.int .u64 ra_16) #[true, true, true, true, true, true, true, true, true, true, true, true, true, true, true, true, false] [(6, .int .u64 ra_16), (237, .int .i64 rb_16)] (pure (.value (.int .u64 ra_16)) : Sem Next) (fun _=>by kernel_rfl) (fun _ _ _ _ _ => rfl) (by kernel_rfl) (by kernel_rfl) (by kernel_rfl) (by kernel_rfl) (by kernel_rfl) (by kernel_rfl) (ps (by kernel_rfl)) ?_
                          refine G_take 16 (some 7) (.int .i64 rb_16) #[true, true, true, true, true, true, true, true, true, true, true, true, true, true, true, true, true] [(6, .int .u64 ra_16), (7, .int .i64 rb_16)] (pure (.value (.int .i64 rb_16)) : Sem Next) (fun _=>by kernel_rfl) (fun _ _ _ _ _ => rfl) (by kernel_rfl) (by kernel_rfl) (by kernel_rfl) (by kernel_rfl) (by kernel_rfl) (by kernel_rfl) (ps (by kernel_rfl)) ?_
                          refine G_sub [(6, .int .u64 ra_16), (7, .int .i64 rb_16)] (sb (by kernel_rfl)) ?_
                          refine G_end (by kernel_rfl) ?_
                          refine S_then ?_
                          refine S_ret (by kernel_rfl) ?_
                          show At _ _ _ _ _ (Q .ret)
                          exact S_done (fn := Tryz.f5) [.int .u64 ra_16, .int .i64 rb_16] hQ (show ResOK _ _ _ [.tmp 6, .tmp 7] _ from .tmp (by kernel_rfl) (.tmp (by kernel_rfl) (.nil))) h
                         ·rw [if_neg c97] at h
                          have b98 : s216 = false := eq_false_of_ne_true c97
                          refine S_env [(0, .pointer (some hvA)), (1, .int .i64 nv), (2, .slice argsB argsN argsC), (216, .bool false)] (by simp only [b98, Bool.not_true, Bool.not_false]) ?_
                          clear b98
                          refine S_condF (.tmp 216) kk136 kk137 (by kernel_rfl) (by kernel_rfl) ?_
                          refine S_skip (by kernel_rfl) ?_
                          refine S_blockEnd ?_
                          refine S_then ?_
                          refine T_sr 50 kk142 kk143 ?_
                          refine N_run 3 [(238, .pointer (some hvA)), (239, .int .i64 nv), (240, .slice argsB argsN argsC)] (fun _=>by kernel_rfl) ?_
                          obtain ⟨argsBA_13, rfl, h⟩ := h
                          obtain ⟨q105, h⟩ := h
                          refine N_val (some 241) (indexAtN 22 (.slice (some argsBA_13) argsN argsC) (.int .i64 0)) (.pointer (some (argsBA_13.add (Int.toNat 0 * 1)))) (fun _=>by kernel_rfl) (fun w _ => indexAt_run (P := Tryz.prog) (t := 22) (elem := 26) (sz := 1) (a := argsBA_13) (len := argsN) (cap := argsC) (k := .i64) (i := 0) Tryz.underlying22 (fun _=>by kernel_rfl) q105.1 q105.2 w) [(238, .pointer (some hvA)), (239, .int .i64 nv), (241, .pointer (some (argsBA_13.add (Int.toNat 0 * 1))))] (ps (by kernel_rfl)) ?_
                          obtain ⟨x_25, q106, h⟩ := h
                          refine N_val (some 242) (loadN 26 (.pointer (some (argsBA_13.add (Int.toNat 0 * 1))))) (.int .u64 x_25) (fun _=>by kernel_rfl) (loadN_run (loadOK_one (fun _=>by kernel_rfl) q106)) [(238, .pointer (some hvA)), (239, .int .i64 nv), (242, .int .u64 x_25)] (ps (by kernel_rfl)) ?_
                          refine N_call (some 243) 24 #[.pointer (some hvA), .int .i64 nv, .int .u64 x_25] (fun _=>by kernel_rfl) h ?_; clear h
                          rintro v_20 H30 ⟨x_26, rfl, h⟩
                          refine ⟨[(243, .int .u64 x_26)], ps (by kernel_rfl), ?_⟩
                          refine N_run 2 [(6, .int .u64 x_26), (7, .int .i64 0)] (fun _=>by kernel_rfl) ?_
                          refine T_e ?_
                          refine S_ret (by kernel_rfl) ?_
                          show At _ _ _ _ _ (Q .ret)
                          exact S_done (fn := Tryz.f5) [.int .u64 x_26, .int .i64 0] hQ (show ResOK _ _ _ [.tmp 6, .tmp 7] _ from .tmp (by kernel_rfl) (.tmp (by kernel_rfl) (.nil))) h
                        ·by_cases c107 : nv = 24
                         ·rw [if_pos c107] at h
                          have b108 : (nv == 24) = true := beq_iff_eq.mpr c107
                          refine S_env [(0, .pointer (some hvA)), (1, .int .i64 nv), (2, .slice argsB argsN argsC), (49, .int .i64 nv), (216, .bool true)] (by simp only [b108, Bool.not_true, Bool.not_false]) ?_
                          clear b108
                          refine S_condT (.tmp 216) kk134 kk135 (by kernel_rfl) (by kernel_rfl) ?_
                          refine S_skip (by kernel_rfl) ?_
                          refine S_then ?_
                          exact S_meet (true : Bool) (sb (by kernel_rfl)) h
                         ·rw [if_neg c107] at h
                          have b108 : (nv == 24) = false := beq_eq_false_iff_ne.mpr c107
                          refine S_env [(0, .pointer (some hvA)), (1, .int .i64 nv), (2, .slice argsB argsN argsC), (49, .int .i64 nv), (216, .bool false)] (by simp only [b108, Bool.not_true, Bool.not_false]) ?_
                          clear b108
                          refine S_condF (.tmp 216) kk134 kk135 (by kernel_rfl) (by kernel_rfl) ?_
                          refine T_sr 46 kk144 kk145 ?_
                          refine N_run 2 [(0, .pointer (some hvA)), (1, .int .i64 nv), (2, .slice argsB argsN argsC), (49, .int .i64 nv), (216, .bool (nv == 25))] (fun _=>by kernel_rfl) ?_
                          refine T_e ?_
                          by_cases c109 : nv = 25
                          ·rw [if_pos c109] at h
                           have b110 : (nv == 25) = true := beq_iff_eq.mpr c109
                           refine S_env [(0, .pointer (some hvA)), (1, .int .i64 nv), (2, .slice argsB argsN argsC), (49, .int .i64 nv), (216, .bool true)] (by simp only [b110, Bool.not_true, Bool.not_false]) ?_
                           clear b110
                           refine S_condT (.tmp 216) kk146 kk147 (by kernel_rfl) (by kernel_rfl) ?_
                           refine S_skip (by kernel_rfl) ?_
                           refine S_then ?_
                           exact S_meet (true : Bool) (sb (by kernel_rfl)) h
                          ·rw [if_neg c109] at h
                           have b110 : (nv == 25) = false := beq_eq_false_iff_ne.mpr c109
                           refine S_env [(0, .pointer (some hvA)), (1, .int .i64 nv), (2, .slice argsB argsN argsC), (49, .int .i64 nv), (216, .bool false)] (by simp only [b110, Bool.not_true, Bool.not_false]) ?_
                           clear b110
                           refine S_condF (.tmp 216) kk146 kk147 (by kernel_rfl) (by kernel_rfl) ?_
                           refine S_region 47 (Code.ops kk147) (by kernel_rfl) ?_
                           refine N_run 2 [(0, .pointer (some hvA)), (1, .int .i64 nv), (2, .slice argsB argsN argsC), (216, .bool (nv == 26))] (fun _=>by kernel_rfl) ?_
                           refine T_e ?_
                           exact S_meet ((nv == 26) : Bool) (sb (by kernel_rfl)) h
                      ·by_cases c111 : nv = 21
                       ·rw [if_pos c111] at h
                        have b112 : (nv == 21) = true := beq_iff_eq.mpr c111
                        refine S_env [(0, .pointer (some hvA)), (1, .int .i64 nv), (2, .slice argsB argsN argsC), (49, .int .i64 nv), (200, .bool true)] (by simp only [b112, Bool.not_true, Bool.not_false]) ?_
                        clear b112
                        refine S_condT (.tmp 200) kk124 kk125 (by kernel_rfl) (by kernel_rfl) ?_
                        refine S_skip (by kernel_rfl) ?_
                        refine S_then ?_
                        exact S_meet (true : Bool) (sb (by kernel_rfl)) h
                       ·rw [if_neg c111] at h
                        have b112 : (nv == 21) = false := beq_eq_false_iff_ne.mpr c111
                        refine S_env [(0, .pointer (some hvA)), (1, .int .i64 nv), (2, .slice argsB argsN argsC), (49, .int .i64 nv), (200, .bool false)] (by simp only [b112, Bool.not_true, Bool.not_false]) ?_
                        clear b112
                        refine S_condF (.tmp 200) kk124 kk125 (by kernel_rfl) (by kernel_rfl) ?_
                        refine T_sr 42 kk148 kk149 ?_
                        refine N_run 2 [(0, .pointer (some hvA)), (1, .int .i64 nv), (2, .slice argsB argsN argsC), (49, .int .i64 nv), (200, .bool (nv == 22))] (fun _=>by kernel_rfl) ?_
                        refine T_e ?_
                        by_cases c113 : nv = 22
                        ·rw [if_pos c113] at h
                         have b114 : (nv == 22) = true := beq_iff_eq.mpr c113
                         refine S_env [(0, .pointer (some hvA)), (1, .int .i64 nv), (2, .slice argsB argsN argsC), (49, .int .i64 nv), (200, .bool true)] (by simp only [b114, Bool.not_true, Bool.not_false]) ?_
                         clear b114
                         refine S_condT (.tmp 200) kk150 kk151 (by kernel_rfl) (by kernel_rfl) ?_
                         refine S_skip (by kernel_rfl) ?_
                         refine S_then ?_
                         exact S_meet (true : Bool) (sb (by kernel_rfl)) h
                        ·rw [if_neg c113] at h
                         have b114 : (nv == 22) = false := beq_eq_false_iff_ne.mpr c113
                         refine S_env [(0, .pointer (some hvA)), (1, .int .i64 nv), (2, .slice argsB argsN argsC), (49, .int .i64 nv), (200, .bool false)] (by simp only [b114, Bool.not_true, Bool.not_false]) ?_
                         clear b114
                         refine S_condF (.tmp 200) kk150 kk151 (by kernel_rfl) (by kernel_rfl) ?_
                         refine S_region 43 (Code.ops kk151) (by kernel_rfl) ?_
                         refine N_run 2 [(0, .pointer (some hvA)), (1, .int .i64 nv), (2, .slice argsB argsN argsC), (49, .int .i64 nv), (200, .bool (nv == 23))] (fun _=>by kernel_rfl) ?_
                         refine T_e ?_
                         exact S_meet ((nv == 23) : Bool) (sb (by kernel_rfl)) h
                    ·by_cases c115 : nv = 18
                     ·rw [if_pos c115] at h
                      have b116 : (nv == 18) = true := beq_iff_eq.mpr c115
                      refine S_env [(0, .pointer (some hvA)), (1, .int .i64 nv), (2, .slice argsB argsN argsC), (49, .int .i64 nv), (184, .bool true)] (by simp only [b116, Bool.not_true, Bool.not_false]) ?_
                      clear b116
                      refine S_condT (.tmp 184) kk114 kk115 (by kernel_rfl) (by kernel_rfl) ?_
                      refine S_skip (by kernel_rfl) ?_
                      refine S_then ?_
                      exact S_meet (true : Bool) (sb (by kernel_rfl)) h
                     ·rw [if_neg c115] at h
                      have b116 : (nv == 18) = false := beq_eq_false_iff_ne.mpr c115
                      refine S_env [(0, .pointer (some hvA)), (1, .int .i64 nv), (2, .slice argsB argsN argsC), (49, .int .i64 nv), (184, .bool false)] (by simp only [b116, Bool.not_true, Bool.not_false]) ?_
                      clear b116
                      refine S_condF (.tmp 184) kk114 kk115 (by kernel_rfl) (by kernel_rfl) ?_
                      refine T_sr 38 kk152 kk153 ?_
                      refine N_run 2 [(0, .pointer (some hvA)), (1, .int .i64 nv), (2, .slice argsB argsN argsC), (49, .int .i64 nv), (184, .bool (nv == 19))] (fun _=>by kernel_rfl) ?_
                      refine T_e ?_
                      by_cases c117 : nv = 19
                      ·rw [if_pos c117] at h
                       have b118 : (nv == 19) = true := beq_iff_eq.mpr c117
                       refine S_env [(0, .pointer (some hvA)), (1, .int .i64 nv), (2, .slice argsB argsN argsC), (49, .int .i64 nv), (184, .bool true)] (by simp only [b118, Bool.not_true, Bool.not_false]) ?_
                       clear b118
                       refine S_condT (.tmp 184) kk154 kk155 (by kernel_rfl) (by kernel_rfl) ?_
                       refine S_skip (by kernel_rfl) ?_
                       refine S_then ?_
                       exact S_meet (true : Bool) (sb (by kernel_rfl)) h
                      ·rw [if_neg c117] at h
                       have b118 : (nv == 19) = false := beq_eq_false_iff_ne.mpr c117
                       refine S_env [(0, .pointer (some hvA)), (1, .int .i64 nv), (2, .slice argsB argsN argsC), (49, .int .i64 nv), (184, .bool false)] (by simp only [b118, Bool.not_true, Bool.not_false]) ?_
                       clear b118
                       refine S_condF (.tmp 184) kk154 kk155 (by kernel_rfl) (by kernel_rfl) ?_
                       refine S_region 39 (Code.ops kk155) (by kernel_rfl) ?_
                       refine N_run 2 [(0, .pointer (some hvA)), (1, .int .i64 nv), (2, .slice argsB argsN argsC), (49, .int .i64 nv), (184, .bool (nv == 20))] (fun _=>by kernel_rfl) ?_
                       refine T_e ?_
                       exact S_meet ((nv == 20) : Bool) (sb (by kernel_rfl)) h
              ·by_cases c119 : nv = 11
               ·rw [if_pos c119] at h
                have b120 : (nv == 11) = true := beq_iff_eq.mpr c119
                refine S_env [(0, .pointer (some hvA)), (1, .int .i64 nv), (2, .slice argsB argsN argsC), (49, .int .i64 nv), (125, .bool true)] (by simp only [b120, Bool.not_true, Bool.not_false]) ?_
                clear b120
                refine S_condT (.tmp 125) kk70 kk71 (by kernel_rfl) (by kernel_rfl) ?_
                refine S_skip (by kernel_rfl) ?_
                refine S_then ?_
                exact S_meet (true : Bool) (sb (by kernel_rfl)) h
               ·rw [if_neg c119] at h
                have b120 : (nv == 11) = false := beq_eq_false_iff_ne.mpr c119
                refine S_env [(0, .pointer (some hvA)), (1, .int .i64 nv), (2, .slice argsB argsN argsC), (49, .int .i64 nv), (125, .bool false)] (by simp only [b120, Bool.not_true, Bool.not_false]) ?_
                clear b120
                refine S_condF (.tmp 125) kk70 kk71 (by kernel_rfl) (by kernel_rfl) ?_
                refine T_sr 23 kk156 kk157 ?_
                refine N_run 2 [(0, .pointer (some hvA)), (1, .int .i64 nv), (2, .slice argsB argsN argsC), (49, .int .i64 nv), (125, .bool (nv == 13))] (fun _=>by kernel_rfl) ?_
                refine T_e ?_
                by_cases c121 : nv = 13
                ·rw [if_pos c121] at h
                 have b122 : (nv == 13) = true := beq_iff_eq.mpr c121
                 refine S_env [(0, .pointer (some hvA)), (1, .int .i64 nv), (2, .slice argsB argsN argsC), (49, .int .i64 nv), (125, .bool true)] (by simp only [b122, Bool.not_true, Bool.not_false]) ?_
                 clear b122
                 refine S_condT (.tmp 125) kk158 kk159 (by kernel_rfl) (by kernel_rfl) ?_
                 refine S_skip (by kernel_rfl) ?_
                 refine S_then ?_
                 exact S_meet (true : Bool) (sb (by kernel_rfl)) h
                ·rw [if_neg c121] at h
                 have b122 : (nv == 13) = false := beq_eq_false_iff_ne.mpr c121
                 refine S_env [(0, .pointer (some hvA)), (1, .int .i64 nv), (2, .slice argsB argsN argsC), (49, .int .i64 nv), (125, .bool false)] (by simp only [b122, Bool.not_true, Bool.not_false]) ?_
                 clear b122
                 refine S_condF (.tmp 125) kk158 kk159 (by kernel_rfl) (by kernel_rfl) ?_
                 refine S_region 24 (Code.ops kk159) (by kernel_rfl) ?_
                 refine N_run 2 [(0, .pointer (some hvA)), (1, .int .i64 nv), (2, .slice argsB argsN argsC), (49, .int .i64 nv), (125, .bool (nv == 15))] (fun _=>by kernel_rfl) ?_
                 refine T_e ?_
                 exact S_meet ((nv == 15) : Bool) (sb (by kernel_rfl)) h
          ·by_cases c123 : nv = 3
           ·rw [if_pos c123] at h
            have b124 : (nv == 3) = true := beq_iff_eq.mpr c123
            refine S_env [(0, .pointer (some hvA)), (1, .int .i64 nv), (2, .slice argsB argsN argsC), (49, .int .i64 nv), (80, .bool true)] (by simp only [b124, Bool.not_true, Bool.not_false]) ?_
            clear b124
            refine S_condT (.tmp 80) kk48 kk49 (by kernel_rfl) (by kernel_rfl) ?_
            refine S_skip (by kernel_rfl) ?_
            refine S_then ?_
            exact S_meet (true : Bool) (sb (by kernel_rfl)) h
           ·rw [if_neg c123] at h
            have b124 : (nv == 3) = false := beq_eq_false_iff_ne.mpr c123
            refine S_env [(0, .pointer (some hvA)), (1, .int .i64 nv), (2, .slice argsB argsN argsC), (49, .int .i64 nv), (80, .bool false)] (by simp only [b124, Bool.not_true, Bool.not_false]) ?_
            clear b124
            refine S_condF (.tmp 80) kk48 kk49 (by kernel_rfl) (by kernel_rfl) ?_
            refine T_sr 14 kk160 kk161 ?_
            refine N_run 2 [(0, .pointer (some hvA)), (1, .int .i64 nv), (2, .slice argsB argsN argsC), (49, .int .i64 nv), (80, .bool (nv == 4))] (fun _=>by kernel_rfl) ?_
            refine T_e ?_
            by_cases c125 : nv = 4
            ·rw [if_pos c125] at h
             have b126 : (nv == 4) = true := beq_iff_eq.mpr c125
             refine S_env [(0, .pointer (some hvA)), (1, .int .i64 nv), (2, .slice argsB argsN argsC), (49, .int .i64 nv), (80, .bool true)] (by simp only [b126, Bool.not_true, Bool.not_false]) ?_
             clear b126
             refine S_condT (.tmp 80) kk162 kk163 (by kernel_rfl) (by kernel_rfl) ?_
             refine S_skip (by kernel_rfl) ?_
             refine S_then ?_
             exact S_meet (true : Bool) (sb (by kernel_rfl)) h
            ·rw [if_neg c125] at h
             have b126 : (nv == 4) = false := beq_eq_false_iff_ne.mpr c125
             refine S_env [(0, .pointer (some hvA)), (1, .int .i64 nv), (2, .slice argsB argsN argsC), (49, .int .i64 nv), (80, .bool false)] (by simp only [b126, Bool.not_true, Bool.not_false]) ?_
             clear b126
             refine S_condF (.tmp 80) kk162 kk163 (by kernel_rfl) (by kernel_rfl) ?_
             refine T_sr 15 kk164 kk165 ?_
             refine N_run 2 [(0, .pointer (some hvA)), (1, .int .i64 nv), (2, .slice argsB argsN argsC), (49, .int .i64 nv), (80, .bool (nv == 5))] (fun _=>by kernel_rfl) ?_
             refine T_e ?_
             by_cases c127 : nv = 5
             ·rw [if_pos c127] at h
              have b128 : (nv == 5) = true := beq_iff_eq.mpr c127
              refine S_env [(0, .pointer (some hvA)), (1, .int .i64 nv), (2, .slice argsB argsN argsC), (49, .int .i64 nv), (80, .bool true)] (by simp only [b128, Bool.not_true, Bool.not_false]) ?_
              clear b128
              refine S_condT (.tmp 80) kk166 kk167 (by kernel_rfl) (by kernel_rfl) ?_
              refine S_skip (by kernel_rfl) ?_
              refine S_then ?_
              exact S_meet (true : Bool) (sb (by kernel_rfl)) h
             ·rw [if_neg c127] at h
              have b128 : (nv == 5) = false := beq_eq_false_iff_ne.mpr c127
              refine S_env [(0, .pointer (some hvA)), (1, .int .i64 nv), (2, .slice argsB argsN argsC), (49, .int .i64 nv), (80, .bool false)] (by simp only [b128, Bool.not_true, Bool.not_false]) ?_
              clear b128
              refine S_condF (.tmp 80) kk166 kk167 (by kernel_rfl) (by kernel_rfl) ?_
              refine S_region 16 (Code.ops kk167) (by kernel_rfl) ?_
              refine N_run 2 [(0, .pointer (some hvA)), (1, .int .i64 nv), (2, .slice argsB argsN argsC), (49, .int .i64 nv), (80, .bool (nv == 6))] (fun _=>by kernel_rfl) ?_
              refine T_e ?_
              exact S_meet ((nv == 6) : Bool) (sb (by kernel_rfl)) h
     ·refine S_region 4 (Code.ops kk15) (by kernel_rfl) ?_
      refine N_run 3 [(0, .pointer (some hvA)), (1, .int .i64 nv), (2, .slice argsB argsN argsC), (8, .pointer (some (Addr.mk b 0 none))), (33, .int .i64 (argsN : Int)), (34, .pointer (some ((Addr.mk b 0 none).add 1)))] (fun _=>by kernel_rfl) ?_
      obtain ⟨x_27, q129, h⟩ := h
      refine N_val (some 35) (loadN 3 (.pointer (some ((Addr.mk b 0 none).add 1)))) (.int .i64 x_27) (fun _=>by kernel_rfl) (loadN_run (loadOK_one (fun _=>by kernel_rfl) q129)) [(0, .pointer (some hvA)), (1, .int .i64 nv), (2, .slice argsB argsN argsC), (8, .pointer (some (Addr.mk b 0 none))), (33, .int .i64 (argsN : Int)), (35, .int .i64 x_27)] (ps (by kernel_rfl)) ?_
      refine N_run 2 [(0, .pointer (some hvA)), (1, .int .i64 nv), (2, .slice argsB argsN argsC), (8, .pointer (some (Addr.mk b 0 none))), (37, .bool (decide ((argsN : Int) < x_27)))] (fun _=>by kernel_rfl) ?_
      by_cases c130 : (argsN : Int) < x_27
      ·rw [if_pos c130] at h
       have b131 : (decide ((argsN : Int) < x_27)) = true := decide_eq_true c130
       refine N_env [(0, .pointer (some hvA)), (1, .int .i64 nv), (2, .slice argsB argsN argsC), (8, .pointer (some (Addr.mk b 0 none))), (37, .bool true)] (by simp only [b131, Bool.not_true, Bool.not_false]) ?_
       clear b131
       refine N_run 11 [(0, .pointer (some hvA)), (1, .int .i64 nv), (2, .slice argsB argsN argsC), (48, .bool true)] (fun _=>by kernel_rfl) ?_
       refine T_e ?_
       exact S_meet (true : Bool) (sb (by kernel_rfl)) h
      ·rw [if_neg c130] at h
       have b131 : (decide ((argsN : Int) < x_27)) = false := decide_eq_false c130
       refine N_env [(0, .pointer (some hvA)), (1, .int .i64 nv), (2, .slice argsB argsN argsC), (8, .pointer (some (Addr.mk b 0 none))), (37, .bool false)] (by simp only [b131, Bool.not_true, Bool.not_false]) ?_
       clear b131
       refine N_run 1 [(0, .pointer (some hvA)), (1, .int .i64 nv), (2, .slice argsB argsN argsC), (8, .pointer (some (Addr.mk b 0 none))), (37, .bool false), (38, .pointer (some ((Addr.mk b 0 none).add 2)))] (fun _=>by kernel_rfl) ?_
       obtain ⟨x_28, q132, h⟩ := h
       refine N_val (some 39) (loadN 3 (.pointer (some ((Addr.mk b 0 none).add 2)))) (.int .i64 x_28) (fun _=>by kernel_rfl) (loadN_run (loadOK_one (fun _=>by kernel_rfl) q132)) [(0, .pointer (some hvA)), (1, .int .i64 nv), (2, .slice argsB argsN argsC), (8, .pointer (some (Addr.mk b 0 none))), (37, .bool false), (39, .int .i64 x_28)] (ps (by kernel_rfl)) ?_
       refine N_run 2 [(0, .pointer (some hvA)), (1, .int .i64 nv), (2, .slice argsB argsN argsC), (8, .pointer (some (Addr.mk b 0 none))), (37, .bool false), (41, .bool (decide (x_28 ≥ 0)))] (fun _=>by kernel_rfl) ?_
       by_cases c133 : x_28 ≥ 0
       ·rw [if_pos c133] at h
        have b134 : (decide (x_28 ≥ 0)) = true := decide_eq_true c133
        refine N_env [(0, .pointer (some hvA)), (1, .int .i64 nv), (2, .slice argsB argsN argsC), (8, .pointer (some (Addr.mk b 0 none))), (37, .bool false), (41, .bool true)] (by simp only [b134, Bool.not_true, Bool.not_false]) ?_
        clear b134
        refine N_run 3 [(0, .pointer (some hvA)), (1, .int .i64 nv), (2, .slice argsB argsN argsC), (37, .bool false), (41, .bool true), (43, .int .i64 (argsN : Int)), (44, .pointer (some ((Addr.mk b 0 none).add 2)))] (fun _=>by kernel_rfl) ?_
        obtain ⟨x_29, q135, h⟩ := h
        refine N_val (some 45) (loadN 3 (.pointer (some ((Addr.mk b 0 none).add 2)))) (.int .i64 x_29) (fun _=>by kernel_rfl) (loadN_run (loadOK_one (fun _=>by kernel_rfl) q135)) [(0, .pointer (some hvA)), (1, .int .i64 nv), (2, .slice argsB argsN argsC), (37, .bool false), (41, .bool true), (43, .int .i64 (argsN : Int)), (45, .int .i64 x_29)] (ps (by kernel_rfl)) ?_
        refine N_run 3 [(0, .pointer (some hvA)), (1, .int .i64 nv), (2, .slice argsB argsN argsC), (48, .bool (decide ((argsN : Int) > x_29)))] (fun _=>by kernel_rfl) ?_
        refine T_e ?_
        exact S_meet ((decide ((argsN : Int) > x_29)) : Bool) (sb (by kernel_rfl)) h
       ·rw [if_neg c133] at h
        have b134 : (decide (x_28 ≥ 0)) = false := decide_eq_false c133
        refine N_env [(0, .pointer (some hvA)), (1, .int .i64 nv), (2, .slice argsB argsN argsC), (8, .pointer (some (Addr.mk b 0 none))), (37, .bool false), (41, .bool false)] (by simp only [b134, Bool.not_true, Bool.not_false]) ?_
        clear b134
        refine N_run 7 [(0, .pointer (some hvA)), (1, .int .i64 nv), (2, .slice argsB argsN argsC), (48, .bool false)] (fun _=>by kernel_rfl) ?_
        refine T_e ?_
        exact S_meet (false : Bool) (sb (by kernel_rfl)) h
   ·intro hk
    refine N_sub [(0, .pointer (some hvA)), (1, .int .i64 nv), (2, .slice argsB argsN argsC), (25, .bool (decide (nv < 0)))] (sb (by kernel_rfl)) ?_
    by_cases c2 : nv < 0
    ·have b3 : (decide (nv < 0)) = true := decide_eq_true c2
     refine N_env [(0, .pointer (some hvA)), (1, .int .i64 nv), (2, .slice argsB argsN argsC), (25, .bool true)] (by simp only [b3, Bool.not_true, Bool.not_false]) ?_
     refine N_run 3 [(0, .pointer (some hvA)), (1, .int .i64 nv), (2, .slice argsB argsN argsC), (28, .bool true)] (fun _=>by kernel_rfl) ?_
     refine N_end (by kernel_rfl) ?_
     refine S_env [(0, .pointer (some hvA)), (1, .int .i64 nv), (2, .slice argsB argsN argsC), (28, .bool ((decide (nv < 0)) || (decide (nv ≥ 30))))] (by simp only [b3, Bool.true_or, Bool.false_or, Bool.or_true, Bool.or_false, Bool.true_and, Bool.false_and, Bool.and_true, Bool.and_false, Bool.not_true, Bool.not_false, cond_true, cond_false]) ?_
     exact hk
    ·have b3 : (decide (nv < 0)) = false := decide_eq_false c2
     refine N_env [(0, .pointer (some hvA)), (1, .int .i64 nv), (2, .slice argsB argsN argsC), (25, .bool false)] (by simp only [b3, Bool.not_true, Bool.not_false]) ?_
     refine N_run 3 [(0, .pointer (some hvA)), (1, .int .i64 nv), (2, .slice argsB argsN argsC), (28, .bool (decide (nv ≥ 30)))] (fun _=>by kernel_rfl) ?_
     refine N_end (by kernel_rfl) ?_
     refine S_env [(0, .pointer (some hvA)), (1, .int .i64 nv), (2, .slice argsB argsN argsC), (28, .bool ((decide (nv < 0)) || (decide (nv ≥ 30))))] (by simp only [b3, Bool.true_or, Bool.false_or, Bool.or_true, Bool.or_false, Bool.true_and, Bool.false_and, Bool.and_true, Bool.and_false, Bool.not_true, Bool.not_false, cond_true, cond_false]) ?_
     exact hk
end lists_Apply

/-! moraine/lists.Prims -/
namespace lists_Prims
def kk0 := Func.code Tryz.f7
def kk1 := Code.fa kk0
def kk2 := Code.fb kk0
def kk3 := Code.fa kk2
def kk4 := Code.fb kk2
def kk5 := Code.fa kk4
def kk6 := Code.fb kk4
end lists_Prims
def lists_Prims.pt  (H : Array Obj) (R : Value → Array Obj → Prop) : Prop :=
 lists_table.C  H (fun v H1 => ∃ x : List Value, v = .agg (x).toArray ∧ x.length = 90 ∧ 
 ∀ (b : Nat) (H2 : Array Obj), b = H1.size → H2 = H1.push (.cells ([.string (ByteArray.mk #[]), .int .i64 0, .int .i64 0, .string (ByteArray.mk #[]), .int .i64 0, .int .i64 0, .string (ByteArray.mk #[]), .int .i64 0, .int .i64 0, .string (ByteArray.mk #[]), .int .i64 0, .int .i64 0, .string (ByteArray.mk #[]), .int .i64 0, .int .i64 0, .string (ByteArray.mk #[]), .int .i64 0, .int .i64 0, .string (ByteArray.mk #[]), .int .i64 0, .int .i64 0, .string (ByteArray.mk #[]), .int .i64 0, .int .i64 0, .string (ByteArray.mk #[]), .int .i64 0, .int .i64 0, .string (ByteArray.mk #[]), .int .i64 0, .int .i64 0, .string (ByteArray.mk #[]), .int .i64 0, .int .i64 0, .string (ByteArray.mk #[]), .int .i64 0, .int .i64 0, .string (ByteArray.mk #[]), .int .i64 0, .int .i64 0, .string (ByteArray.mk #[]), .int .i64 0, .int .i64 0, .string (ByteArray.mk #[]), .int .i64 0, .int .i64 0, .string (ByteArray.mk #[]), .int .i64 0, .int .i64 0, .string (ByteArray.mk #[]), .int .i64 0, .int .i64 0, .string (ByteArray.mk #[]), .int .i64 0, .int .i64 0, .string (ByteArray.mk #[]), .int .i64 0, .int .i64 0, .string (ByteArray.mk #[]), .int .i64 0, .int .i64 0, .string (ByteArray.mk #[]), .int .i64 0, .int .i64 0, .string (ByteArray.mk #[]), .int .i64 0, .int .i64 0, .string (ByteArray.mk #[]), .int .i64 0, .int .i64 0, .string (ByteArray.mk #[]), .int .i64 0, .int .i64 0, .string (ByteArray.mk #[]), .int .i64 0, .int .i64 0, .string (ByteArray.mk #[]), .int .i64 0, .int .i64 0, .string (ByteArray.mk #[]), .int .i64 0, .int .i64 0, .string (ByteArray.mk #[]), .int .i64 0, .int .i64 0, .string (ByteArray.mk #[]), .int .i64 0, .int .i64 0, .string (ByteArray.mk #[]), .int .i64 0, .int .i64 0] : List Value).toArray 46) →
 (allOne x = true ∧ CanPuts H2 (Addr.mk b 0 none) 0 90) ∧ ∀ H3 : Array Obj, H3 = hputs H2 (Addr.mk b 0 none) x 0 →
 R (.slice (some (Addr.mk b 0 none)) 30 30) H3)
namespace lists_Prims
set_option maxRecDepth 100000 in
theorem link  {H : Array Obj} {R : Value → Array Obj → Prop} (h : pt  H R) : C  H R := by
 refine S_enter (fn := Tryz.f7) (c := kk0) 4 Tryz.func7 (by kernel_rfl) (by kernel_rfl) (Nat.le_of_ble_eq_true (by kernel_rfl)) ?_
 intro w0 Q hQ
 unfold pt at h
 refine S_sub [] (sb (by kernel_rfl)) ?_
 refine T_sr 0 kk1 kk2 ?_
 refine N_run 1 [] (fun _=>by kernel_rfl) ?_
 refine T_e ?_
 refine T_sr 1 kk3 kk4 ?_
 refine N_call (some 2) 10 #[] (fun _=>by kernel_rfl) h ?_; clear h
 rintro v H1 ⟨x, rfl, hl, h⟩
 refine ⟨[(2, .agg (x).toArray)], ps (by kernel_rfl), ?_⟩
 refine N_new (some 1) (fun b => .pointer (some (Addr.mk b 0 none))) (.cells ([.string (ByteArray.mk #[]), .int .i64 0, .int .i64 0, .string (ByteArray.mk #[]), .int .i64 0, .int .i64 0, .string (ByteArray.mk #[]), .int .i64 0, .int .i64 0, .string (ByteArray.mk #[]), .int .i64 0, .int .i64 0, .string (ByteArray.mk #[]), .int .i64 0, .int .i64 0, .string (ByteArray.mk #[]), .int .i64 0, .int .i64 0, .string (ByteArray.mk #[]), .int .i64 0, .int .i64 0, .string (ByteArray.mk #[]), .int .i64 0, .int .i64 0, .string (ByteArray.mk #[]), .int .i64 0, .int .i64 0, .string (ByteArray.mk #[]), .int .i64 0, .int .i64 0, .string (ByteArray.mk #[]), .int .i64 0, .int .i64 0, .string (ByteArray.mk #[]), .int .i64 0, .int .i64 0, .string (ByteArray.mk #[]), .int .i64 0, .int .i64 0, .string (ByteArray.mk #[]), .int .i64 0, .int .i64 0, .string (ByteArray.mk #[]), .int .i64 0, .int .i64 0, .string (ByteArray.mk #[]), .int .i64 0, .int .i64 0, .string (ByteArray.mk #[]), .int .i64 0, .int .i64 0, .string (ByteArray.mk #[]), .int .i64 0, .int .i64 0, .string (ByteArray.mk #[]), .int .i64 0, .int .i64 0, .string (ByteArray.mk #[]), .int .i64 0, .int .i64 0, .string (ByteArray.mk #[]), .int .i64 0, .int .i64 0, .string (ByteArray.mk #[]), .int .i64 0, .int .i64 0, .string (ByteArray.mk #[]), .int .i64 0, .int .i64 0, .string (ByteArray.mk #[]), .int .i64 0, .int .i64 0, .string (ByteArray.mk #[]), .int .i64 0, .int .i64 0, .string (ByteArray.mk #[]), .int .i64 0, .int .i64 0, .string (ByteArray.mk #[]), .int .i64 0, .int .i64 0, .string (ByteArray.mk #[]), .int .i64 0, .int .i64 0, .string (ByteArray.mk #[]), .int .i64 0, .int .i64 0, .string (ByteArray.mk #[]), .int .i64 0, .int .i64 0] : List Value).toArray 46) (fun _=>by kernel_rfl) ?_
 intro b H2 e1 e2
 replace h := h b H2 e1 e2
 refine ⟨[(1, .pointer (some (Addr.mk b 0 none))), (2, .agg (x).toArray)], ps (by kernel_rfl), ?_⟩
 obtain ⟨q4, h⟩ := h
 refine N_skipop none (storeN 46 (.pointer (some (Addr.mk b 0 none))) (.agg (x).toArray)) (fun Hz => Hz = hputs H2 (Addr.mk b 0 none) x 0) (fun _=>by kernel_rfl) (by intro w hw; obtain ⟨w1, g1, g2, g3⟩ := ss_store (P := Tryz.prog) (H := H2) (t := 46) (a := (Addr.mk b 0 none)) (v := (.agg (x).toArray)) x 90 (List.toList_toArray) (by assumption) (fun _=>by kernel_rfl) q4.1 q4.2 w hw; exact ⟨w1, g1, g2, g3⟩) ?_
 intro H3 e3
 replace h := h H3 e3
 refine ⟨[(1, .pointer (some (Addr.mk b 0 none)))], ps (by kernel_rfl), ?_⟩
 refine T_e ?_
 refine T_sr 2 kk5 kk6 ?_
 refine N_run 2 [(0, .slice (some (Addr.mk b 0 none)) 30 30)] (fun _=>by kernel_rfl) ?_
 refine T_e ?_
 refine S_ret (by kernel_rfl) ?_
 show At _ _ _ _ _ (Q .ret)
 exact S_done (fn := Tryz.f7) [.slice (some (Addr.mk b 0 none)) 30 30] hQ (show ResOK _ _ _ [.tmp 0] _ from .tmp (by kernel_rfl) (.nil)) h
end lists_Prims

end Go.Proofs.YthlohokmnajpoaaGreat
