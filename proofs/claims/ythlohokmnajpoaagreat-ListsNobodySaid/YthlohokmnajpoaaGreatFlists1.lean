/-
 Written by a program of mine (gen.py): for functions of this translation a predicate transformer over heaps (.pt), and the proof that it is sound for the call (.link).
-/
import Derived.Test.YthlohokmnajpoaaGreatFnsC
set_option linter.unusedSimpArgs false
set_option linter.unusedVariables false
set_option maxHeartbeats 1000000
noncomputable section
namespace Go.Proofs.YthlohokmnajpoaaGreat
open Go
/-! moraine/lists.table -/
namespace lists_table
def kk0 := Func.code Tryz.f10
def kk1 := Code.fa kk0
def kk2 := Code.fb kk0
def kk3 := Code.fa kk2
def kk4 := Code.fb kk2
def kk5 := Code.fa kk4
def kk6 := Code.fb kk4
end lists_table
def lists_table.pt  (H : Array Obj) (R : Value → Array Obj → Prop) : Prop :=
 ∀ (b : Nat) (H1 : Array Obj), b = H.size → H1 = H.push (.cells ([.string (ByteArray.mk #[]), .int .i64 0, .int .i64 0, .string (ByteArray.mk #[]), .int .i64 0, .int .i64 0, .string (ByteArray.mk #[]), .int .i64 0, .int .i64 0, .string (ByteArray.mk #[]), .int .i64 0, .int .i64 0, .string (ByteArray.mk #[]), .int .i64 0, .int .i64 0, .string (ByteArray.mk #[]), .int .i64 0, .int .i64 0, .string (ByteArray.mk #[]), .int .i64 0, .int .i64 0, .string (ByteArray.mk #[]), .int .i64 0, .int .i64 0, .string (ByteArray.mk #[]), .int .i64 0, .int .i64 0, .string (ByteArray.mk #[]), .int .i64 0, .int .i64 0, .string (ByteArray.mk #[]), .int .i64 0, .int .i64 0, .string (ByteArray.mk #[]), .int .i64 0, .int .i64 0, .string (ByteArray.mk #[]), .int .i64 0, .int .i64 0, .string (ByteArray.mk #[]), .int .i64 0, .int .i64 0, .string (ByteArray.mk #[]), .int .i64 0, .int .i64 0, .string (ByteArray.mk #[]), .int .i64 0, .int .i64 0, .string (ByteArray.mk #[]), .int .i64 0, .int .i64 0, .string (ByteArray.mk #[]), .int .i64 0, .int .i64 0, .string (ByteArray.mk #[]), .int .i64 0, .int .i64 0, .string (ByteArray.mk #[]), .int .i64 0, .int .i64 0, .string (ByteArray.mk #[]), .int .i64 0, .int .i64 0, .string (ByteArray.mk #[]), .int .i64 0, .int .i64 0, .string (ByteArray.mk #[]), .int .i64 0, .int .i64 0, .string (ByteArray.mk #[]), .int .i64 0, .int .i64 0, .string (ByteArray.mk #[]), .int .i64 0, .int .i64 0, .string (ByteArray.mk #[]), .int .i64 0, .int .i64 0, .string (ByteArray.mk #[]), .int .i64 0, .int .i64 0, .string (ByteArray.mk #[]), .int .i64 0, .int .i64 0, .string (ByteArray.mk #[]), .int .i64 0, .int .i64 0, .string (ByteArray.mk #[]), .int .i64 0, .int .i64 0] : List Value).toArray 46) →
 lists_table_1.C (ByteArray.mk #[99, 111, 110, 115]) 2 H1 (fun v H2 => ∃ xName : ByteArray, ∃ xLeast : Int, ∃ xMost : Int, v = .agg #[.string xName, .int .i64 xLeast, .int .i64 xMost] ∧ 
 lists_table_1.C (ByteArray.mk #[99, 97, 114]) 1 H2 (fun v_2 H3 => ∃ xName_2 : ByteArray, ∃ xLeast_2 : Int, ∃ xMost_2 : Int, v_2 = .agg #[.string xName_2, .int .i64 xLeast_2, .int .i64 xMost_2] ∧ 
 lists_table_1.C (ByteArray.mk #[99, 100, 114]) 1 H3 (fun v_3 H4 => ∃ xName_3 : ByteArray, ∃ xLeast_3 : Int, ∃ xMost_3 : Int, v_3 = .agg #[.string xName_3, .int .i64 xLeast_3, .int .i64 xMost_3] ∧ 
 lists_table_1.C (ByteArray.mk #[99, 97, 97, 114]) 1 H4 (fun v_4 H5 => ∃ xName_4 : ByteArray, ∃ xLeast_4 : Int, ∃ xMost_4 : Int, v_4 = .agg #[.string xName_4, .int .i64 xLeast_4, .int .i64 xMost_4] ∧ 
 lists_table_1.C (ByteArray.mk #[99, 97, 100, 114]) 1 H5 (fun v_5 H6 => ∃ xName_5 : ByteArray, ∃ xLeast_5 : Int, ∃ xMost_5 : Int, v_5 = .agg #[.string xName_5, .int .i64 xLeast_5, .int .i64 xMost_5] ∧ 
 lists_table_1.C (ByteArray.mk #[99, 100, 97, 114]) 1 H6 (fun v_6 H7 => ∃ xName_6 : ByteArray, ∃ xLeast_6 : Int, ∃ xMost_6 : Int, v_6 = .agg #[.string xName_6, .int .i64 xLeast_6, .int .i64 xMost_6] ∧ 
 lists_table_1.C (ByteArray.mk #[99, 100, 100, 114]) 1 H7 (fun v_7 H8 => ∃ xName_7 : ByteArray, ∃ xLeast_7 : Int, ∃ xMost_7 : Int, v_7 = .agg #[.string xName_7, .int .i64 xLeast_7, .int .i64 xMost_7] ∧ 
 lists_table_1.C (ByteArray.mk #[115, 101, 116, 45, 99, 97, 114, 33]) 2 H8 (fun v_8 H9 => ∃ xName_8 : ByteArray, ∃ xLeast_8 : Int, ∃ xMost_8 : Int, v_8 = .agg #[.string xName_8, .int .i64 xLeast_8, .int .i64 xMost_8] ∧ 
 lists_table_1.C (ByteArray.mk #[115, 101, 116, 45, 99, 100, 114, 33]) 2 H9 (fun v_9 H10 => ∃ xName_9 : ByteArray, ∃ xLeast_9 : Int, ∃ xMost_9 : Int, v_9 = .agg #[.string xName_9, .int .i64 xLeast_9, .int .i64 xMost_9] ∧ 
 lists_table_1.C (ByteArray.mk #[112, 97, 105, 114, 63]) 1 H10 (fun v_10 H11 => ∃ xName_10 : ByteArray, ∃ xLeast_10 : Int, ∃ xMost_10 : Int, v_10 = .agg #[.string xName_10, .int .i64 xLeast_10, .int .i64 xMost_10] ∧ 
 lists_table_1.C (ByteArray.mk #[110, 117, 108, 108, 63]) 1 H11 (fun v_11 H12 => ∃ xName_11 : ByteArray, ∃ xLeast_11 : Int, ∃ xMost_11 : Int, v_11 = .agg #[.string xName_11, .int .i64 xLeast_11, .int .i64 xMost_11] ∧ 
 lists_table_1.C (ByteArray.mk #[108, 105, 115, 116, 63]) 1 H12 (fun v_12 H13 => ∃ xName_12 : ByteArray, ∃ xLeast_12 : Int, ∃ xMost_12 : Int, v_12 = .agg #[.string xName_12, .int .i64 xLeast_12, .int .i64 xMost_12] ∧ 
 lists_table_1.C (ByteArray.mk #[108, 101, 110, 103, 116, 104]) 1 H13 (fun v_13 H14 => ∃ xName_13 : ByteArray, ∃ xLeast_13 : Int, ∃ xMost_13 : Int, v_13 = .agg #[.string xName_13, .int .i64 xLeast_13, .int .i64 xMost_13] ∧ 
 lists_table_1.C (ByteArray.mk #[114, 101, 118, 101, 114, 115, 101]) 1 H14 (fun v_14 H15 => ∃ xName_14 : ByteArray, ∃ xLeast_14 : Int, ∃ xMost_14 : Int, v_14 = .agg #[.string xName_14, .int .i64 xLeast_14, .int .i64 xMost_14] ∧ 
 lists_table_1.C (ByteArray.mk #[108, 105, 115, 116, 45, 116, 97, 105, 108]) 2 H15 (fun v_15 H16 => ∃ xName_15 : ByteArray, ∃ xLeast_15 : Int, ∃ xMost_15 : Int, v_15 = .agg #[.string xName_15, .int .i64 xLeast_15, .int .i64 xMost_15] ∧ 
 lists_table_1.C (ByteArray.mk #[108, 105, 115, 116, 45, 114, 101, 102]) 2 H16 (fun v_16 H17 => ∃ xName_16 : ByteArray, ∃ xLeast_16 : Int, ∃ xMost_16 : Int, v_16 = .agg #[.string xName_16, .int .i64 xLeast_16, .int .i64 xMost_16] ∧ 
 lists_table_1.C (ByteArray.mk #[109, 101, 109, 113]) 2 H17 (fun v_17 H18 => ∃ xName_17 : ByteArray, ∃ xLeast_17 : Int, ∃ xMost_17 : Int, v_17 = .agg #[.string xName_17, .int .i64 xLeast_17, .int .i64 xMost_17] ∧ 
 lists_table_1.C (ByteArray.mk #[109, 101, 109, 118]) 2 H18 (fun v_18 H19 => ∃ xName_18 : ByteArray, ∃ xLeast_18 : Int, ∃ xMost_18 : Int, v_18 = .agg #[.string xName_18, .int .i64 xLeast_18, .int .i64 xMost_18] ∧ 
 lists_table_1.C (ByteArray.mk #[109, 101, 109, 98, 101, 114]) 2 H19 (fun v_19 H20 => ∃ xName_19 : ByteArray, ∃ xLeast_19 : Int, ∃ xMost_19 : Int, v_19 = .agg #[.string xName_19, .int .i64 xLeast_19, .int .i64 xMost_19] ∧ 
 lists_table_1.C (ByteArray.mk #[97, 115, 115, 113]) 2 H20 (fun v_20 H21 => ∃ xName_20 : ByteArray, ∃ xLeast_20 : Int, ∃ xMost_20 : Int, v_20 = .agg #[.string xName_20, .int .i64 xLeast_20, .int .i64 xMost_20] ∧ 
 lists_table_1.C (ByteArray.mk #[97, 115, 115, 118]) 2 H21 (fun v_21 H22 => ∃ xName_21 : ByteArray, ∃ xLeast_21 : Int, ∃ xMost_21 : Int, v_21 = .agg #[.string xName_21, .int .i64 xLeast_21, .int .i64 xMost_21] ∧ 
 lists_table_1.C (ByteArray.mk #[97, 115, 115, 111, 99]) 2 H22 (fun v_22 H23 => ∃ xName_22 : ByteArray, ∃ xLeast_22 : Int, ∃ xMost_22 : Int, v_22 = .agg #[.string xName_22, .int .i64 xLeast_22, .int .i64 xMost_22] ∧ 
 lists_table_1.C (ByteArray.mk #[101, 113, 63]) 2 H23 (fun v_23 H24 => ∃ xName_23 : ByteArray, ∃ xLeast_23 : Int, ∃ xMost_23 : Int, v_23 = .agg #[.string xName_23, .int .i64 xLeast_23, .int .i64 xMost_23] ∧ 
 lists_table_1.C (ByteArray.mk #[101, 113, 118, 63]) 2 H24 (fun v_24 H25 => ∃ xName_24 : ByteArray, ∃ xLeast_24 : Int, ∃ xMost_24 : Int, v_24 = .agg #[.string xName_24, .int .i64 xLeast_24, .int .i64 xMost_24] ∧ 
 lists_table_1.C (ByteArray.mk #[101, 113, 117, 97, 108, 63]) 2 H25 (fun v_25 H26 => ∃ xName_25 : ByteArray, ∃ xLeast_25 : Int, ∃ xMost_25 : Int, v_25 = .agg #[.string xName_25, .int .i64 xLeast_25, .int .i64 xMost_25] ∧ 
 lists_table_1.C (ByteArray.mk #[110, 111, 116]) 1 H26 (fun v_26 H27 => ∃ xName_26 : ByteArray, ∃ xLeast_26 : Int, ∃ xMost_26 : Int, v_26 = .agg #[.string xName_26, .int .i64 xLeast_26, .int .i64 xMost_26] ∧ 
 lists_table_1.C (ByteArray.mk #[98, 111, 111, 108, 101, 97, 110, 63]) 1 H27 (fun v_27 H28 => ∃ xName_27 : ByteArray, ∃ xLeast_27 : Int, ∃ xMost_27 : Int, v_27 = .agg #[.string xName_27, .int .i64 xLeast_27, .int .i64 xMost_27] ∧ 
 lists_table_1.C (ByteArray.mk #[112, 114, 111, 99, 101, 100, 117, 114, 101, 63]) 1 H28 (fun v_28 H29 => ∃ xName_28 : ByteArray, ∃ xLeast_28 : Int, ∃ xMost_28 : Int, v_28 = .agg #[.string xName_28, .int .i64 xLeast_28, .int .i64 xMost_28] ∧ 
 (CanPuts H29 (Addr.mk b 0 none) 0 90) ∧ ∀ H30 : Array Obj, H30 = hputs H29 (Addr.mk b 0 none) ([.string xName, .int .i64 xLeast, .int .i64 xMost, .string xName_2, .int .i64 xLeast_2, .int .i64 xMost_2, .string xName_3, .int .i64 xLeast_3, .int .i64 xMost_3, .string xName_4, .int .i64 xLeast_4, .int .i64 xMost_4, .string xName_5, .int .i64 xLeast_5, .int .i64 xMost_5, .string xName_6, .int .i64 xLeast_6, .int .i64 xMost_6, .string xName_7, .int .i64 xLeast_7, .int .i64 xMost_7, .string xName_8, .int .i64 xLeast_8, .int .i64 xMost_8, .string xName_9, .int .i64 xLeast_9, .int .i64 xMost_9, .string xName_10, .int .i64 xLeast_10, .int .i64 xMost_10, .string xName_11, .int .i64 xLeast_11, .int .i64 xMost_11, .string xName_12, .int .i64 xLeast_12, .int .i64 xMost_12, .string (ByteArray.mk #[108, 105, 115, 116]), .int .i64 0, .int .i64 (-1), .string xName_13, .int .i64 xLeast_13, .int .i64 xMost_13, .string (ByteArray.mk #[97, 112, 112, 101, 110, 100]), .int .i64 0, .int .i64 (-1), .string xName_14, .int .i64 xLeast_14, .int .i64 xMost_14, .string xName_15, .int .i64 xLeast_15, .int .i64 xMost_15, .string xName_16, .int .i64 xLeast_16, .int .i64 xMost_16, .string xName_17, .int .i64 xLeast_17, .int .i64 xMost_17, .string xName_18, .int .i64 xLeast_18, .int .i64 xMost_18, .string xName_19, .int .i64 xLeast_19, .int .i64 xMost_19, .string xName_20, .int .i64 xLeast_20, .int .i64 xMost_20, .string xName_21, .int .i64 xLeast_21, .int .i64 xMost_21, .string xName_22, .int .i64 xLeast_22, .int .i64 xMost_22, .string xName_23, .int .i64 xLeast_23, .int .i64 xMost_23, .string xName_24, .int .i64 xLeast_24, .int .i64 xMost_24, .string xName_25, .int .i64 xLeast_25, .int .i64 xMost_25, .string xName_26, .int .i64 xLeast_26, .int .i64 xMost_26, .string xName_27, .int .i64 xLeast_27, .int .i64 xMost_27, .string xName_28, .int .i64 xLeast_28, .int .i64 xMost_28] : List Value) 0 →
 ∃ r : List Value, r.length = 90 ∧ RowAt H30 (Addr.mk b 0 none) 0 r ∧
 R (.agg (r).toArray) H30))))))))))))))))))))))))))))
namespace lists_table
set_option maxRecDepth 100000 in
theorem link  {H : Array Obj} {R : Value → Array Obj → Prop} (h : pt  H R) : C  H R := by
 refine S_enter (fn := Tryz.f10) (c := kk0) 61 Tryz.func10 (by kernel_rfl) (by kernel_rfl) (Nat.le_of_ble_eq_true (by kernel_rfl)) ?_
 intro w0 Q hQ
 unfold pt at h
 refine S_sub [] (sb (by kernel_rfl)) ?_
 refine T_sr 0 kk1 kk2 ?_
 refine N_new (some 0) (fun b => .pointer (some (Addr.mk b 0 none))) (.cells ([.string (ByteArray.mk #[]), .int .i64 0, .int .i64 0, .string (ByteArray.mk #[]), .int .i64 0, .int .i64 0, .string (ByteArray.mk #[]), .int .i64 0, .int .i64 0, .string (ByteArray.mk #[]), .int .i64 0, .int .i64 0, .string (ByteArray.mk #[]), .int .i64 0, .int .i64 0, .string (ByteArray.mk #[]), .int .i64 0, .int .i64 0, .string (ByteArray.mk #[]), .int .i64 0, .int .i64 0, .string (ByteArray.mk #[]), .int .i64 0, .int .i64 0, .string (ByteArray.mk #[]), .int .i64 0, .int .i64 0, .string (ByteArray.mk #[]), .int .i64 0, .int .i64 0, .string (ByteArray.mk #[]), .int .i64 0, .int .i64 0, .string (ByteArray.mk #[]), .int .i64 0, .int .i64 0, .string (ByteArray.mk #[]), .int .i64 0, .int .i64 0, .string (ByteArray.mk #[]), .int .i64 0, .int .i64 0, .string (ByteArray.mk #[]), .int .i64 0, .int .i64 0, .string (ByteArray.mk #[]), .int .i64 0, .int .i64 0, .string (ByteArray.mk #[]), .int .i64 0, .int .i64 0, .string (ByteArray.mk #[]), .int .i64 0, .int .i64 0, .string (ByteArray.mk #[]), .int .i64 0, .int .i64 0, .string (ByteArray.mk #[]), .int .i64 0, .int .i64 0, .string (ByteArray.mk #[]), .int .i64 0, .int .i64 0, .string (ByteArray.mk #[]), .int .i64 0, .int .i64 0, .string (ByteArray.mk #[]), .int .i64 0, .int .i64 0, .string (ByteArray.mk #[]), .int .i64 0, .int .i64 0, .string (ByteArray.mk #[]), .int .i64 0, .int .i64 0, .string (ByteArray.mk #[]), .int .i64 0, .int .i64 0, .string (ByteArray.mk #[]), .int .i64 0, .int .i64 0, .string (ByteArray.mk #[]), .int .i64 0, .int .i64 0, .string (ByteArray.mk #[]), .int .i64 0, .int .i64 0, .string (ByteArray.mk #[]), .int .i64 0, .int .i64 0] : List Value).toArray 46) (fun _=>by kernel_rfl) ?_
 intro b H1 e1 e2
 replace h := h b H1 e1 e2
 refine ⟨[(0, .pointer (some (Addr.mk b 0 none)))], ps (by kernel_rfl), ?_⟩
 refine T_e ?_
 refine T_sr 1 kk3 kk4 ?_
 refine N_run 1 [(0, .pointer (some (Addr.mk b 0 none))), (1, .func (.func 30) #[] #[])] (fun _=>by kernel_rfl) ?_
 refine T_e ?_
 refine T_sr 2 kk5 kk6 ?_
 refine N_run 1 [(0, .pointer (some (Addr.mk b 0 none))), (1, .func (.func 30) #[] #[]), (2, .func (.func 30) #[] #[])] (fun _=>by kernel_rfl) ?_
 refine N_call (some 3) 30 #[.string (ByteArray.mk #[99, 111, 110, 115]), .int .i64 2] (fun _=>by kernel_rfl) h ?_; clear h
 rintro v H2 ⟨xName, xLeast, xMost, rfl, h⟩
 refine ⟨[(0, .pointer (some (Addr.mk b 0 none))), (1, .func (.func 30) #[] #[]), (3, .agg #[.string xName, .int .i64 xLeast, .int .i64 xMost])], ps (by kernel_rfl), ?_⟩
 refine N_run 1 [(0, .pointer (some (Addr.mk b 0 none))), (1, .func (.func 30) #[] #[]), (3, .agg #[.string xName, .int .i64 xLeast, .int .i64 xMost]), (4, .func (.func 30) #[] #[])] (fun _=>by kernel_rfl) ?_
 refine N_call (some 5) 30 #[.string (ByteArray.mk #[99, 97, 114]), .int .i64 1] (fun _=>by kernel_rfl) h ?_; clear h
 rintro v_2 H3 ⟨xName_2, xLeast_2, xMost_2, rfl, h⟩
 refine ⟨[(0, .pointer (some (Addr.mk b 0 none))), (1, .func (.func 30) #[] #[]), (3, .agg #[.string xName, .int .i64 xLeast, .int .i64 xMost]), (5, .agg #[.string xName_2, .int .i64 xLeast_2, .int .i64 xMost_2])], ps (by kernel_rfl), ?_⟩
 refine N_run 1 [(0, .pointer (some (Addr.mk b 0 none))), (1, .func (.func 30) #[] #[]), (3, .agg #[.string xName, .int .i64 xLeast, .int .i64 xMost]), (5, .agg #[.string xName_2, .int .i64 xLeast_2, .int .i64 xMost_2]), (6, .func (.func 30) #[] #[])] (fun _=>by kernel_rfl) ?_
 refine N_call (some 7) 30 #[.string (ByteArray.mk #[99, 100, 114]), .int .i64 1] (fun _=>by kernel_rfl) h ?_; clear h
 rintro v_3 H4 ⟨xName_3, xLeast_3, xMost_3, rfl, h⟩
 refine ⟨[(0, .pointer (some (Addr.mk b 0 none))), (1, .func (.func 30) #[] #[]), (3, .agg #[.string xName, .int .i64 xLeast, .int .i64 xMost]), (5, .agg #[.string xName_2, .int .i64 xLeast_2, .int .i64 xMost_2]), (7, .agg #[.string xName_3, .int .i64 xLeast_3, .int .i64 xMost_3])], ps (by kernel_rfl), ?_⟩
 refine N_run 1 [(0, .pointer (some (Addr.mk b 0 none))), (1, .func (.func 30) #[] #[]), (3, .agg #[.string xName, .int .i64 xLeast, .int .i64 xMost]), (5, .agg #[.string xName_2, .int .i64 xLeast_2, .int .i64 xMost_2]), (7, .agg #[.string xName_3, .int .i64 xLeast_3, .int .i64 xMost_3]), (8, .func (.func 30) #[] #[])] (fun _=>by kernel_rfl) ?_
 refine N_call (some 9) 30 #[.string (ByteArray.mk #[99, 97, 97, 114]), .int .i64 1] (fun _=>by kernel_rfl) h ?_; clear h
 rintro v_4 H5 ⟨xName_4, xLeast_4, xMost_4, rfl, h⟩
 refine ⟨[(0, .pointer (some (Addr.mk b 0 none))), (1, .func (.func 30) #[] #[]), (3, .agg #[.string xName, .int .i64 xLeast, .int .i64 xMost]), (5, .agg #[.string xName_2, .int .i64 xLeast_2, .int .i64 xMost_2]), (7, .agg #[.string xName_3, .int .i64 xLeast_3, .int .i64 xMost_3]), (9, .agg #[.string xName_4, .int .i64 xLeast_4, .int .i64 xMost_4])], ps (by kernel_rfl), ?_⟩
 refine N_run 1 [(0, .pointer (some (Addr.mk b 0 none))), (1, .func (.func 30) #[] #[]), (3, .agg #[.string xName, .int .i64 xLeast, .int .i64 xMost]), (5, .agg #[.string xName_2, .int .i64 xLeast_2, .int .i64 xMost_2]), (7, .agg #[.string xName_3, .int .i64 xLeast_3, .int .i64 xMost_3]), (9, .agg #[.string xName_4, .int .i64 xLeast_4, .int .i64 xMost_4]), (10, .func (.func 30) #[] #[])] (fun _=>by kernel_rfl) ?_
 refine N_call (some 11) 30 #[.string (ByteArray.mk #[99, 97, 100, 114]), .int .i64 1] (fun _=>by kernel_rfl) h ?_; clear h
 rintro v_5 H6 ⟨xName_5, xLeast_5, xMost_5, rfl, h⟩
 refine ⟨[(0, .pointer (some (Addr.mk b 0 none))), (1, .func (.func 30) #[] #[]), (3, .agg #[.string xName, .int .i64 xLeast, .int .i64 xMost]), (5, .agg #[.string xName_2, .int .i64 xLeast_2, .int .i64 xMost_2]), (7, .agg #[.string xName_3, .int .i64 xLeast_3, .int .i64 xMost_3]), (9, .agg #[.string xName_4, .int .i64 xLeast_4, .int .i64 xMost_4]), (11, .agg #[.string xName_5, .int .i64 xLeast_5, .int .i64 xMost_5])], ps (by kernel_rfl), ?_⟩
 refine N_run 1 [(0, .pointer (some (Addr.mk b 0 none))), (1, .func (.func 30) #[] #[]), (3, .agg #[.string xName, .int .i64 xLeast, .int .i64 xMost]), (5, .agg #[.string xName_2, .int .i64 xLeast_2, .int .i64 xMost_2]), (7, .agg #[.string xName_3, .int .i64 xLeast_3, .int .i64 xMost_3]), (9, .agg #[.string xName_4, .int .i64 xLeast_4, .int .i64 xMost_4]), (11, .agg #[.string xName_5, .int .i64 xLeast_5, .int .i64 xMost_5]), (12, .func (.func 30) #[] #[])] (fun _=>by kernel_rfl) ?_
 refine N_call (some 13) 30 #[.string (ByteArray.mk #[99, 100, 97, 114]), .int .i64 1] (fun _=>by kernel_rfl) h ?_; clear h
 rintro v_6 H7 ⟨xName_6, xLeast_6, xMost_6, rfl, h⟩
 refine ⟨[(0, .pointer (some (Addr.mk b 0 none))), (1, .func (.func 30) #[] #[]), (3, .agg #[.string xName, .int .i64 xLeast, .int .i64 xMost]), (5, .agg #[.string xName_2, .int .i64 xLeast_2, .int .i64 xMost_2]), (7, .agg #[.string xName_3, .int .i64 xLeast_3, .int .i64 xMost_3]), (9, .agg #[.string xName_4, .int .i64 xLeast_4, .int .i64 xMost_4]), (11, .agg #[.string xName_5, .int .i64 xLeast_5, .int .i64 xMost_5]), (13, .agg #[.string xName_6, .int .i64 xLeast_6, .int .i64 xMost_6])], ps (by kernel_rfl), ?_⟩
 refine N_run 1 [(0, .pointer (some (Addr.mk b 0 none))), (1, .func (.func 30) #[] #[]), (3, .agg #[.string xName, .int .i64 xLeast, .int .i64 xMost]), (5, .agg #[.string xName_2, .int .i64 xLeast_2, .int .i64 xMost_2]), (7, .agg #[.string xName_3, .int .i64 xLeast_3, .int .i64 xMost_3]), (9, .agg #[.string xName_4, .int .i64 xLeast_4, .int .i64 xMost_4]), (11, .agg #[.string xName_5, .int .i64 xLeast_5, .int .i64 xMost_5]), (13, .agg #[.string xName_6, .int .i64 xLeast_6, .int .i64 xMost_6]), (14, .func (.func 30) #[] #[])] (fun _=>by kernel_rfl) ?_
 refine N_call (some 15) 30 #[.string (ByteArray.mk #[99, 100, 100, 114]), .int .i64 1] (fun _=>by kernel_rfl) h ?_; clear h
 rintro v_7 H8 ⟨xName_7, xLeast_7, xMost_7, rfl, h⟩
 refine ⟨[(0, .pointer (some (Addr.mk b 0 none))), (1, .func (.func 30) #[] #[]), (3, .agg #[.string xName, .int .i64 xLeast, .int .i64 xMost]), (5, .agg #[.string xName_2, .int .i64 xLeast_2, .int .i64 xMost_2]), (7, .agg #[.string xName_3, .int .i64 xLeast_3, .int .i64 xMost_3]), (9, .agg #[.string xName_4, .int .i64 xLeast_4, .int .i64 xMost_4]), (11, .agg #[.string xName_5, .int .i64 xLeast_5, .int .i64 xMost_5]), (13, .agg #[.string xName_6, .int .i64 xLeast_6, .int .i64 xMost_6]), (15, .agg #[.string xName_7, .int .i64 xLeast_7, .int .i64 xMost_7])], ps (by kernel_rfl), ?_⟩
 refine N_run 1 [(0, .pointer (some (Addr.mk b 0 none))), (1, .func (.func 30) #[] #[]), (3, .agg #[.string xName, .int .i64 xLeast, .int .i64 xMost]), (5, .agg #[.string xName_2, .int .i64 xLeast_2, .int .i64 xMost_2]), (7, .agg #[.string xName_3, .int .i64 xLeast_3, .int .i64 xMost_3]), (9, .agg #[.string xName_4, .int .i64 xLeast_4, .int .i64 xMost_4]), (11, .agg #[.string xName_5, .int .i64 xLeast_5, .int .i64 xMost_5]), (13, .agg #[.string xName_6, .int .i64 xLeast_6, .int .i64 xMost_6]), (15, .agg #[.string xName_7, .int .i64 xLeast_7, .int .i64 xMost_7]), (16, .func (.func 30) #[] #[])] (fun _=>by kernel_rfl) ?_
 refine N_call (some 17) 30 #[.string (ByteArray.mk #[115, 101, 116, 45, 99, 97, 114, 33]), .int .i64 2] (fun _=>by kernel_rfl) h ?_; clear h
 rintro v_8 H9 ⟨xName_8, xLeast_8, xMost_8, rfl, h⟩
 refine ⟨[(0, .pointer (some (Addr.mk b 0 none))), (1, .func (.func 30) #[] #[]), (3, .agg #[.string xName, .int .i64 xLeast, .int .i64 xMost]), (5, .agg #[.string xName_2, .int .i64 xLeast_2, .int .i64 xMost_2]), (7, .agg #[.string xName_3, .int .i64 xLeast_3, .int .i64 xMost_3]), (9, .agg #[.string xName_4, .int .i64 xLeast_4, .int .i64 xMost_4]), (11, .agg #[.string xName_5, .int .i64 xLeast_5, .int .i64 xMost_5]), (13, .agg #[.string xName_6, .int .i64 xLeast_6, .int .i64 xMost_6]), (15, .agg #[.string xName_7, .int .i64 xLeast_7, .int .i64 xMost_7]), (17, .agg #[.string xName_8, .int .i64 xLeast_8, .int .i64 xMost_8])], ps (by kernel_rfl), ?_⟩
 refine N_run 1 [(0, .pointer (some (Addr.mk b 0 none))), (1, .func (.func 30) #[] #[]), (3, .agg #[.string xName, .int .i64 xLeast, .int .i64 xMost]), (5, .agg #[.string xName_2, .int .i64 xLeast_2, .int .i64 xMost_2]), (7, .agg #[.string xName_3, .int .i64 xLeast_3, .int .i64 xMost_3]), (9, .agg #[.string xName_4, .int .i64 xLeast_4, .int .i64 xMost_4]), (11, .agg #[.string xName_5, .int .i64 xLeast_5, .int .i64 xMost_5]), (13, .agg #[.string xName_6, .int .i64 xLeast_6, .int .i64 xMost_6]), (15, .agg #[.string xName_7, .int .i64 xLeast_7, .int .i64 xMost_7]), (17, .agg #[.string xName_8, .int .i64 xLeast_8, .int .i64 xMost_8]), (18, .func (.func 30) #[] #[])] (fun _=>by kernel_rfl) ?_
 refine N_call (some 19) 30 #[.string (ByteArray.mk #[115, 101, 116, 45, 99, 100, 114, 33]), .int .i64 2] (fun _=>by kernel_rfl) h ?_; clear h
 rintro v_9 H10 ⟨xName_9, xLeast_9, xMost_9, rfl, h⟩
 refine ⟨[(0, .pointer (some (Addr.mk b 0 none))), (1, .func (.func 30) #[] #[]), (3, .agg #[.string xName, .int .i64 xLeast, .int .i64 xMost]), (5, .agg #[.string xName_2, .int .i64 xLeast_2, .int .i64 xMost_2]), (7, .agg #[.string xName_3, .int .i64 xLeast_3, .int .i64 xMost_3]), (9, .agg #[.string xName_4, .int .i64 xLeast_4, .int .i64 xMost_4]), (11, .agg #[.string xName_5, .int .i64 xLeast_5, .int .i64 xMost_5]), (13, .agg #[.string xName_6, .int .i64 xLeast_6, .int .i64 xMost_6]), (15, .agg #[.string xName_7, .int .i64 xLeast_7, .int .i64 xMost_7]), (17, .agg #[.string xName_8, .int .i64 xLeast_8, .int .i64 xMost_8]), (19, .agg #[.string xName_9, .int .i64 xLeast_9, .int .i64 xMost_9])], ps (by kernel_rfl), ?_⟩
 refine N_run 1 [(0, .pointer (some (Addr.mk b 0 none))), (1, .func (.func 30) #[] #[]), (3, .agg #[.string xName, .int .i64 xLeast, .int .i64 xMost]), (5, .agg #[.string xName_2, .int .i64 xLeast_2, .int .i64 xMost_2]), (7, .agg #[.string xName_3, .int .i64 xLeast_3, .int .i64 xMost_3]), (9, .agg #[.string xName_4, .int .i64 xLeast_4, .int .i64 xMost_4]), (11, .agg #[.string xName_5, .int .i64 xLeast_5, .int .i64 xMost_5]), (13, .agg #[.string xName_6, .int .i64 xLeast_6, .int .i64 xMost_6]), (15, .agg #[.string xName_7, .int .i64 xLeast_7, .int .i64 xMost_7]), (17, .agg #[.string xName_8, .int .i64 xLeast_8, .int .i64 xMost_8]), (19, .agg #[.string xName_9, .int .i64 xLeast_9, .int .i64 xMost_9]), (20, .func (.func 30) #[] #[])] (fun _=>by kernel_rfl) ?_
 refine N_call (some 21) 30 #[.string (ByteArray.mk #[112, 97, 105, 114, 63]), .int .i64 1] (fun _=>by kernel_rfl) h ?_; clear h
 rintro v_10 H11 ⟨xName_10, xLeast_10, xMost_10, rfl, h⟩
 refine ⟨[(0, .pointer (some (Addr.mk b 0 none))), (1, .func (.func 30) #[] #[]), (3, .agg #[.string xName, .int .i64 xLeast, .int .i64 xMost]), (5, .agg #[.string xName_2, .int .i64 xLeast_2, .int .i64 xMost_2]), (7, .agg #[.string xName_3, .int .i64 xLeast_3, .int .i64 xMost_3]), (9, .agg #[.string xName_4, .int .i64 xLeast_4, .int .i64 xMost_4]), (11, .agg #[.string xName_5, .int .i64 xLeast_5, .int .i64 xMost_5]), (13, .agg #[.string xName_6, .int .i64 xLeast_6, .int .i64 xMost_6]), (15, .agg #[.string xName_7, .int .i64 xLeast_7, .int .i64 xMost_7]), (17, .agg #[.string xName_8, .int .i64 xLeast_8, .int .i64 xMost_8]), (19, .agg #[.string xName_9, .int .i64 xLeast_9, .int .i64 xMost_9]), (21, .agg #[.string xName_10, .int .i64 xLeast_10, .int .i64 xMost_10])], ps (by kernel_rfl), ?_⟩
 refine N_run 1 [(0, .pointer (some (Addr.mk b 0 none))), (1, .func (.func 30) #[] #[]), (3, .agg #[.string xName, .int .i64 xLeast, .int .i64 xMost]), (5, .agg #[.string xName_2, .int .i64 xLeast_2, .int .i64 xMost_2]), (7, .agg #[.string xName_3, .int .i64 xLeast_3, .int .i64 xMost_3]), (9, .agg #[.string xName_4, .int .i64 xLeast_4, .int .i64 xMost_4]), (11, .agg #[.string xName_5, .int .i64 xLeast_5, .int .i64 xMost_5]), (13, .agg #[.string xName_6, .int .i64 xLeast_6, .int .i64 xMost_6]), (15, .agg #[.string xName_7, .int .i64 xLeast_7, .int .i64 xMost_7]), (17, .agg #[.string xName_8, .int .i64 xLeast_8, .int .i64 xMost_8]), (19, .agg #[.string xName_9, .int .i64 xLeast_9, .int .i64 xMost_9]), (21, .agg #[.string xName_10, .int .i64 xLeast_10, .int .i64 xMost_10]), (22, .func (.func 30) #[] #[])] (fun _=>by kernel_rfl) ?_
 refine N_call (some 23) 30 #[.string (ByteArray.mk #[110, 117, 108, 108, 63]), .int .i64 1] (fun _=>by kernel_rfl) h ?_; clear h
 rintro v_11 H12 ⟨xName_11, xLeast_11, xMost_11, rfl, h⟩
 refine ⟨[(0, .pointer (some (Addr.mk b 0 none))), (1, .func (.func 30) #[] #[]), (3, .agg #[.string xName, .int .i64 xLeast, .int .i64 xMost]), (5, .agg #[.string xName_2, .int .i64 xLeast_2, .int .i64 xMost_2]), (7, .agg #[.string xName_3, .int .i64 xLeast_3, .int .i64 xMost_3]), (9, .agg #[.string xName_4, .int .i64 xLeast_4, .int .i64 xMost_4]), (11, .agg #[.string xName_5, .int .i64 xLeast_5, .int .i64 xMost_5]), (13, .agg #[.string xName_6, .int .i64 xLeast_6, .int .i64 xMost_6]), (15, .agg #[.string xName_7, .int .i64 xLeast_7, .int .i64 xMost_7]), (17, .agg #[.string xName_8, .int .i64 xLeast_8, .int .i64 xMost_8]), (19, .agg #[.string xName_9, .int .i64 xLeast_9, .int .i64 xMost_9]), (21, .agg #[.string xName_10, .int .i64 xLeast_10, .int .i64 xMost_10]), (23, .agg #[.string xName_11, .int .i64 xLeast_11, .int .i64 xMost_11])], ps (by kernel_rfl), ?_⟩
 refine N_run 1 [(0, .pointer (some (Addr.mk b 0 none))), (1, .func (.func 30) #[] #[]), (3, .agg #[.string xName, .int .i64 xLeast, .int .i64 xMost]), (5, .agg #[.string xName_2, .int .i64 xLeast_2, .int .i64 xMost_2]), (7, .agg #[.string xName_3, .int .i64 xLeast_3, .int .i64 xMost_3]), (9, .agg #[.string xName_4, .int .i64 xLeast_4, .int .i64 xMost_4]), (11, .agg #[.string xName_5, .int .i64 xLeast_5, .int .i64 xMost_5]), (13, .agg #[.string xName_6, .int .i64 xLeast_6, .int .i64 xMost_6]), (15, .agg #[.string xName_7, .int .i64 xLeast_7, .int .i64 xMost_7]), (17, .agg #[.string xName_8, .int .i64 xLeast_8, .int .i64 xMost_8]), (19, .agg #[.string xName_9, .int .i64 xLeast_9, .int .i64 xMost_9]), (21, .agg #[.string xName_10, .int .i64 xLeast_10, .int .i64 xMost_10]), (23, .agg #[.string xName_11, .int .i64 xLeast_11, .int .i64 xMost_11]), (24, .func (.func 30) #[] #[])] (fun _=>by kernel_rfl) ?_
 refine N_call (some 25) 30 #[.string (ByteArray.mk #[108, 105, 115, 116, 63]), .int .i64 1] (fun _=>by kernel_rfl) h ?_; clear h
 rintro v_12 H13 ⟨xName_12, xLeast_12, xMost_12, rfl, h⟩
 refine ⟨[(0, .pointer (some (Addr.mk b 0 none))), (1, .func (.func 30) #[] #[]), (3, .agg #[.string xName, .int .i64 xLeast, .int .i64 xMost]), (5, .agg #[.string xName_2, .int .i64 xLeast_2, .int .i64 xMost_2]), (7, .agg #[.string xName_3, .int .i64 xLeast_3, .int .i64 xMost_3]), (9, .agg #[.string xName_4, .int .i64 xLeast_4, .int .i64 xMost_4]), (11, .agg #[.string xName_5, .int .i64 xLeast_5, .int .i64 xMost_5]), (13, .agg #[.string xName_6, .int .i64 xLeast_6, .int .i64 xMost_6]), (15, .agg #[.string xName_7, .int .i64 xLeast_7, .int .i64 xMost_7]), (17, .agg #[.string xName_8, .int .i64 xLeast_8, .int .i64 xMost_8]), (19, .agg #[.string xName_9, .int .i64 xLeast_9, .int .i64 xMost_9]), (21, .agg #[.string xName_10, .int .i64 xLeast_10, .int .i64 xMost_10]), (23, .agg #[.string xName_11, .int .i64 xLeast_11, .int .i64 xMost_11]), (25, .agg #[.string xName_12, .int .i64 xLeast_12, .int .i64 xMost_12])], ps (by kernel_rfl), ?_⟩
 refine N_run 2 [(0, .pointer (some (Addr.mk b 0 none))), (1, .func (.func 30) #[] #[]), (3, .agg #[.string xName, .int .i64 xLeast, .int .i64 xMost]), (5, .agg #[.string xName_2, .int .i64 xLeast_2, .int .i64 xMost_2]), (7, .agg #[.string xName_3, .int .i64 xLeast_3, .int .i64 xMost_3]), (9, .agg #[.string xName_4, .int .i64 xLeast_4, .int .i64 xMost_4]), (11, .agg #[.string xName_5, .int .i64 xLeast_5, .int .i64 xMost_5]), (13, .agg #[.string xName_6, .int .i64 xLeast_6, .int .i64 xMost_6]), (15, .agg #[.string xName_7, .int .i64 xLeast_7, .int .i64 xMost_7]), (17, .agg #[.string xName_8, .int .i64 xLeast_8, .int .i64 xMost_8]), (19, .agg #[.string xName_9, .int .i64 xLeast_9, .int .i64 xMost_9]), (21, .agg #[.string xName_10, .int .i64 xLeast_10, .int .i64 xMost_10]), (23, .agg #[.string xName_11, .int .i64 xLeast_11, .int .i64 xMost_11]), (25, .agg #[.string xName_12, .int .i64 xLeast_12, .int .i64 xMost_12]), (26, .agg #[.string (ByteArray.mk #[108, 105, 115, 116]), .int .i64 0, .int .i64 (-1)]), (27, .func (.func 30) #[] #[])] (fun _=>by kernel_rfl) ?_
 refine N_call (some 28) 30 #[.string (ByteArray.mk #[108, 101, 110, 103, 116, 104]), .int .i64 1] (fun _=>by kernel_rfl) h ?_; clear h
 rintro v_13 H14 ⟨xName_13, xLeast_13, xMost_13, rfl, h⟩
 refine ⟨[(0, .pointer (some (Addr.mk b 0 none))), (1, .func (.func 30) #[] #[]), (3, .agg #[.string xName, .int .i64 xLeast, .int .i64 xMost]), (5, .agg #[.string xName_2, .int .i64 xLeast_2, .int .i64 xMost_2]), (7, .agg #[.string xName_3, .int .i64 xLeast_3, .int .i64 xMost_3]), (9, .agg #[.string xName_4, .int .i64 xLeast_4, .int .i64 xMost_4]), (11, .agg #[.string xName_5, .int .i64 xLeast_5, .int .i64 xMost_5]), (13, .agg #[.string xName_6, .int .i64 xLeast_6, .int .i64 xMost_6]), (15, .agg #[.string xName_7, .int .i64 xLeast_7, .int .i64 xMost_7]), (17, .agg #[.string xName_8, .int .i64 xLeast_8, .int .i64 xMost_8]), (19, .agg #[.string xName_9, .int .i64 xLeast_9, .int .i64 xMost_9]), (21, .agg #[.string xName_10, .int .i64 xLeast_10, .int .i64 xMost_10]), (23, .agg #[.string xName_11, .int .i64 xLeast_11, .int .i64 xMost_11]), (25, .agg #[.string xName_12, .int .i64 xLeast_12, .int .i64 xMost_12]), (26, .agg #[.string (ByteArray.mk #[108, 105, 115, 116]), .int .i64 0, .int .i64 (-1)]), (28, .agg #[.string xName_13, .int .i64 xLeast_13, .int .i64 xMost_13])], ps (by kernel_rfl), ?_⟩
 refine N_run 2 [(0, .pointer (some (Addr.mk b 0 none))), (1, .func (.func 30) #[] #[]), (3, .agg #[.string xName, .int .i64 xLeast, .int .i64 xMost]), (5, .agg #[.string xName_2, .int .i64 xLeast_2, .int .i64 xMost_2]), (7, .agg #[.string xName_3, .int .i64 xLeast_3, .int .i64 xMost_3]), (9, .agg #[.string xName_4, .int .i64 xLeast_4, .int .i64 xMost_4]), (11, .agg #[.string xName_5, .int .i64 xLeast_5, .int .i64 xMost_5]), (13, .agg #[.string xName_6, .int .i64 xLeast_6, .int .i64 xMost_6]), (15, .agg #[.string xName_7, .int .i64 xLeast_7, .int .i64 xMost_7]), (17, .agg #[.string xName_8, .int .i64 xLeast_8, .int .i64 xMost_8]), (19, .agg #[.string xName_9, .int .i64 xLeast_9, .int .i64 xMost_9]), (21, .agg #[.string xName_10, .int .i64 xLeast_10, .int .i64 xMost_10]), (23, .agg #[.string xName_11, .int .i64 xLeast_11, .int .i64 xMost_11]), (25, .agg #[.string xName_12, .int .i64 xLeast_12, .int .i64 xMost_12]), (26, .agg #[.string (ByteArray.mk #[108, 105, 115, 116]), .int .i64 0, .int .i64 (-1)]), (28, .agg #[.string xName_13, .int .i64 xLeast_13, .int .i64 xMost_13]), (29, .agg #[.string (ByteArray.mk #[97, 112, 112, 101, 110, 100]), .int .i64 0, .int .i64 (-1)]), (30, .func (.func 30) #[] #[])] (fun _=>by kernel_rfl) ?_
 refine N_call (some 31) 30 #[.string (ByteArray.mk #[114, 101, 118, 101, 114, 115, 101]), .int .i64 1] (fun _=>by kernel_rfl) h ?_; clear h
 rintro v_14 H15 ⟨xName_14, xLeast_14, xMost_14, rfl, h⟩
 refine ⟨[(0, .pointer (some (Addr.mk b 0 none))), (1, .func (.func 30) #[] #[]), (3, .agg #[.string xName, .int .i64 xLeast, .int .i64 xMost]), (5, .agg #[.string xName_2, .int .i64 xLeast_2, .int .i64 xMost_2]), (7, .agg #[.string xName_3, .int .i64 xLeast_3, .int .i64 xMost_3]), (9, .agg #[.string xName_4, .int .i64 xLeast_4, .int .i64 xMost_4]), (11, .agg #[.string xName_5, .int .i64 xLeast_5, .int .i64 xMost_5]), (13, .agg #[.string xName_6, .int .i64 xLeast_6, .int .i64 xMost_6]), (15, .agg #[.string xName_7, .int .i64 xLeast_7, .int .i64 xMost_7]), (17, .agg #[.string xName_8, .int .i64 xLeast_8, .int .i64 xMost_8]), (19, .agg #[.string xName_9, .int .i64 xLeast_9, .int .i64 xMost_9]), (21, .agg #[.string xName_10, .int .i64 xLeast_10, .int .i64 xMost_10]), (23, .agg #[.string xName_11, .int .i64 xLeast_11, .int .i64 xMost_11]), (25, .agg #[.string xName_12, .int .i64 xLeast_12, .int .i64 xMost_12]), (26, .agg #[.string (ByteArray.mk #[108, 105, 115, 116]), .int .i64 0, .int .i64 (-1)]), (28, .agg #[.string xName_13, .int .i64 xLeast_13, .int .i64 xMost_13]), (29, .agg #[.string (ByteArray.mk #[97, 112, 112, 101, 110, 100]), .int .i64 0, .int .i64 (-1)]), (31, .agg #[.string xName_14, .int .i64 xLeast_14, .int .i64 xMost_14])], ps (by kernel_rfl), ?_⟩
 refine N_run 1 [(0, .pointer (some (Addr.mk b 0 none))), (1, .func (.func 30) #[] #[]), (3, .agg #[.string xName, .int .i64 xLeast, .int .i64 xMost]), (5, .agg #[.string xName_2, .int .i64 xLeast_2, .int .i64 xMost_2]), (7, .agg #[.string xName_3, .int .i64 xLeast_3, .int .i64 xMost_3]), (9, .agg #[.string xName_4, .int .i64 xLeast_4, .int .i64 xMost_4]), (11, .agg #[.string xName_5, .int .i64 xLeast_5, .int .i64 xMost_5]), (13, .agg #[.string xName_6, .int .i64 xLeast_6, .int .i64 xMost_6]), (15, .agg #[.string xName_7, .int .i64 xLeast_7, .int .i64 xMost_7]), (17, .agg #[.string xName_8, .int .i64 xLeast_8, .int .i64 xMost_8]), (19, .agg #[.string xName_9, .int .i64 xLeast_9, .int .i64 xMost_9]), (21, .agg #[.string xName_10, .int .i64 xLeast_10, .int .i64 xMost_10]), (23, .agg #[.string xName_11, .int .i64 xLeast_11, .int .i64 xMost_11]), (25, .agg #[.string xName_12, .int .i64 xLeast_12, .int .i64 xMost_12]), (26, .agg #[.string (ByteArray.mk #[108, 105, 115, 116]), .int .i64 0, .int .i64 (-1)]), (28, .agg #[.string xName_13, .int .i64 xLeast_13, .int .i64 xMost_13]), (29, .agg #[.string (ByteArray.mk #[97, 112, 112, 101, 110, 100]), .int .i64 0, .int .i64 (-1)]), (31, .agg #[.string xName_14, .int .i64 xLeast_14, .int .i64 xMost_14]), (32, .func (.func 30) #[] #[])] (fun _=>by kernel_rfl) ?_
 refine N_call (some 33) 30 #[.string (ByteArray.mk #[108, 105, 115, 116, 45, 116, 97, 105, 108]), .int .i64 2] (fun _=>by kernel_rfl) h ?_; clear h
 rintro v_15 H16 ⟨xName_15, xLeast_15, xMost_15, rfl, h⟩
 refine ⟨[(0, .pointer (some (Addr.mk b 0 none))), (1, .func (.func 30) #[] #[]), (3, .agg #[.string xName, .int .i64 xLeast, .int .i64 xMost]), (5, .agg #[.string xName_2, .int .i64 xLeast_2, .int .i64 xMost_2]), (7, .agg #[.string xName_3, .int .i64 xLeast_3, .int .i64 xMost_3]), (9, .agg #[.string xName_4, .int .i64 xLeast_4, .int .i64 xMost_4]), (11, .agg #[.string xName_5, .int .i64 xLeast_5, .int .i64 xMost_5]), (13, .agg #[.string xName_6, .int .i64 xLeast_6, .int .i64 xMost_6]), (15, .agg #[.string xName_7, .int .i64 xLeast_7, .int .i64 xMost_7]), (17, .agg #[.string xName_8, .int .i64 xLeast_8, .int .i64 xMost_8]), (19, .agg #[.string xName_9, .int .i64 xLeast_9, .int .i64 xMost_9]), (21, .agg #[.string xName_10, .int .i64 xLeast_10, .int .i64 xMost_10]), (23, .agg #[.string xName_11, .int .i64 xLeast_11, .int .i64 xMost_11]), (25, .agg #[.string xName_12, .int .i64 xLeast_12, .int .i64 xMost_12]), (26, .agg #[.string (ByteArray.mk #[108, 105, 115, 116]), .int .i64 0, .int .i64 (-1)]), (28, .agg #[.string xName_13, .int .i64 xLeast_13, .int .i64 xMost_13]), (29, .agg #[.string (ByteArray.mk #[97, 112, 112, 101, 110, 100]), .int .i64 0, .int .i64 (-1)]), (31, .agg #[.string xName_14, .int .i64 xLeast_14, .int .i64 xMost_14]), (33, .agg #[.string xName_15, .int .i64 xLeast_15, .int .i64 xMost_15])], ps (by kernel_rfl), ?_⟩
 refine N_run 1 [(0, .pointer (some (Addr.mk b 0 none))), (1, .func (.func 30) #[] #[]), (3, .agg #[.string xName, .int .i64 xLeast, .int .i64 xMost]), (5, .agg #[.string xName_2, .int .i64 xLeast_2, .int .i64 xMost_2]), (7, .agg #[.string xName_3, .int .i64 xLeast_3, .int .i64 xMost_3]), (9, .agg #[.string xName_4, .int .i64 xLeast_4, .int .i64 xMost_4]), (11, .agg #[.string xName_5, .int .i64 xLeast_5, .int .i64 xMost_5]), (13, .agg #[.string xName_6, .int .i64 xLeast_6, .int .i64 xMost_6]), (15, .agg #[.string xName_7, .int .i64 xLeast_7, .int .i64 xMost_7]), (17, .agg #[.string xName_8, .int .i64 xLeast_8, .int .i64 xMost_8]), (19, .agg #[.string xName_9, .int .i64 xLeast_9, .int .i64 xMost_9]), (21, .agg #[.string xName_10, .int .i64 xLeast_10, .int .i64 xMost_10]), (23, .agg #[.string xName_11, .int .i64 xLeast_11, .int .i64 xMost_11]), (25, .agg #[.string xName_12, .int .i64 xLeast_12, .int .i64 xMost_12]), (26, .agg #[.string (ByteArray.mk #[108, 105, 115, 116]), .int .i64 0, .int .i64 (-1)]), (28, .agg #[.string xName_13, .int .i64 xLeast_13, .int .i64 xMost_13]), (29, .agg #[.string (ByteArray.mk #[97, 112, 112, 101, 110, 100]), .int .i64 0, .int .i64 (-1)]), (31, .agg #[.string xName_14, .int .i64 xLeast_14, .int .i64 xMost_14]), (33, .agg #[.string xName_15, .int .i64 xLeast_15, .int .i64 xMost_15]), (34, .func (.func 30) #[] #[])] (fun _=>by kernel_rfl) ?_
 refine N_call (some 35) 30 #[.string (ByteArray.mk #[108, 105, 115, 116, 45, 114, 101, 102]), .int .i64 2] (fun _=>by kernel_rfl) h ?_; clear h
 rintro v_16 H17 ⟨xName_16, xLeast_16, xMost_16, rfl, h⟩
 refine ⟨[(0, .pointer (some (Addr.mk b 0 none))), (1, .func (.func 30) #[] #[]), (3, .agg #[.string xName, .int .i64 xLeast, .int .i64 xMost]), (5, .agg #[.string xName_2, .int .i64 xLeast_2, .int .i64 xMost_2]), (7, .agg #[.string xName_3, .int .i64 xLeast_3, .int .i64 xMost_3]), (9, .agg #[.string xName_4, .int .i64 xLeast_4, .int .i64 xMost_4]), (11, .agg #[.string xName_5, .int .i64 xLeast_5, .int .i64 xMost_5]), (13, .agg #[.string xName_6, .int .i64 xLeast_6, .int .i64 xMost_6]), (15, .agg #[.string xName_7, .int .i64 xLeast_7, .int .i64 xMost_7]), (17, .agg #[.string xName_8, .int .i64 xLeast_8, .int .i64 xMost_8]), (19, .agg #[.string xName_9, .int .i64 xLeast_9, .int .i64 xMost_9]), (21, .agg #[.string xName_10, .int .i64 xLeast_10, .int .i64 xMost_10]), (23, .agg #[.string xName_11, .int .i64 xLeast_11, .int .i64 xMost_11]), (25, .agg #[.string xName_12, .int .i64 xLeast_12, .int .i64 xMost_12]), (26, .agg #[.string (ByteArray.mk #[108, 105, 115, 116]), .int .i64 0, .int .i64 (-1)]), (28, .agg #[.string xName_13, .int .i64 xLeast_13, .int .i64 xMost_13]), (29, .agg #[.string (ByteArray.mk #[97, 112, 112, 101, 110, 100]), .int .i64 0, .int .i64 (-1)]), (31, .agg #[.string xName_14, .int .i64 xLeast_14, .int .i64 xMost_14]), (33, .agg #[.string xName_15, .int .i64 xLeast_15, .int .i64 xMost_15]), (35, .agg #[.string xName_16, .int .i64 xLeast_16, .int .i64 xMost_16])], ps (by kernel_rfl), ?_⟩
 refine N_run 1 [(0, .pointer (some (Addr.mk b 0 none))), (1, .func (.func 30) #[] #[]), (3, .agg #[.string xName, .int .i64 xLeast, .int .i64 xMost]), (5, .agg #[.string xName_2, .int .i64 xLeast_2, .int .i64 xMost_2]), (7, .agg #[.string xName_3, .int .i64 xLeast_3, .int .i64 xMost_3]), (9, .agg #[.string xName_4, .int .i64 xLeast_4, .int .i64 xMost_4]), (11, .agg #[.string xName_5, .int .i64 xLeast_5, .int .i64 xMost_5]), (13, .agg #[.string xName_6, .int .i64 xLeast_6, .int .i64 xMost_6]), (15, .agg #[.string xName_7, .int .i64 xLeast_7, .int .i64 xMost_7]), (17, .agg #[.string xName_8, .int .i64 xLeast_8, .int .i64 xMost_8]), (19, .agg #[.string xName_9, .int .i64 xLeast_9, .int .i64 xMost_9]), (21, .agg #[.string xName_10, .int .i64 xLeast_10, .int .i64 xMost_10]), (23, .agg #[.string xName_11, .int .i64 xLeast_11, .int .i64 xMost_11]), (25, .agg #[.string xName_12, .int .i64 xLeast_12, .int .i64 xMost_12]), (26, .agg #[.string (ByteArray.mk #[108, 105, 115, 116]), .int .i64 0, .int .i64 (-1)]), (28, .agg #[.string xName_13, .int .i64 xLeast_13, .int .i64 xMost_13]), (29, .agg #[.string (ByteArray.mk #[97, 112, 112, 101, 110, 100]), .int .i64 0, .int .i64 (-1)]), (31, .agg #[.string xName_14, .int .i64 xLeast_14, .int .i64 xMost_14]), (33, .agg #[.string xName_15, .int .i64 xLeast_15, .int .i64 xMost_15]), (35, .agg #[.string xName_16, .int .i64 xLeast_16, .int .i64 xMost_16]), (36, .func (.func 30) #[] #[])] (fun _=>by kernel_rfl) ?_
 refine N_call (some 37) 30 #[.string (ByteArray.mk #[109, 101, 109, 113]), .int .i64 2] (fun _=>by kernel_rfl) h ?_; clear h
 rintro v_17 H18 ⟨xName_17, xLeast_17, xMost_17, rfl, h⟩
 refine ⟨[(0, .pointer (some (Addr.mk b 0 none))), (1, .func (.func 30) #[] #[]), (3, .agg #[.string xName, .int .i64 xLeast, .int .i64 xMost]), (5, .agg #[.string xName_2, .int .i64 xLeast_2, .int .i64 xMost_2]), (7, .agg #[.string xName_3, .int .i64 xLeast_3, .int .i64 xMost_3]), (9, .agg #[.string xName_4, .int .i64 xLeast_4, .int .i64 xMost_4]), (11, .agg #[.string xName_5, .int .i64 xLeast_5, .int .i64 xMost_5]), (13, .agg #[.string xName_6, .int .i64 xLeast_6, .int .i64 xMost_6]), (15, .agg #[.string xName_7, .int .i64 xLeast_7, .int .i64 xMost_7]), (17, .agg #[.string xName_8, .int .i64 xLeast_8, .int .i64 xMost_8]), (19, .agg #[.string xName_9, .int .i64 xLeast_9, .int .i64 xMost_9]), (21, .agg #[.string xName_10, .int .i64 xLeast_10, .int .i64 xMost_10]), (23, .agg #[.string xName_11, .int .i64 xLeast_11, .int .i64 xMost_11]), (25, .agg #[.string xName_12, .int .i64 xLeast_12, .int .i64 xMost_12]), (26, .agg #[.string (ByteArray.mk #[108, 105, 115, 116]), .int .i64 0, .int .i64 (-1)]), (28, .agg #[.string xName_13, .int .i64 xLeast_13, .int .i64 xMost_13]), (29, .agg #[.string (ByteArray.mk #[97, 112, 112, 101, 110, 100]), .int .i64 0, .int .i64 (-1)]), (31, .agg #[.string xName_14, .int .i64 xLeast_14, .int .i64 xMost_14]), (33, .agg #[.string xName_15, .int .i64 xLeast_15, .int .i64 xMost_15]), (35, .agg #[.string xName_16, .int .i64 xLeast_16, .int .i64 xMost_16]), (37, .agg #[.string xName_17, .int .i64 xLeast_17, .int .i64 xMost_17])], ps (by kernel_rfl), ?_⟩
 refine N_run 1 [(0, .pointer (some (Addr.mk b 0 none))), (1, .func (.func 30) #[] #[]), (3, .agg #[.string xName, .int .i64 xLeast, .int .i64 xMost]), (5, .agg #[.string xName_2, .int .i64 xLeast_2, .int .i64 xMost_2]), (7, .agg #[.string xName_3, .int .i64 xLeast_3, .int .i64 xMost_3]), (9, .agg #[.string xName_4, .int .i64 xLeast_4, .int .i64 xMost_4]), (11, .agg #[.string xName_5, .int .i64 xLeast_5, .int .i64 xMost_5]), (13, .agg #[.string xName_6, .int .i64 xLeast_6, .int .i64 xMost_6]), (15, .agg #[.string xName_7, .int .i64 xLeast_7, .int .i64 xMost_7]), (17, .agg #[.string xName_8, .int .i64 xLeast_8, .int .i64 xMost_8]), (19, .agg #[.string xName_9, .int .i64 xLeast_9, .int .i64 xMost_9]), (21, .agg #[.string xName_10, .int .i64 xLeast_10, .int .i64 xMost_10]), (23, .agg #[.string xName_11, .int .i64 xLeast_11, .int .i64 xMost_11]), (25, .agg #[.string xName_12, .int .i64 xLeast_12, .int .i64 xMost_12]), (26, .agg #[.string (ByteArray.mk #[108, 105, 115, 116]), .int .i64 0, .int .i64 (-1)]), (28, .agg #[.string xName_13, .int .i64 xLeast_13, .int .i64 xMost_13]), (29, .agg #[.string (ByteArray.mk #[97, 112, 112, 101, 110, 100]), .int .i64 0, .int .i64 (-1)]), (31, .agg #[.string xName_14, .int .i64 xLeast_14, .int .i64 xMost_14]), (33, .agg #[.string xName_15, .int .i64 xLeast_15, .int .i64 xMost_15]), (35, .agg #[.string xName_16, .int .i64 xLeast_16, .int .i64 xMost_16]), (37, .agg #[.string xName_17, .int .i64 xLeast_17, .int .i64 xMost_17]), (38, .func (.func 30) #[] #[])] (fun _=>by kernel_rfl) ?_
 refine N_call (some 39) 30 #[.string (ByteArray.mk #[109, 101, 109, 118]), .int .i64 2] (fun _=>by kernel_rfl) h ?_; clear h
 rintro v_18 H19 ⟨xName_18, xLeast_18, xMost_18, rfl, h⟩
 refine ⟨[(0, .pointer (some (Addr.mk b 0 none))), (1, .func (.func 30) #[] #[]), (3, .agg #[.string xName, .int .i64 xLeast, .int .i64 xMost]), (5, .agg #[.string xName_2, .int .i64 xLeast_2, .int .i64 xMost_2]), (7, .agg #[.string xName_3, .int .i64 xLeast_3, .int .i64 xMost_3]), (9, .agg #[.string xName_4, .int .i64 xLeast_4, .int .i64 xMost_4]), (11, .agg #[.string xName_5, .int .i64 xLeast_5, .int .i64 xMost_5]), (13, .agg #[.string xName_6, .int .i64 xLeast_6, .int .i64 xMost_6]), (15, .agg #[.string xName_7, .int .i64 xLeast_7, .int .i64 xMost_7]), (17, .agg #[.string xName_8, .int .i64 xLeast_8, .int .i64 xMost_8]), (19, .agg #[.string xName_9, .int .i64 xLeast_9, .int .i64 xMost_9]), (21, .agg #[.string xName_10, .int .i64 xLeast_10, .int .i64 xMost_10]), (23, .agg #[.string xName_11, .int .i64 xLeast_11, .int .i64 xMost_11]), (25, .agg #[.string xName_12, .int .i64 xLeast_12, .int .i64 xMost_12]), (26, .agg #[.string (ByteArray.mk #[108, 105, 115, 116]), .int .i64 0, .int .i64 (-1)]), (28, .agg #[.string xName_13, .int .i64 xLeast_13, .int .i64 xMost_13]), (29, .agg #[.string (ByteArray.mk #[97, 112, 112, 101, 110, 100]), .int .i64 0, .int .i64 (-1)]), (31, .agg #[.string xName_14, .int .i64 xLeast_14, .int .i64 xMost_14]), (33, .agg #[.string xName_15, .int .i64 xLeast_15, .int .i64 xMost_15]), (35, .agg #[.string xName_16, .int .i64 xLeast_16, .int .i64 xMost_16]), (37, .agg #[.string xName_17, .int .i64 xLeast_17, .int .i64 xMost_17]), (39, .agg #[.string xName_18, .int .i64 xLeast_18, .int .i64 xMost_18])], ps (by kernel_rfl), ?_⟩
 refine N_run 1 [(0, .pointer (some (Addr.mk b 0 none))), (1, .func (.func 30) #[] #[]), (3, .agg #[.string xName, .int .i64 xLeast, .int .i64 xMost]), (5, .agg #[.string xName_2, .int .i64 xLeast_2, .int .i64 xMost_2]), (7, .agg #[.string xName_3, .int .i64 xLeast_3, .int .i64 xMost_3]), (9, .agg #[.string xName_4, .int .i64 xLeast_4, .int .i64 xMost_4]), (11, .agg #[.string xName_5, .int .i64 xLeast_5, .int .i64 xMost_5]), (13, .agg #[.string xName_6, .int .i64 xLeast_6, .int .i64 xMost_6]), (15, .agg #[.string xName_7, .int .i64 xLeast_7, .int .i64 xMost_7]), (17, .agg #[.string xName_8, .int .i64 xLeast_8, .int .i64 xMost_8]), (19, .agg #[.string xName_9, .int .i64 xLeast_9, .int .i64 xMost_9]), (21, .agg #[.string xName_10, .int .i64 xLeast_10, .int .i64 xMost_10]), (23, .agg #[.string xName_11, .int .i64 xLeast_11, .int .i64 xMost_11]), (25, .agg #[.string xName_12, .int .i64 xLeast_12, .int .i64 xMost_12]), (26, .agg #[.string (ByteArray.mk #[108, 105, 115, 116]), .int .i64 0, .int .i64 (-1)]), (28, .agg #[.string xName_13, .int .i64 xLeast_13, .int .i64 xMost_13]), (29, .agg #[.string (ByteArray.mk #[97, 112, 112, 101, 110, 100]), .int .i64 0, .int .i64 (-1)]), (31, .agg #[.string xName_14, .int .i64 xLeast_14, .int .i64 xMost_14]), (33, .agg #[.string xName_15, .int .i64 xLeast_15, .int .i64 xMost_15]), (35, .agg #[.string xName_16, .int .i64 xLeast_16, .int .i64 xMost_16]), (37, .agg #[.string xName_17, .int .i64 xLeast_17, .int .i64 xMost_17]), (39, .agg #[.string xName_18, .int .i64 xLeast_18, .int .i64 xMost_18]), (40, .func (.func 30) #[] #[])] (fun _=>by kernel_rfl) ?_
 refine N_call (some 41) 30 #[.string (ByteArray.mk #[109, 101, 109, 98, 101, 114]), .int .i64 2] (fun _=>by kernel_rfl) h ?_; clear h
 rintro v_19 H20 ⟨xName_19, xLeast_19, xMost_19, rfl, h⟩
 refine ⟨[(0, .pointer (some (Addr.mk b 0 none))), (1, .func (.func 30) #[] #[]), (3, .agg #[.string xName, .int .i64 xLeast, .int .i64 xMost]), (5, .agg #[.string xName_2, .int .i64 xLeast_2, .int .i64 xMost_2]), (7, .agg #[.string xName_3, .int .i64 xLeast_3, .int .i64 xMost_3]), (9, .agg #[.string xName_4, .int .i64 xLeast_4, .int .i64 xMost_4]), (11, .agg #[.string xName_5, .int .i64 xLeast_5, .int .i64 xMost_5]), (13, .agg #[.string xName_6, .int .i64 xLeast_6, .int .i64 xMost_6]), (15, .agg #[.string xName_7, .int .i64 xLeast_7, .int .i64 xMost_7]), (17, .agg #[.string xName_8, .int .i64 xLeast_8, .int .i64 xMost_8]), (19, .agg #[.string xName_9, .int .i64 xLeast_9, .int .i64 xMost_9]), (21, .agg #[.string xName_10, .int .i64 xLeast_10, .int .i64 xMost_10]), (23, .agg #[.string xName_11, .int .i64 xLeast_11, .int .i64 xMost_11]), (25, .agg #[.string xName_12, .int .i64 xLeast_12, .int .i64 xMost_12]), (26, .agg #[.string (ByteArray.mk #[108, 105, 115, 116]), .int .i64 0, .int .i64 (-1)]), (28, .agg #[.string xName_13, .int .i64 xLeast_13, .int .i64 xMost_13]), (29, .agg #[.string (ByteArray.mk #[97, 112, 112, 101, 110, 100]), .int .i64 0, .int .i64 (-1)]), (31, .agg #[.string xName_14, .int .i64 xLeast_14, .int .i64 xMost_14]), (33, .agg #[.string xName_15, .int .i64 xLeast_15, .int .i64 xMost_15]), (35, .agg #[.string xName_16, .int .i64 xLeast_16, .int .i64 xMost_16]), (37, .agg #[.string xName_17, .int .i64 xLeast_17, .int .i64 xMost_17]), (39, .agg #[.string xName_18, .int .i64 xLeast_18, .int .i64 xMost_18]), (41, .agg #[.string xName_19, .int .i64 xLeast_19, .int .i64 xMost_19])], ps (by kernel_rfl), ?_⟩
 refine N_run 1 [(0, .pointer (some (Addr.mk b 0 none))), (1, .func (.func 30) #[] #[]), (3, .agg #[.string xName, .int .i64 xLeast, .int .i64 xMost]), (5, .agg #[.string xName_2, .int .i64 xLeast_2, .int .i64 xMost_2]), (7, .agg #[.string xName_3, .int .i64 xLeast_3, .int .i64 xMost_3]), (9, .agg #[.string xName_4, .int .i64 xLeast_4, .int .i64 xMost_4]), (11, .agg #[.string xName_5, .int .i64 xLeast_5, .int .i64 xMost_5]), (13, .agg #[.string xName_6, .int .i64 xLeast_6, .int .i64 xMost_6]), (15, .agg #[.string xName_7, .int .i64 xLeast_7, .int .i64 xMost_7]), (17, .agg #[.string xName_8, .int .i64 xLeast_8, .int .i64 xMost_8]), (19, .agg #[.string xName_9, .int .i64 xLeast_9, .int .i64 xMost_9]), (21, .agg #[.string xName_10, .int .i64 xLeast_10, .int .i64 xMost_10]), (23, .agg #[.string xName_11, .int .i64 xLeast_11, .int .i64 xMost_11]), (25, .agg #[.string xName_12, .int .i64 xLeast_12, .int .i64 xMost_12]), (26, .agg #[.string (ByteArray.mk #[108, 105, 115, 116]), .int .i64 0, .int .i64 (-1)]), (28, .agg #[.string xName_13, .int .i64 xLeast_13, .int .i64 xMost_13]), (29, .agg #[.string (ByteArray.mk #[97, 112, 112, 101, 110, 100]), .int .i64 0, .int .i64 (-1)]), (31, .agg #[.string xName_14, .int .i64 xLeast_14, .int .i64 xMost_14]), (33, .agg #[.string xName_15, .int .i64 xLeast_15, .int .i64 xMost_15]), (35, .agg #[.string xName_16, .int .i64 xLeast_16, .int .i64 xMost_16]), (37, .agg #[.string xName_17, .int .i64 xLeast_17, .int .i64 xMost_17]), (39, .agg #[.string xName_18, .int .i64 xLeast_18, .int .i64 xMost_18]), (41, .agg #[.string xName_19, .int .i64 xLeast_19, .int .i64 xMost_19]), (42, .func (.func 30) #[] #[])] (fun _=>by kernel_rfl) ?_
 refine N_call (some 43) 30 #[.string (ByteArray.mk #[97, 115, 115, 113]), .int .i64 2] (fun _=>by kernel_rfl) h ?_; clear h
 rintro v_20 H21 ⟨xName_20, xLeast_20, xMost_20, rfl, h⟩
 refine ⟨[(0, .pointer (some (Addr.mk b 0 none))), (1, .func (.func 30) #[] #[]), (3, .agg #[.string xName, .int .i64 xLeast, .int .i64 xMost]), (5, .agg #[.string xName_2, .int .i64 xLeast_2, .int .i64 xMost_2]), (7, .agg #[.string xName_3, .int .i64 xLeast_3, .int .i64 xMost_3]), (9, .agg #[.string xName_4, .int .i64 xLeast_4, .int .i64 xMost_4]), (11, .agg #[.string xName_5, .int .i64 xLeast_5, .int .i64 xMost_5]), (13, .agg #[.string xName_6, .int .i64 xLeast_6, .int .i64 xMost_6]), (15, .agg #[.string xName_7, .int .i64 xLeast_7, .int .i64 xMost_7]), (17, .agg #[.string xName_8, .int .i64 xLeast_8, .int .i64 xMost_8]), (19, .agg #[.string xName_9, .int .i64 xLeast_9, .int .i64 xMost_9]), (21, .agg #[.string xName_10, .int .i64 xLeast_10, .int .i64 xMost_10]), (23, .agg #[.string xName_11, .int .i64 xLeast_11, .int .i64 xMost_11]), (25, .agg #[.string xName_12, .int .i64 xLeast_12, .int .i64 xMost_12]), (26, .agg #[.string (ByteArray.mk #[108, 105, 115, 116]), .int .i64 0, .int .i64 (-1)]), (28, .agg #[.string xName_13, .int .i64 xLeast_13, .int .i64 xMost_13]), (29, .agg #[.string (ByteArray.mk #[97, 112, 112, 101, 110, 100]), .int .i64 0, .int .i64 (-1)]), (31, .agg #[.string xName_14, .int .i64 xLeast_14, .int .i64 xMost_14]), (33, .agg #[.string xName_15, .int .i64 xLeast_15, .int .i64 xMost_15]), (35, .agg #[.string xName_16, .int .i64 xLeast_16, .int .i64 xMost_16]), (37, .agg #[.string xName_17, .int .i64 xLeast_17, .int .i64 xMost_17]), (39, .agg #[.string xName_18, .int .i64 xLeast_18, .int .i64 xMost_18]), (41, .agg #[.string xName_19, .int .i64 xLeast_19, .int .i64 xMost_19]), (43, .agg #[.string xName_20, .int .i64 xLeast_20, .int .i64 xMost_20])], ps (by kernel_rfl), ?_⟩
 refine N_run 1 [(0, .pointer (some (Addr.mk b 0 none))), (1, .func (.func 30) #[] #[]), (3, .agg #[.string xName, .int .i64 xLeast, .int .i64 xMost]), (5, .agg #[.string xName_2, .int .i64 xLeast_2, .int .i64 xMost_2]), (7, .agg #[.string xName_3, .int .i64 xLeast_3, .int .i64 xMost_3]), (9, .agg #[.string xName_4, .int .i64 xLeast_4, .int .i64 xMost_4]), (11, .agg #[.string xName_5, .int .i64 xLeast_5, .int .i64 xMost_5]), (13, .agg #[.string xName_6, .int .i64 xLeast_6, .int .i64 xMost_6]), (15, .agg #[.string xName_7, .int .i64 xLeast_7, .int .i64 xMost_7]), (17, .agg #[.string xName_8, .int .i64 xLeast_8, .int .i64 xMost_8]), (19, .agg #[.string xName_9, .int .i64 xLeast_9, .int .i64 xMost_9]), (21, .agg #[.string xName_10, .int .i64 xLeast_10, .int .i64 xMost_10]), (23, .agg #[.string xName_11, .int .i64 xLeast_11, .int .i64 xMost_11]), (25, .agg #[.string xName_12, .int .i64 xLeast_12, .int .i64 xMost_12]), (26, .agg #[.string (ByteArray.mk #[108, 105, 115, 116]), .int .i64 0, .int .i64 (-1)]), (28, .agg #[.string xName_13, .int .i64 xLeast_13, .int .i64 xMost_13]), (29, .agg #[.string (ByteArray.mk #[97, 112, 112, 101, 110, 100]), .int .i64 0, .int .i64 (-1)]), (31, .agg #[.string xName_14, .int .i64 xLeast_14, .int .i64 xMost_14]), (33, .agg #[.string xName_15, .int .i64 xLeast_15, .int .i64 xMost_15]), (35, .agg #[.string xName_16, .int .i64 xLeast_16, .int .i64 xMost_16]), (37, .agg #[.string xName_17, .int .i64 xLeast_17, .int .i64 xMost_17]), (39, .agg #[.string xName_18, .int .i64 xLeast_18, .int .i64 xMost_18]), (41, .agg #[.string xName_19, .int .i64 xLeast_19, .int .i64 xMost_19]), (43, .agg #[.string xName_20, .int .i64 xLeast_20, .int .i64 xMost_20]), (44, .func (.func 30) #[] #[])] (fun _=>by kernel_rfl) ?_
 refine N_call (some 45) 30 #[.string (ByteArray.mk #[97, 115, 115, 118]), .int .i64 2] (fun _=>by kernel_rfl) h ?_; clear h
 rintro v_21 H22 ⟨xName_21, xLeast_21, xMost_21, rfl, h⟩
 refine ⟨[(0, .pointer (some (Addr.mk b 0 none))), (1, .func (.func 30) #[] #[]), (3, .agg #[.string xName, .int .i64 xLeast, .int .i64 xMost]), (5, .agg #[.string xName_2, .int .i64 xLeast_2, .int .i64 xMost_2]), (7, .agg #[.string xName_3, .int .i64 xLeast_3, .int .i64 xMost_3]), (9, .agg #[.string xName_4, .int .i64 xLeast_4, .int .i64 xMost_4]), (11, .agg #[.string xName_5, .int .i64 xLeast_5, .int .i64 xMost_5]), (13, .agg #[.string xName_6, .int .i64 xLeast_6, .int .i64 xMost_6]), (15, .agg #[.string xName_7, .int .i64 xLeast_7, .int .i64 xMost_7]), (17, .agg #[.string xName_8, .int .i64 xLeast_8, .int .i64 xMost_8]), (19, .agg #[.string xName_9, .int .i64 xLeast_9, .int .i64 xMost_9]), (21, .agg #[.string xName_10, .int .i64 xLeast_10, .int .i64 xMost_10]), (23, .agg #[.string xName_11, .int .i64 xLeast_11, .int .i64 xMost_11]), (25, .agg #[.string xName_12, .int .i64 xLeast_12, .int .i64 xMost_12]), (26, .agg #[.string (ByteArray.mk #[108, 105, 115, 116]), .int .i64 0, .int .i64 (-1)]), (28, .agg #[.string xName_13, .int .i64 xLeast_13, .int .i64 xMost_13]), (29, .agg #[.string (ByteArray.mk #[97, 112, 112, 101, 110, 100]), .int .i64 0, .int .i64 (-1)]), (31, .agg #[.string xName_14, .int .i64 xLeast_14, .int .i64 xMost_14]), (33, .agg #[.string xName_15, .int .i64 xLeast_15, .int .i64 xMost_15]), (35, .agg #[.string xName_16, .int .i64 xLeast_16, .int .i64 xMost_16]), (37, .agg #[.string xName_17, .int .i64 xLeast_17, .int .i64 xMost_17]), (39, .agg #[.string xName_18, .int .i64 xLeast_18, .int .i64 xMost_18]), (41, .agg #[.string xName_19, .int .i64 xLeast_19, .int .i64 xMost_19]), (43, .agg #[.string xName_20, .int .i64 xLeast_20, .int .i64 xMost_20]), (45, .agg #[.string xName_21, .int .i64 xLeast_21, .int .i64 xMost_21])], ps (by kernel_rfl), ?_⟩
 refine N_run 1 [(0, .pointer (some (Addr.mk b 0 none))), (1, .func (.func 30) #[] #[]), (3, .agg #[.string xName, .int .i64 xLeast, .int .i64 xMost]), (5, .agg #[.string xName_2, .int .i64 xLeast_2, .int .i64 xMost_2]), (7, .agg #[.string xName_3, .int .i64 xLeast_3, .int .i64 xMost_3]), (9, .agg #[.string xName_4, .int .i64 xLeast_4, .int .i64 xMost_4]), (11, .agg #[.string xName_5, .int .i64 xLeast_5, .int .i64 xMost_5]), (13, .agg #[.string xName_6, .int .i64 xLeast_6, .int .i64 xMost_6]), (15, .agg #[.string xName_7, .int .i64 xLeast_7, .int .i64 xMost_7]), (17, .agg #[.string xName_8, .int .i64 xLeast_8, .int .i64 xMost_8]), (19, .agg #[.string xName_9, .int .i64 xLeast_9, .int .i64 xMost_9]), (21, .agg #[.string xName_10, .int .i64 xLeast_10, .int .i64 xMost_10]), (23, .agg #[.string xName_11, .int .i64 xLeast_11, .int .i64 xMost_11]), (25, .agg #[.string xName_12, .int .i64 xLeast_12, .int .i64 xMost_12]), (26, .agg #[.string (ByteArray.mk #[108, 105, 115, 116]), .int .i64 0, .int .i64 (-1)]), (28, .agg #[.string xName_13, .int .i64 xLeast_13, .int .i64 xMost_13]), (29, .agg #[.string (ByteArray.mk #[97, 112, 112, 101, 110, 100]), .int .i64 0, .int .i64 (-1)]), (31, .agg #[.string xName_14, .int .i64 xLeast_14, .int .i64 xMost_14]), (33, .agg #[.string xName_15, .int .i64 xLeast_15, .int .i64 xMost_15]), (35, .agg #[.string xName_16, .int .i64 xLeast_16, .int .i64 xMost_16]), (37, .agg #[.string xName_17, .int .i64 xLeast_17, .int .i64 xMost_17]), (39, .agg #[.string xName_18, .int .i64 xLeast_18, .int .i64 xMost_18]), (41, .agg #[.string xName_19, .int .i64 xLeast_19, .int .i64 xMost_19]), (43, .agg #[.string xName_20, .int .i64 xLeast_20, .int .i64 xMost_20]), (45, .agg #[.string xName_21, .int .i64 xLeast_21, .int .i64 xMost_21]), (46, .func (.func 30) #[] #[])] (fun _=>by kernel_rfl) ?_
 refine N_call (some 47) 30 #[.string (ByteArray.mk #[97, 115, 115, 111, 99]), .int .i64 2] (fun _=>by kernel_rfl) h ?_; clear h
 rintro v_22 H23 ⟨xName_22, xLeast_22, xMost_22, rfl, h⟩
 refine ⟨[(0, .pointer (some (Addr.mk b 0 none))), (1, .func (.func 30) #[] #[]), (3, .agg #[.string xName, .int .i64 xLeast, .int .i64 xMost]), (5, .agg #[.string xName_2, .int .i64 xLeast_2, .int .i64 xMost_2]), (7, .agg #[.string xName_3, .int .i64 xLeast_3, .int .i64 xMost_3]), (9, .agg #[.string xName_4, .int .i64 xLeast_4, .int .i64 xMost_4]), (11, .agg #[.string xName_5, .int .i64 xLeast_5, .int .i64 xMost_5]), (13, .agg #[.string xName_6, .int .i64 xLeast_6, .int .i64 xMost_6]), (15, .agg #[.string xName_7, .int .i64 xLeast_7, .int .i64 xMost_7]), (17, .agg #[.string xName_8, .int .i64 xLeast_8, .int .i64 xMost_8]), (19, .agg #[.string xName_9, .int .i64 xLeast_9, .int .i64 xMost_9]), (21, .agg #[.string xName_10, .int .i64 xLeast_10, .int .i64 xMost_10]), (23, .agg #[.string xName_11, .int .i64 xLeast_11, .int .i64 xMost_11]), (25, .agg #[.string xName_12, .int .i64 xLeast_12, .int .i64 xMost_12]), (26, .agg #[.string (ByteArray.mk #[108, 105, 115, 116]), .int .i64 0, .int .i64 (-1)]), (28, .agg #[.string xName_13, .int .i64 xLeast_13, .int .i64 xMost_13]), (29, .agg #[.string (ByteArray.mk #[97, 112, 112, 101, 110, 100]), .int .i64 0, .int .i64 (-1)]), (31, .agg #[.string xName_14, .int .i64 xLeast_14, .int .i64 xMost_14]), (33, .agg #[.string xName_15, .int .i64 xLeast_15, .int .i64 xMost_15]), (35, .agg #[.string xName_16, .int .i64 xLeast_16, .int .i64 xMost_16]), (37, .agg #[.string xName_17, .int .i64 xLeast_17, .int .i64 xMost_17]), (39, .agg #[.string xName_18, .int .i64 xLeast_18, .int .i64 xMost_18]), (41, .agg #[.string xName_19, .int .i64 xLeast_19, .int .i64 xMost_19]), (43, .agg #[.string xName_20, .int .i64 xLeast_20, .int .i64 xMost_20]), (45, .agg #[.string xName_21, .int .i64 xLeast_21, .int .i64 xMost_21]), (47, .agg #[.string xName_22, .int .i64 xLeast_22, .int .i64 xMost_22])], ps (by kernel_rfl), ?_⟩
 refine N_run 1 [(0, .pointer (some (Addr.mk b 0 none))), (1, .func (.func 30) #[] #[]), (3, .agg #[.string xName, .int .i64 xLeast, .int .i64 xMost]), (5, .agg #[.string xName_2, .int .i64 xLeast_2, .int .i64 xMost_2]), (7, .agg #[.string xName_3, .int .i64 xLeast_3, .int .i64 xMost_3]), (9, .agg #[.string xName_4, .int .i64 xLeast_4, .int .i64 xMost_4]), (11, .agg #[.string xName_5, .int .i64 xLeast_5, .int .i64 xMost_5]), (13, .agg #[.string xName_6, .int .i64 xLeast_6, .int .i64 xMost_6]), (15, .agg #[.string xName_7, .int .i64 xLeast_7, .int .i64 xMost_7]), (17, .agg #[.string xName_8, .int .i64 xLeast_8, .int .i64 xMost_8]), (19, .agg #[.string xName_9, .int .i64 xLeast_9, .int .i64 xMost_9]), (21, .agg #[.string xName_10, .int .i64 xLeast_10, .int .i64 xMost_10]), (23, .agg #[.string xName_11, .int .i64 xLeast_11, .int .i64 xMost_11]), (25, .agg #[.string xName_12, .int .i64 xLeast_12, .int .i64 xMost_12]), (26, .agg #[.string (ByteArray.mk #[108, 105, 115, 116]), .int .i64 0, .int .i64 (-1)]), (28, .agg #[.string xName_13, .int .i64 xLeast_13, .int .i64 xMost_13]), (29, .agg #[.string (ByteArray.mk #[97, 112, 112, 101, 110, 100]), .int .i64 0, .int .i64 (-1)]), (31, .agg #[.string xName_14, .int .i64 xLeast_14, .int .i64 xMost_14]), (33, .agg #[.string xName_15, .int .i64 xLeast_15, .int .i64 xMost_15]), (35, .agg #[.string xName_16, .int .i64 xLeast_16, .int .i64 xMost_16]), (37, .agg #[.string xName_17, .int .i64 xLeast_17, .int .i64 xMost_17]), (39, .agg #[.string xName_18, .int .i64 xLeast_18, .int .i64 xMost_18]), (41, .agg #[.string xName_19, .int .i64 xLeast_19, .int .i64 xMost_19]), (43, .agg #[.string xName_20, .int .i64 xLeast_20, .int .i64 xMost_20]), (45, .agg #[.string xName_21, .int .i64 xLeast_21, .int .i64 xMost_21]), (47, .agg #[.string xName_22, .int .i64 xLeast_22, .int .i64 xMost_22]), (48, .func (.func 30) #[] #[])] (fun _=>by kernel_rfl) ?_
 refine N_call (some 49) 30 #[.string (ByteArray.mk #[101, 113, 63]), .int .i64 2] (fun _=>by kernel_rfl) h ?_; clear h
 rintro v_23 H24 ⟨xName_23, xLeast_23, xMost_23, rfl, h⟩
 refine ⟨[(0, .pointer (some (Addr.mk b 0 none))), (1, .func (.func 30) #[] #[]), (3, .agg #[.string xName, .int .i64 xLeast, .int .i64 xMost]), (5, .agg #[.string xName_2, .int .i64 xLeast_2, .int .i64 xMost_2]), (7, .agg #[.string xName_3, .int .i64 xLeast_3, .int .i64 xMost_3]), (9, .agg #[.string xName_4, .int .i64 xLeast_4, .int .i64 xMost_4]), (11, .agg #[.string xName_5, .int .i64 xLeast_5, .int .i64 xMost_5]), (13, .agg #[.string xName_6, .int .i64 xLeast_6, .int .i64 xMost_6]), (15, .agg #[.string xName_7, .int .i64 xLeast_7, .int .i64 xMost_7]), (17, .agg #[.string xName_8, .int .i64 xLeast_8, .int .i64 xMost_8]), (19, .agg #[.string xName_9, .int .i64 xLeast_9, .int .i64 xMost_9]), (21, .agg #[.string xName_10, .int .i64 xLeast_10, .int .i64 xMost_10]), (23, .agg #[.string xName_11, .int .i64 xLeast_11, .int .i64 xMost_11]), (25, .agg #[.string xName_12, .int .i64 xLeast_12, .int .i64 xMost_12]), (26, .agg #[.string (ByteArray.mk #[108, 105, 115, 116]), .int .i64 0, .int .i64 (-1)]), (28, .agg #[.string xName_13, .int .i64 xLeast_13, .int .i64 xMost_13]), (29, .agg #[.string (ByteArray.mk #[97, 112, 112, 101, 110, 100]), .int .i64 0, .int .i64 (-1)]), (31, .agg #[.string xName_14, .int .i64 xLeast_14, .int .i64 xMost_14]), (33, .agg #[.string xName_15, .int .i64 xLeast_15, .int .i64 xMost_15]), (35, .agg #[.string xName_16, .int .i64 xLeast_16, .int .i64 xMost_16]), (37, .agg #[.string xName_17, .int .i64 xLeast_17, .int .i64 xMost_17]), (39, .agg #[.string xName_18, .int .i64 xLeast_18, .int .i64 xMost_18]), (41, .agg #[.string xName_19, .int .i64 xLeast_19, .int .i64 xMost_19]), (43, .agg #[.string xName_20, .int .i64 xLeast_20, .int .i64 xMost_20]), (45, .agg #[.string xName_21, .int .i64 xLeast_21, .int .i64 xMost_21]), (47, .agg #[.string xName_22, .int .i64 xLeast_22, .int .i64 xMost_22]), (49, .agg #[.string xName_23, .int .i64 xLeast_23, .int .i64 xMost_23])], ps (by kernel_rfl), ?_⟩
 refine N_run 1 [(0, .pointer (some (Addr.mk b 0 none))), (1, .func (.func 30) #[] #[]), (3, .agg #[.string xName, .int .i64 xLeast, .int .i64 xMost]), (5, .agg #[.string xName_2, .int .i64 xLeast_2, .int .i64 xMost_2]), (7, .agg #[.string xName_3, .int .i64 xLeast_3, .int .i64 xMost_3]), (9, .agg #[.string xName_4, .int .i64 xLeast_4, .int .i64 xMost_4]), (11, .agg #[.string xName_5, .int .i64 xLeast_5, .int .i64 xMost_5]), (13, .agg #[.string xName_6, .int .i64 xLeast_6, .int .i64 xMost_6]), (15, .agg #[.string xName_7, .int .i64 xLeast_7, .int .i64 xMost_7]), (17, .agg #[.string xName_8, .int .i64 xLeast_8, .int .i64 xMost_8]), (19, .agg #[.string xName_9, .int .i64 xLeast_9, .int .i64 xMost_9]), (21, .agg #[.string xName_10, .int .i64 xLeast_10, .int .i64 xMost_10]), (23, .agg #[.string xName_11, .int .i64 xLeast_11, .int .i64 xMost_11]), (25, .agg #[.string xName_12, .int .i64 xLeast_12, .int .i64 xMost_12]), (26, .agg #[.string (ByteArray.mk #[108, 105, 115, 116]), .int .i64 0, .int .i64 (-1)]), (28, .agg #[.string xName_13, .int .i64 xLeast_13, .int .i64 xMost_13]), (29, .agg #[.string (ByteArray.mk #[97, 112, 112, 101, 110, 100]), .int .i64 0, .int .i64 (-1)]), (31, .agg #[.string xName_14, .int .i64 xLeast_14, .int .i64 xMost_14]), (33, .agg #[.string xName_15, .int .i64 xLeast_15, .int .i64 xMost_15]), (35, .agg #[.string xName_16, .int .i64 xLeast_16, .int .i64 xMost_16]), (37, .agg #[.string xName_17, .int .i64 xLeast_17, .int .i64 xMost_17]), (39, .agg #[.string xName_18, .int .i64 xLeast_18, .int .i64 xMost_18]), (41, .agg #[.string xName_19, .int .i64 xLeast_19, .int .i64 xMost_19]), (43, .agg #[.string xName_20, .int .i64 xLeast_20, .int .i64 xMost_20]), (45, .agg #[.string xName_21, .int .i64 xLeast_21, .int .i64 xMost_21]), (47, .agg #[.string xName_22, .int .i64 xLeast_22, .int .i64 xMost_22]), (49, .agg #[.string xName_23, .int .i64 xLeast_23, .int .i64 xMost_23]), (50, .func (.func 30) #[] #[])] (fun _=>by kernel_rfl) ?_
 refine N_call (some 51) 30 #[.string (ByteArray.mk #[101, 113, 118, 63]), .int .i64 2] (fun _=>by kernel_rfl) h ?_; clear h
 rintro v_24 H25 ⟨xName_24, xLeast_24, xMost_24, rfl, h⟩
 refine ⟨[(0, .pointer (some (Addr.mk b 0 none))), (1, .func (.func 30) #[] #[]), (3, .agg #[.string xName, .int .i64 xLeast, .int .i64 xMost]), (5, .agg #[.string xName_2, .int .i64 xLeast_2, .int .i64 xMost_2]), (7, .agg #[.string xName_3, .int .i64 xLeast_3, .int .i64 xMost_3]), (9, .agg #[.string xName_4, .int .i64 xLeast_4, .int .i64 xMost_4]), (11, .agg #[.string xName_5, .int .i64 xLeast_5, .int .i64 xMost_5]), (13, .agg #[.string xName_6, .int .i64 xLeast_6, .int .i64 xMost_6]), (15, .agg #[.string xName_7, .int .i64 xLeast_7, .int .i64 xMost_7]), (17, .agg #[.string xName_8, .int .i64 xLeast_8, .int .i64 xMost_8]), (19, .agg #[.string xName_9, .int .i64 xLeast_9, .int .i64 xMost_9]), (21, .agg #[.string xName_10, .int .i64 xLeast_10, .int .i64 xMost_10]), (23, .agg #[.string xName_11, .int .i64 xLeast_11, .int .i64 xMost_11]), (25, .agg #[.string xName_12, .int .i64 xLeast_12, .int .i64 xMost_12]), (26, .agg #[.string (ByteArray.mk #[108, 105, 115, 116]), .int .i64 0, .int .i64 (-1)]), (28, .agg #[.string xName_13, .int .i64 xLeast_13, .int .i64 xMost_13]), (29, .agg #[.string (ByteArray.mk #[97, 112, 112, 101, 110, 100]), .int .i64 0, .int .i64 (-1)]), (31, .agg #[.string xName_14, .int .i64 xLeast_14, .int .i64 xMost_14]), (33, .agg #[.string xName_15, .int .i64 xLeast_15, .int .i64 xMost_15]), (35, .agg #[.string xName_16, .int .i64 xLeast_16, .int .i64 xMost_16]), (37, .agg #[.string xName_17, .int .i64 xLeast_17, .int .i64 xMost_17]), (39, .agg #[.string xName_18, .int .i64 xLeast_18, .int .i64 xMost_18]), (41, .agg #[.string xName_19, .int .i64 xLeast_19, .int .i64 xMost_19]), (43, .agg #[.string xName_20, .int .i64 xLeast_20, .int .i64 xMost_20]), (45, .agg #[.string xName_21, .int .i64 xLeast_21, .int .i64 xMost_21]), (47, .agg #[.string xName_22, .int .i64 xLeast_22, .int .i64 xMost_22]), (49, .agg #[.string xName_23, .int .i64 xLeast_23, .int .i64 xMost_23]), (51, .agg #[.string xName_24, .int .i64 xLeast_24, .int .i64 xMost_24])], ps (by kernel_rfl), ?_⟩
 refine N_run 1 [(0, .pointer (some (Addr.mk b 0 none))), (1, .func (.func 30) #[] #[]), (3, .agg #[.string xName, .int .i64 xLeast, .int .i64 xMost]), (5, .agg #[.string xName_2, .int .i64 xLeast_2, .int .i64 xMost_2]), (7, .agg #[.string xName_3, .int .i64 xLeast_3, .int .i64 xMost_3]), (9, .agg #[.string xName_4, .int .i64 xLeast_4, .int .i64 xMost_4]), (11, .agg #[.string xName_5, .int .i64 xLeast_5, .int .i64 xMost_5]), (13, .agg #[.string xName_6, .int .i64 xLeast_6, .int .i64 xMost_6]), (15, .agg #[.string xName_7, .int .i64 xLeast_7, .int .i64 xMost_7]), (17, .agg #[.string xName_8, .int .i64 xLeast_8, .int .i64 xMost_8]), (19, .agg #[.string xName_9, .int .i64 xLeast_9, .int .i64 xMost_9]), (21, .agg #[.string xName_10, .int .i64 xLeast_10, .int .i64 xMost_10]), (23, .agg #[.string xName_11, .int .i64 xLeast_11, .int .i64 xMost_11]), (25, .agg #[.string xName_12, .int .i64 xLeast_12, .int .i64 xMost_12]), (26, .agg #[.string (ByteArray.mk #[108, 105, 115, 116]), .int .i64 0, .int .i64 (-1)]), (28, .agg #[.string xName_13, .int .i64 xLeast_13, .int .i64 xMost_13]), (29, .agg #[.string (ByteArray.mk #[97, 112, 112, 101, 110, 100]), .int .i64 0, .int .i64 (-1)]), (31, .agg #[.string xName_14, .int .i64 xLeast_14, .int .i64 xMost_14]), (33, .agg #[.string xName_15, .int .i64 xLeast_15, .int .i64 xMost_15]), (35, .agg #[.string xName_16, .int .i64 xLeast_16, .int .i64 xMost_16]), (37, .agg #[.string xName_17, .int .i64 xLeast_17, .int .i64 xMost_17]), (39, .agg #[.string xName_18, .int .i64 xLeast_18, .int .i64 xMost_18]), (41, .agg #[.string xName_19, .int .i64 xLeast_19, .int .i64 xMost_19]), (43, .agg #[.string xName_20, .int .i64 xLeast_20, .int .i64 xMost_20]), (45, .agg #[.string xName_21, .int .i64 xLeast_21, .int .i64 xMost_21]), (47, .agg #[.string xName_22, .int .i64 xLeast_22, .int .i64 xMost_22]), (49, .agg #[.string xName_23, .int .i64 xLeast_23, .int .i64 xMost_23]), (51, .agg #[.string xName_24, .int .i64 xLeast_24, .int .i64 xMost_24]), (52, .func (.func 30) #[] #[])] (fun _=>by kernel_rfl) ?_
 refine N_call (some 53) 30 #[.string (ByteArray.mk #[101, 113, 117, 97, 108, 63]), .int .i64 2] (fun _=>by kernel_rfl) h ?_; clear h
 rintro v_25 H26 ⟨xName_25, xLeast_25, xMost_25, rfl, h⟩
 refine ⟨[(0, .pointer (some (Addr.mk b 0 none))), (1, .func (.func 30) #[] #[]), (3, .agg #[.string xName, .int .i64 xLeast, .int .i64 xMost]), (5, .agg #[.string xName_2, .int .i64 xLeast_2, .int .i64 xMost_2]), (7, .agg #[.string xName_3, .int .i64 xLeast_3, .int .i64 xMost_3]), (9, .agg #[.string xName_4, .int .i64 xLeast_4, .int .i64 xMost_4]), (11, .agg #[.string xName_5, .int .i64 xLeast_5, .int .i64 xMost_5]), (13, .agg #[.string xName_6, .int .i64 xLeast_6, .int .i64 xMost_6]), (15, .agg #[.string xName_7, .int .i64 xLeast_7, .int .i64 xMost_7]), (17, .agg #[.string xName_8, .int .i64 xLeast_8, .int .i64 xMost_8]), (19, .agg #[.string xName_9, .int .i64 xLeast_9, .int .i64 xMost_9]), (21, .agg #[.string xName_10, .int .i64 xLeast_10, .int .i64 xMost_10]), (23, .agg #[.string xName_11, .int .i64 xLeast_11, .int .i64 xMost_11]), (25, .agg #[.string xName_12, .int .i64 xLeast_12, .int .i64 xMost_12]), (26, .agg #[.string (ByteArray.mk #[108, 105, 115, 116]), .int .i64 0, .int .i64 (-1)]), (28, .agg #[.string xName_13, .int .i64 xLeast_13, .int .i64 xMost_13]), (29, .agg #[.string (ByteArray.mk #[97, 112, 112, 101, 110, 100]), .int .i64 0, .int .i64 (-1)]), (31, .agg #[.string xName_14, .int .i64 xLeast_14, .int .i64 xMost_14]), (33, .agg #[.string xName_15, .int .i64 xLeast_15, .int .i64 xMost_15]), (35, .agg #[.string xName_16, .int .i64 xLeast_16, .int .i64 xMost_16]), (37, .agg #[.string xName_17, .int .i64 xLeast_17, .int .i64 xMost_17]), (39, .agg #[.string xName_18, .int .i64 xLeast_18, .int .i64 xMost_18]), (41, .agg #[.string xName_19, .int .i64 xLeast_19, .int .i64 xMost_19]), (43, .agg #[.string xName_20, .int .i64 xLeast_20, .int .i64 xMost_20]), (45, .agg #[.string xName_21, .int .i64 xLeast_21, .int .i64 xMost_21]), (47, .agg #[.string xName_22, .int .i64 xLeast_22, .int .i64 xMost_22]), (49, .agg #[.string xName_23, .int .i64 xLeast_23, .int .i64 xMost_23]), (51, .agg #[.string xName_24, .int .i64 xLeast_24, .int .i64 xMost_24]), (53, .agg #[.string xName_25, .int .i64 xLeast_25, .int .i64 xMost_25])], ps (by kernel_rfl), ?_⟩
 refine N_run 1 [(0, .pointer (some (Addr.mk b 0 none))), (1, .func (.func 30) #[] #[]), (3, .agg #[.string xName, .int .i64 xLeast, .int .i64 xMost]), (5, .agg #[.string xName_2, .int .i64 xLeast_2, .int .i64 xMost_2]), (7, .agg #[.string xName_3, .int .i64 xLeast_3, .int .i64 xMost_3]), (9, .agg #[.string xName_4, .int .i64 xLeast_4, .int .i64 xMost_4]), (11, .agg #[.string xName_5, .int .i64 xLeast_5, .int .i64 xMost_5]), (13, .agg #[.string xName_6, .int .i64 xLeast_6, .int .i64 xMost_6]), (15, .agg #[.string xName_7, .int .i64 xLeast_7, .int .i64 xMost_7]), (17, .agg #[.string xName_8, .int .i64 xLeast_8, .int .i64 xMost_8]), (19, .agg #[.string xName_9, .int .i64 xLeast_9, .int .i64 xMost_9]), (21, .agg #[.string xName_10, .int .i64 xLeast_10, .int .i64 xMost_10]), (23, .agg #[.string xName_11, .int .i64 xLeast_11, .int .i64 xMost_11]), (25, .agg #[.string xName_12, .int .i64 xLeast_12, .int .i64 xMost_12]), (26, .agg #[.string (ByteArray.mk #[108, 105, 115, 116]), .int .i64 0, .int .i64 (-1)]), (28, .agg #[.string xName_13, .int .i64 xLeast_13, .int .i64 xMost_13]), (29, .agg #[.string (ByteArray.mk #[97, 112, 112, 101, 110, 100]), .int .i64 0, .int .i64 (-1)]), (31, .agg #[.string xName_14, .int .i64 xLeast_14, .int .i64 xMost_14]), (33, .agg #[.string xName_15, .int .i64 xLeast_15, .int .i64 xMost_15]), (35, .agg #[.string xName_16, .int .i64 xLeast_16, .int .i64 xMost_16]), (37, .agg #[.string xName_17, .int .i64 xLeast_17, .int .i64 xMost_17]), (39, .agg #[.string xName_18, .int .i64 xLeast_18, .int .i64 xMost_18]), (41, .agg #[.string xName_19, .int .i64 xLeast_19, .int .i64 xMost_19]), (43, .agg #[.string xName_20, .int .i64 xLeast_20, .int .i64 xMost_20]), (45, .agg #[.string xName_21, .int .i64 xLeast_21, .int .i64 xMost_21]), (47, .agg #[.string xName_22, .int .i64 xLeast_22, .int .i64 xMost_22]), (49, .agg #[.string xName_23, .int .i64 xLeast_23, .int .i64 xMost_23]), (51, .agg #[.string xName_24, .int .i64 xLeast_24, .int .i64 xMost_24]), (53, .agg #[.string xName_25, .int .i64 xLeast_25, .int .i64 xMost_25]), (54, .func (.func 30) #[] #[])] (fun _=>by kernel_rfl) ?_
 refine N_call (some 55) 30 #[.string (ByteArray.mk #[110, 111, 116]), .int .i64 1] (fun _=>by kernel_rfl) h ?_; clear h
 rintro v_26 H27 ⟨xName_26, xLeast_26, xMost_26, rfl, h⟩
 refine ⟨[(0, .pointer (some (Addr.mk b 0 none))), (1, .func (.func 30) #[] #[]), (3, .agg #[.string xName, .int .i64 xLeast, .int .i64 xMost]), (5, .agg #[.string xName_2, .int .i64 xLeast_2, .int .i64 xMost_2]), (7, .agg #[.string xName_3, .int .i64 xLeast_3, .int .i64 xMost_3]), (9, .agg #[.string xName_4, .int .i64 xLeast_4, .int .i64 xMost_4]), (11, .agg #[.string xName_5, .int .i64 xLeast_5, .int .i64 xMost_5]), (13, .agg #[.string xName_6, .int .i64 xLeast_6, .int .i64 xMost_6]), (15, .agg #[.string xName_7, .int .i64 xLeast_7, .int .i64 xMost_7]), (17, .agg #[.string xName_8, .int .i64 xLeast_8, .int .i64 xMost_8]), (19, .agg #[.string xName_9, .int .i64 xLeast_9, .int .i64 xMost_9]), (21, .agg #[.string xName_10, .int .i64 xLeast_10, .int .i64 xMost_10]), (23, .agg #[.string xName_11, .int .i64 xLeast_11, .int .i64 xMost_11]), (25, .agg #[.string xName_12, .int .i64 xLeast_12, .int .i64 xMost_12]), (26, .agg #[.string (ByteArray.mk #[108, 105, 115, 116]), .int .i64 0, .int .i64 (-1)]), (28, .agg #[.string xName_13, .int .i64 xLeast_13, .int .i64 xMost_13]), (29, .agg #[.string (ByteArray.mk #[97, 112, 112, 101, 110, 100]), .int .i64 0, .int .i64 (-1)]), (31, .agg #[.string xName_14, .int .i64 xLeast_14, .int .i64 xMost_14]), (33, .agg #[.string xName_15, .int .i64 xLeast_15, .int .i64 xMost_15]), (35, .agg #[.string xName_16, .int .i64 xLeast_16, .int .i64 xMost_16]), (37, .agg #[.string xName_17, .int .i64 xLeast_17, .int .i64 xMost_17]), (39, .agg #[.string xName_18, .int .i64 xLeast_18, .int .i64 xMost_18]), (41, .agg #[.string xName_19, .int .i64 xLeast_19, .int .i64 xMost_19]), (43, .agg #[.string xName_20, .int .i64 xLeast_20, .int .i64 xMost_20]), (45, .agg #[.string xName_21, .int .i64 xLeast_21, .int .i64 xMost_21]), (47, .agg #[.string xName_22, .int .i64 xLeast_22, .int .i64 xMost_22]), (49, .agg #[.string xName_23, .int .i64 xLeast_23, .int .i64 xMost_23]), (51, .agg #[.string xName_24, .int .i64 xLeast_24, .int .i64 xMost_24]), (53, .agg #[.string xName_25, .int .i64 xLeast_25, .int .i64 xMost_25]), (55, .agg #[.string xName_26, .int .i64 xLeast_26, .int .i64 xMost_26])], ps (by kernel_rfl), ?_⟩
 refine N_run 1 [(0, .pointer (some (Addr.mk b 0 none))), (1, .func (.func 30) #[] #[]), (3, .agg #[.string xName, .int .i64 xLeast, .int .i64 xMost]), (5, .agg #[.string xName_2, .int .i64 xLeast_2, .int .i64 xMost_2]), (7, .agg #[.string xName_3, .int .i64 xLeast_3, .int .i64 xMost_3]), (9, .agg #[.string xName_4, .int .i64 xLeast_4, .int .i64 xMost_4]), (11, .agg #[.string xName_5, .int .i64 xLeast_5, .int .i64 xMost_5]), (13, .agg #[.string xName_6, .int .i64 xLeast_6, .int .i64 xMost_6]), (15, .agg #[.string xName_7, .int .i64 xLeast_7, .int .i64 xMost_7]), (17, .agg #[.string xName_8, .int .i64 xLeast_8, .int .i64 xMost_8]), (19, .agg #[.string xName_9, .int .i64 xLeast_9, .int .i64 xMost_9]), (21, .agg #[.string xName_10, .int .i64 xLeast_10, .int .i64 xMost_10]), (23, .agg #[.string xName_11, .int .i64 xLeast_11, .int .i64 xMost_11]), (25, .agg #[.string xName_12, .int .i64 xLeast_12, .int .i64 xMost_12]), (26, .agg #[.string (ByteArray.mk #[108, 105, 115, 116]), .int .i64 0, .int .i64 (-1)]), (28, .agg #[.string xName_13, .int .i64 xLeast_13, .int .i64 xMost_13]), (29, .agg #[.string (ByteArray.mk #[97, 112, 112, 101, 110, 100]), .int .i64 0, .int .i64 (-1)]), (31, .agg #[.string xName_14, .int .i64 xLeast_14, .int .i64 xMost_14]), (33, .agg #[.string xName_15, .int .i64 xLeast_15, .int .i64 xMost_15]), (35, .agg #[.string xName_16, .int .i64 xLeast_16, .int .i64 xMost_16]), (37, .agg #[.string xName_17, .int .i64 xLeast_17, .int .i64 xMost_17]), (39, .agg #[.string xName_18, .int .i64 xLeast_18, .int .i64 xMost_18]), (41, .agg #[.string xName_19, .int .i64 xLeast_19, .int .i64 xMost_19]), (43, .agg #[.string xName_20, .int .i64 xLeast_20, .int .i64 xMost_20]), (45, .agg #[.string xName_21, .int .i64 xLeast_21, .int .i64 xMost_21]), (47, .agg #[.string xName_22, .int .i64 xLeast_22, .int .i64 xMost_22]), (49, .agg #[.string xName_23, .int .i64 xLeast_23, .int .i64 xMost_23]), (51, .agg #[.string xName_24, .int .i64 xLeast_24, .int .i64 xMost_24]), (53, .agg #[.string xName_25, .int .i64 xLeast_25, .int .i64 xMost_25]), (55, .agg #[.string xName_26, .int .i64 xLeast_26, .int .i64 xMost_26]), (56, .func (.func 30) #[] #[])] (fun _=>by kernel_rfl) ?_
 refine N_call (some 57) 30 #[.string (ByteArray.mk #[98, 111, 111, 108, 101, 97, 110, 63]), .int .i64 1] (fun _=>by kernel_rfl) h ?_; clear h
 rintro v_27 H28 ⟨xName_27, xLeast_27, xMost_27, rfl, h⟩
 refine ⟨[(0, .pointer (some (Addr.mk b 0 none))), (1, .func (.func 30) #[] #[]), (3, .agg #[.string xName, .int .i64 xLeast, .int .i64 xMost]), (5, .agg #[.string xName_2, .int .i64 xLeast_2, .int .i64 xMost_2]), (7, .agg #[.string xName_3, .int .i64 xLeast_3, .int .i64 xMost_3]), (9, .agg #[.string xName_4, .int .i64 xLeast_4, .int .i64 xMost_4]), (11, .agg #[.string xName_5, .int .i64 xLeast_5, .int .i64 xMost_5]), (13, .agg #[.string xName_6, .int .i64 xLeast_6, .int .i64 xMost_6]), (15, .agg #[.string xName_7, .int .i64 xLeast_7, .int .i64 xMost_7]), (17, .agg #[.string xName_8, .int .i64 xLeast_8, .int .i64 xMost_8]), (19, .agg #[.string xName_9, .int .i64 xLeast_9, .int .i64 xMost_9]), (21, .agg #[.string xName_10, .int .i64 xLeast_10, .int .i64 xMost_10]), (23, .agg #[.string xName_11, .int .i64 xLeast_11, .int .i64 xMost_11]), (25, .agg #[.string xName_12, .int .i64 xLeast_12, .int .i64 xMost_12]), (26, .agg #[.string (ByteArray.mk #[108, 105, 115, 116]), .int .i64 0, .int .i64 (-1)]), (28, .agg #[.string xName_13, .int .i64 xLeast_13, .int .i64 xMost_13]), (29, .agg #[.string (ByteArray.mk #[97, 112, 112, 101, 110, 100]), .int .i64 0, .int .i64 (-1)]), (31, .agg #[.string xName_14, .int .i64 xLeast_14, .int .i64 xMost_14]), (33, .agg #[.string xName_15, .int .i64 xLeast_15, .int .i64 xMost_15]), (35, .agg #[.string xName_16, .int .i64 xLeast_16, .int .i64 xMost_16]), (37, .agg #[.string xName_17, .int .i64 xLeast_17, .int .i64 xMost_17]), (39, .agg #[.string xName_18, .int .i64 xLeast_18, .int .i64 xMost_18]), (41, .agg #[.string xName_19, .int .i64 xLeast_19, .int .i64 xMost_19]), (43, .agg #[.string xName_20, .int .i64 xLeast_20, .int .i64 xMost_20]), (45, .agg #[.string xName_21, .int .i64 xLeast_21, .int .i64 xMost_21]), (47, .agg #[.string xName_22, .int .i64 xLeast_22, .int .i64 xMost_22]), (49, .agg #[.string xName_23, .int .i64 xLeast_23, .int .i64 xMost_23]), (51, .agg #[.string xName_24, .int .i64 xLeast_24, .int .i64 xMost_24]), (53, .agg #[.string xName_25, .int .i64 xLeast_25, .int .i64 xMost_25]), (55, .agg #[.string xName_26, .int .i64 xLeast_26, .int .i64 xMost_26]), (57, .agg #[.string xName_27, .int .i64 xLeast_27, .int .i64 xMost_27])], ps (by kernel_rfl), ?_⟩
 refine N_run 1 [(0, .pointer (some (Addr.mk b 0 none))), (3, .agg #[.string xName, .int .i64 xLeast, .int .i64 xMost]), (5, .agg #[.string xName_2, .int .i64 xLeast_2, .int .i64 xMost_2]), (7, .agg #[.string xName_3, .int .i64 xLeast_3, .int .i64 xMost_3]), (9, .agg #[.string xName_4, .int .i64 xLeast_4, .int .i64 xMost_4]), (11, .agg #[.string xName_5, .int .i64 xLeast_5, .int .i64 xMost_5]), (13, .agg #[.string xName_6, .int .i64 xLeast_6, .int .i64 xMost_6]), (15, .agg #[.string xName_7, .int .i64 xLeast_7, .int .i64 xMost_7]), (17, .agg #[.string xName_8, .int .i64 xLeast_8, .int .i64 xMost_8]), (19, .agg #[.string xName_9, .int .i64 xLeast_9, .int .i64 xMost_9]), (21, .agg #[.string xName_10, .int .i64 xLeast_10, .int .i64 xMost_10]), (23, .agg #[.string xName_11, .int .i64 xLeast_11, .int .i64 xMost_11]), (25, .agg #[.string xName_12, .int .i64 xLeast_12, .int .i64 xMost_12]), (26, .agg #[.string (ByteArray.mk #[108, 105, 115, 116]), .int .i64 0, .int .i64 (-1)]), (28, .agg #[.string xName_13, .int .i64 xLeast_13, .int .i64 xMost_13]), (29, .agg #[.string (ByteArray.mk #[97, 112, 112, 101, 110, 100]), .int .i64 0, .int .i64 (-1)]), (31, .agg #[.string xName_14, .int .i64 xLeast_14, .int .i64 xMost_14]), (33, .agg #[.string xName_15, .int .i64 xLeast_15, .int .i64 xMost_15]), (35, .agg #[.string xName_16, .int .i64 xLeast_16, .int .i64 xMost_16]), (37, .agg #[.string xName_17, .int .i64 xLeast_17, .int .i64 xMost_17]), (39, .agg #[.string xName_18, .int .i64 xLeast_18, .int .i64 xMost_18]), (41, .agg #[.string xName_19, .int .i64 xLeast_19, .int .i64 xMost_19]), (43, .agg #[.string xName_20, .int .i64 xLeast_20, .int .i64 xMost_20]), (45, .agg #[.string xName_21, .int .i64 xLeast_21, .int .i64 xMost_21]), (47, .agg #[.string xName_22, .int .i64 xLeast_22, .int .i64 xMost_22]), (49, .agg #[.string xName_23, .int .i64 xLeast_23, .int .i64 xMost_23]), (51, .agg #[.string xName_24, .int .i64 xLeast_24, .int .i64 xMost_24]), (53, .agg #[.string xName_25, .int .i64 xLeast_25, .int .i64 xMost_25]), (55, .agg #[.string xName_26, .int .i64 xLeast_26, .int .i64 xMost_26]), (57, .agg #[.string xName_27, .int .i64 xLeast_27, .int .i64 xMost_27]), (58, .func (.func 30) #[] #[])] (fun _=>by kernel_rfl) ?_
 refine N_call (some 59) 30 #[.string (ByteArray.mk #[112, 114, 111, 99, 101, 100, 117, 114, 101, 63]), .int .i64 1] (fun _=>by kernel_rfl) h ?_; clear h
 rintro v_28 H29 ⟨xName_28, xLeast_28, xMost_28, rfl, h⟩
 refine ⟨[(0, .pointer (some (Addr.mk b 0 none))), (3, .agg #[.string xName, .int .i64 xLeast, .int .i64 xMost]), (5, .agg #[.string xName_2, .int .i64 xLeast_2, .int .i64 xMost_2]), (7, .agg #[.string xName_3, .int .i64 xLeast_3, .int .i64 xMost_3]), (9, .agg #[.string xName_4, .int .i64 xLeast_4, .int .i64 xMost_4]), (11, .agg #[.string xName_5, .int .i64 xLeast_5, .int .i64 xMost_5]), (13, .agg #[.string xName_6, .int .i64 xLeast_6, .int .i64 xMost_6]), (15, .agg #[.string xName_7, .int .i64 xLeast_7, .int .i64 xMost_7]), (17, .agg #[.string xName_8, .int .i64 xLeast_8, .int .i64 xMost_8]), (19, .agg #[.string xName_9, .int .i64 xLeast_9, .int .i64 xMost_9]), (21, .agg #[.string xName_10, .int .i64 xLeast_10, .int .i64 xMost_10]), (23, .agg #[.string xName_11, .int .i64 xLeast_11, .int .i64 xMost_11]), (25, .agg #[.string xName_12, .int .i64 xLeast_12, .int .i64 xMost_12]), (26, .agg #[.string (ByteArray.mk #[108, 105, 115, 116]), .int .i64 0, .int .i64 (-1)]), (28, .agg #[.string xName_13, .int .i64 xLeast_13, .int .i64 xMost_13]), (29, .agg #[.string (ByteArray.mk #[97, 112, 112, 101, 110, 100]), .int .i64 0, .int .i64 (-1)]), (31, .agg #[.string xName_14, .int .i64 xLeast_14, .int .i64 xMost_14]), (33, .agg #[.string xName_15, .int .i64 xLeast_15, .int .i64 xMost_15]), (35, .agg #[.string xName_16, .int .i64 xLeast_16, .int .i64 xMost_16]), (37, .agg #[.string xName_17, .int .i64 xLeast_17, .int .i64 xMost_17]), (39, .agg #[.string xName_18, .int .i64 xLeast_18, .int .i64 xMost_18]), (41, .agg #[.string xName_19, .int .i64 xLeast_19, .int .i64 xMost_19]), (43, .agg #[.string xName_20, .int .i64 xLeast_20, .int .i64 xMost_20]), (45, .agg #[.string xName_21, .int .i64 xLeast_21, .int .i64 xMost_21]), (47, .agg #[.string xName_22, .int .i64 xLeast_22, .int .i64 xMost_22]), (49, .agg #[.string xName_23, .int .i64 xLeast_23, .int .i64 xMost_23]), (51, .agg #[.string xName_24, .int .i64 xLeast_24, .int .i64 xMost_24]), (53, .agg #[.string xName_25, .int .i64 xLeast_25, .int .i64 xMost_25]), (55, .agg #[.string xName_26, .int .i64 xLeast_26, .int .i64 xMost_26]), (57, .agg #[.string xName_27, .int .i64 xLeast_27, .int .i64 xMost_27]), (59, .agg #[.string xName_28, .int .i64 xLeast_28, .int .i64 xMost_28])], ps (by kernel_rfl), ?_⟩
 refine N_run 1 [(0, .pointer (some (Addr.mk b 0 none))), (60, .agg ([.string xName, .int .i64 xLeast, .int .i64 xMost, .string xName_2, .int .i64 xLeast_2, .int .i64 xMost_2, .string xName_3, .int .i64 xLeast_3, .int .i64 xMost_3, .string xName_4, .int .i64 xLeast_4, .int .i64 xMost_4, .string xName_5, .int .i64 xLeast_5, .int .i64 xMost_5, .string xName_6, .int .i64 xLeast_6, .int .i64 xMost_6, .string xName_7, .int .i64 xLeast_7, .int .i64 xMost_7, .string xName_8, .int .i64 xLeast_8, .int .i64 xMost_8, .string xName_9, .int .i64 xLeast_9, .int .i64 xMost_9, .string xName_10, .int .i64 xLeast_10, .int .i64 xMost_10, .string xName_11, .int .i64 xLeast_11, .int .i64 xMost_11, .string xName_12, .int .i64 xLeast_12, .int .i64 xMost_12, .string (ByteArray.mk #[108, 105, 115, 116]), .int .i64 0, .int .i64 (-1), .string xName_13, .int .i64 xLeast_13, .int .i64 xMost_13, .string (ByteArray.mk #[97, 112, 112, 101, 110, 100]), .int .i64 0, .int .i64 (-1), .string xName_14, .int .i64 xLeast_14, .int .i64 xMost_14, .string xName_15, .int .i64 xLeast_15, .int .i64 xMost_15, .string xName_16, .int .i64 xLeast_16, .int .i64 xMost_16, .string xName_17, .int .i64 xLeast_17, .int .i64 xMost_17, .string xName_18, .int .i64 xLeast_18, .int .i64 xMost_18, .string xName_19, .int .i64 xLeast_19, .int .i64 xMost_19, .string xName_20, .int .i64 xLeast_20, .int .i64 xMost_20, .string xName_21, .int .i64 xLeast_21, .int .i64 xMost_21, .string xName_22, .int .i64 xLeast_22, .int .i64 xMost_22, .string xName_23, .int .i64 xLeast_23, .int .i64 xMost_23, .string xName_24, .int .i64 xLeast_24, .int .i64 xMost_24, .string xName_25, .int .i64 xLeast_25, .int .i64 xMost_25, .string xName_26, .int .i64 xLeast_26, .int .i64 xMost_26, .string xName_27, .int .i64 xLeast_27, .int .i64 xMost_27, .string xName_28, .int .i64 xLeast_28, .int .i64 xMost_28] : List Value).toArray)] (fun _=>by kernel_rfl) ?_
 obtain ⟨q4, h⟩ := h
 refine N_skipop none (storeN 46 (.pointer (some (Addr.mk b 0 none))) (.agg ([.string xName, .int .i64 xLeast, .int .i64 xMost, .string xName_2, .int .i64 xLeast_2, .int .i64 xMost_2, .string xName_3, .int .i64 xLeast_3, .int .i64 xMost_3, .string xName_4, .int .i64 xLeast_4, .int .i64 xMost_4, .string xName_5, .int .i64 xLeast_5, .int .i64 xMost_5, .string xName_6, .int .i64 xLeast_6, .int .i64 xMost_6, .string xName_7, .int .i64 xLeast_7, .int .i64 xMost_7, .string xName_8, .int .i64 xLeast_8, .int .i64 xMost_8, .string xName_9, .int .i64 xLeast_9, .int .i64 xMost_9, .string xName_10, .int .i64 xLeast_10, .int .i64 xMost_10, .string xName_11, .int .i64 xLeast_11, .int .i64 xMost_11, .string xName_12, .int .i64 xLeast_12, .int .i64 xMost_12, .string (ByteArray.mk #[108, 105, 115, 116]), .int .i64 0, .int .i64 (-1), .string xName_13, .int .i64 xLeast_13, .int .i64 xMost_13, .string (ByteArray.mk #[97, 112, 112, 101, 110, 100]), .int .i64 0, .int .i64 (-1), .string xName_14, .int .i64 xLeast_14, .int .i64 xMost_14, .string xName_15, .int .i64 xLeast_15, .int .i64 xMost_15, .string xName_16, .int .i64 xLeast_16, .int .i64 xMost_16, .string xName_17, .int .i64 xLeast_17, .int .i64 xMost_17, .string xName_18, .int .i64 xLeast_18, .int .i64 xMost_18, .string xName_19, .int .i64 xLeast_19, .int .i64 xMost_19, .string xName_20, .int .i64 xLeast_20, .int .i64 xMost_20, .string xName_21, .int .i64 xLeast_21, .int .i64 xMost_21, .string xName_22, .int .i64 xLeast_22, .int .i64 xMost_22, .string xName_23, .int .i64 xLeast_23, .int .i64 xMost_23, .string xName_24, .int .i64 xLeast_24, .int .i64 xMost_24, .string xName_25, .int .i64 xLeast_25, .int .i64 xMost_25, .string xName_26, .int .i64 xLeast_26, .int .i64 xMost_26, .string xName_27, .int .i64 xLeast_27, .int .i64 xMost_27, .string xName_28, .int .i64 xLeast_28, .int .i64 xMost_28] : List Value).toArray)) (fun Hz => Hz = hputs H29 (Addr.mk b 0 none) ([.string xName, .int .i64 xLeast, .int .i64 xMost, .string xName_2, .int .i64 xLeast_2, .int .i64 xMost_2, .string xName_3, .int .i64 xLeast_3, .int .i64 xMost_3, .string xName_4, .int .i64 xLeast_4, .int .i64 xMost_4, .string xName_5, .int .i64 xLeast_5, .int .i64 xMost_5, .string xName_6, .int .i64 xLeast_6, .int .i64 xMost_6, .string xName_7, .int .i64 xLeast_7, .int .i64 xMost_7, .string xName_8, .int .i64 xLeast_8, .int .i64 xMost_8, .string xName_9, .int .i64 xLeast_9, .int .i64 xMost_9, .string xName_10, .int .i64 xLeast_10, .int .i64 xMost_10, .string xName_11, .int .i64 xLeast_11, .int .i64 xMost_11, .string xName_12, .int .i64 xLeast_12, .int .i64 xMost_12, .string (ByteArray.mk #[108, 105, 115, 116]), .int .i64 0, .int .i64 (-1), .string xName_13, .int .i64 xLeast_13, .int .i64 xMost_13, .string (ByteArray.mk #[97, 112, 112, 101, 110, 100]), .int .i64 0, .int .i64 (-1), .string xName_14, .int .i64 xLeast_14, .int .i64 xMost_14, .string xName_15, .int .i64 xLeast_15, .int .i64 xMost_15, .string xName_16, .int .i64 xLeast_16, .int .i64 xMost_16, .string xName_17, .int .i64 xLeast_17, .int .i64 xMost_17, .string xName_18, .int .i64 xLeast_18, .int .i64 xMost_18, .string xName_19, .int .i64 xLeast_19, .int .i64 xMost_19, .string xName_20, .int .i64 xLeast_20, .int .i64 xMost_20, .string xName_21, .int .i64 xLeast_21, .int .i64 xMost_21, .string xName_22, .int .i64 xLeast_22, .int .i64 xMost_22, .string xName_23, .int .i64 xLeast_23, .int .i64 xMost_23, .string xName_24, .int .i64 xLeast_24, .int .i64 xMost_24, .string xName_25, .int .i64 xLeast_25, .int .i64 xMost_25, .string xName_26, .int .i64 xLeast_26, .int .i64 xMost_26, .string xName_27, .int .i64 xLeast_27, .int .i64 xMost_27, .string xName_28, .int .i64 xLeast_28, .int .i64 xMost_28] : List Value) 0) (fun _=>by kernel_rfl) (by intro w hw; obtain ⟨w1, g1, g2, g3⟩ := ss_store (P := Tryz.prog) (H := H29) (t := 46) (a := (Addr.mk b 0 none)) (v := (.agg ([.string xName, .int .i64 xLeast, .int .i64 xMost, .string xName_2, .int .i64 xLeast_2, .int .i64 xMost_2, .string xName_3, .int .i64 xLeast_3, .int .i64 xMost_3, .string xName_4, .int .i64 xLeast_4, .int .i64 xMost_4, .string xName_5, .int .i64 xLeast_5, .int .i64 xMost_5, .string xName_6, .int .i64 xLeast_6, .int .i64 xMost_6, .string xName_7, .int .i64 xLeast_7, .int .i64 xMost_7, .string xName_8, .int .i64 xLeast_8, .int .i64 xMost_8, .string xName_9, .int .i64 xLeast_9, .int .i64 xMost_9, .string xName_10, .int .i64 xLeast_10, .int .i64 xMost_10, .string xName_11, .int .i64 xLeast_11, .int .i64 xMost_11, .string xName_12, .int .i64 xLeast_12, .int .i64 xMost_12, .string (ByteArray.mk #[108, 105, 115, 116]), .int .i64 0, .int .i64 (-1), .string xName_13, .int .i64 xLeast_13, .int .i64 xMost_13, .string (ByteArray.mk #[97, 112, 112, 101, 110, 100]), .int .i64 0, .int .i64 (-1), .string xName_14, .int .i64 xLeast_14, .int .i64 xMost_14, .string xName_15, .int .i64 xLeast_15, .int .i64 xMost_15, .string xName_16, .int .i64 xLeast_16, .int .i64 xMost_16, .string xName_17, .int .i64 xLeast_17, .int .i64 xMost_17, .string xName_18, .int .i64 xLeast_18, .int .i64 xMost_18, .string xName_19, .int .i64 xLeast_19, .int .i64 xMost_19, .string xName_20, .int .i64 xLeast_20, .int .i64 xMost_20, .string xName_21, .int .i64 xLeast_21, .int .i64 xMost_21, .string xName_22, .int .i64 xLeast_22, .int .i64 xMost_22, .string xName_23, .int .i64 xLeast_23, .int .i64 xMost_23, .string xName_24, .int .i64 xLeast_24, .int .i64 xMost_24, .string xName_25, .int .i64 xLeast_25, .int .i64 xMost_25, .string xName_26, .int .i64 xLeast_26, .int .i64 xMost_26, .string xName_27, .int .i64 xLeast_27, .int .i64 xMost_27, .string xName_28, .int .i64 xLeast_28, .int .i64 xMost_28] : List Value).toArray)) ([.string xName, .int .i64 xLeast, .int .i64 xMost, .string xName_2, .int .i64 xLeast_2, .int .i64 xMost_2, .string xName_3, .int .i64 xLeast_3, .int .i64 xMost_3, .string xName_4, .int .i64 xLeast_4, .int .i64 xMost_4, .string xName_5, .int .i64 xLeast_5, .int .i64 xMost_5, .string xName_6, .int .i64 xLeast_6, .int .i64 xMost_6, .string xName_7, .int .i64 xLeast_7, .int .i64 xMost_7, .string xName_8, .int .i64 xLeast_8, .int .i64 xMost_8, .string xName_9, .int .i64 xLeast_9, .int .i64 xMost_9, .string xName_10, .int .i64 xLeast_10, .int .i64 xMost_10, .string xName_11, .int .i64 xLeast_11, .int .i64 xMost_11, .string xName_12, .int .i64 xLeast_12, .int .i64 xMost_12, .string (ByteArray.mk #[108, 105, 115, 116]), .int .i64 0, .int .i64 (-1), .string xName_13, .int .i64 xLeast_13, .int .i64 xMost_13, .string (ByteArray.mk #[97, 112, 112, 101, 110, 100]), .int .i64 0, .int .i64 (-1), .string xName_14, .int .i64 xLeast_14, .int .i64 xMost_14, .string xName_15, .int .i64 xLeast_15, .int .i64 xMost_15, .string xName_16, .int .i64 xLeast_16, .int .i64 xMost_16, .string xName_17, .int .i64 xLeast_17, .int .i64 xMost_17, .string xName_18, .int .i64 xLeast_18, .int .i64 xMost_18, .string xName_19, .int .i64 xLeast_19, .int .i64 xMost_19, .string xName_20, .int .i64 xLeast_20, .int .i64 xMost_20, .string xName_21, .int .i64 xLeast_21, .int .i64 xMost_21, .string xName_22, .int .i64 xLeast_22, .int .i64 xMost_22, .string xName_23, .int .i64 xLeast_23, .int .i64 xMost_23, .string xName_24, .int .i64 xLeast_24, .int .i64 xMost_24, .string xName_25, .int .i64 xLeast_25, .int .i64 xMost_25, .string xName_26, .int .i64 xLeast_26, .int .i64 xMost_26, .string xName_27, .int .i64 xLeast_27, .int .i64 xMost_27, .string xName_28, .int .i64 xLeast_28, .int .i64 xMost_28] : List Value) 90 (by kernel_rfl) (by kernel_rfl) (fun _=>by kernel_rfl) (by kernel_rfl) q4 w hw; exact ⟨w1, g1, g2, g3⟩) ?_
 intro H30 e3
 replace h := h H30 e3
 refine ⟨[(0, .pointer (some (Addr.mk b 0 none)))], ps (by kernel_rfl), ?_⟩
 refine T_e ?_
 refine S_ret (by kernel_rfl) ?_
 show At _ _ _ _ _ (Q .ret)
 obtain ⟨r, l6, q5, h⟩ := h
 exact S_done (fn := Tryz.f10) [.agg (r).toArray] hQ (show ResOK _ _ _ [.cell 0 46] _ from .cell (by kernel_rfl) (loadOK_row (fun _=>by kernel_rfl) (fun w => by rw [l6]; kernel_rfl) q5) (.nil)) h
end lists_table

/-! moraine/lists.steps -/
namespace lists_steps
def kk0 := Func.code Tryz.f13
def kk1 := Code.fa kk0
def kk2 := Code.fb kk0
def kk3 := Code.fa kk2
def kk4 := Code.fb kk2
def kk5 := Code.fa kk4
def kk6 := Code.fb kk4
def kk7 := Code.fa kk5
def kk8 := Code.fb kk5
def kk9 := Code.fa kk8
def kk10 := Code.fa kk9
def kk11 := Code.fa kk10
def kk12 := Code.fb kk10
def kk13 := Code.fa kk12
def kk14 := Code.fb kk12
def kk15 := Code.fa kk13
def kk16 := Code.fb kk13
def kk17 := Code.fa kk14
def kk18 := Code.fb kk14
def kk19 := Code.fa kk17
def kk20 := Code.fa kk19
def kk21 := Code.fb kk19
def kk22 := Code.fa kk21
def kk23 := Code.fb kk21
def kk24 := Code.fa kk22
def kk25 := Code.fb kk22
def kk26 := Code.fa kk25
def kk27 := Code.fb kk25
def kk28 := Code.fa kk23
def kk29 := Code.fb kk23
def kk30 := Code.fa kk29
def kk31 := Code.fb kk29
def kk32 := Code.fa kk30
def kk33 := Code.fb kk30
def kk34 := Code.fa kk6
def kk35 := Code.fb kk6
end lists_steps
def lists_steps.pt (hv : Option Addr) (wv : Int) (lB : Option Addr) (lN : Nat) (lC : Nat) (H : Array Obj) (R : Value → Array Obj → Prop) : Prop :=
 ∃ (I11 : Int → Int → Array Obj → Prop) (m11 : Int → Int → Array Obj → Nat), I11 wv 0 H ∧ ∀ (wv_2 : Int) (s13 : Int) (H1 : Array Obj), I11 wv_2 s13 H1 →
 if s13 < (lN : Int) then (
 ∃ lBA : Addr, lB = some lBA ∧
 ((0 : Int) ≤ s13 ∧ s13 < (lN : Int)) ∧
 ∃ x : Int, hat H1 (lBA.add (Int.toNat s13 * 1)) = some (.int .i64 x) ∧
 if x = 0 then (
 obj_Heap_Car.C hv wv_2 H1 (fun v H2 => ∃ ra : Int, ∃ rb : Int, v = .tuple #[.int .u64 ra, .int .i64 rb] ∧ 
 if rb = 0 then (
 (I11 ra (IntKind.wrap .i64 (s13 + 1)) H2 ∧ m11 ra (IntKind.wrap .i64 (s13 + 1)) H2 < m11 wv_2 s13 H1))
 else
 R (.tuple #[.int .u64 0, .int .i64 rb]) H2))
 else
 obj_Heap_Cdr.C hv wv_2 H1 (fun v_2 H3 => ∃ ra_2 : Int, ∃ rb_2 : Int, v_2 = .tuple #[.int .u64 ra_2, .int .i64 rb_2] ∧ 
 if rb_2 = 0 then (
 (I11 ra_2 (IntKind.wrap .i64 (s13 + 1)) H3 ∧ m11 ra_2 (IntKind.wrap .i64 (s13 + 1)) H3 < m11 wv_2 s13 H1))
 else
 R (.tuple #[.int .u64 0, .int .i64 rb_2]) H3))
 else
 R (.tuple #[.int .u64 wv_2, .int .i64 0]) H1
namespace lists_steps
set_option maxRecDepth 100000 in
theorem link {hv : Option Addr} {wv : Int} {lB : Option Addr} {lN : Nat} {lC : Nat} {H : Array Obj} {R : Value → Array Obj → Prop} (h : pt hv wv lB lN lC H R) : C hv wv lB lN lC H R := by
 refine S_enter (fn := Tryz.f13) (c := kk0) 36 Tryz.func13 (by kernel_rfl) (by kernel_rfl) (Nat.le_of_ble_eq_true (by kernel_rfl)) ?_
 intro w0 Q hQ
 unfold pt at h
 refine S_sub [(0, .pointer hv), (1, .int .u64 wv), (2, .slice lB lN lC)] (sb (by kernel_rfl)) ?_
 refine T_sr 0 kk1 kk2 ?_
 refine N_run 2 [(0, .pointer hv), (1, .int .u64 wv), (2, .slice lB lN lC)] (fun _=>by kernel_rfl) ?_
 refine T_e ?_
 refine T_sr 1 kk3 kk4 ?_
 refine N_run 1 [(0, .pointer hv), (1, .int .u64 wv), (2, .slice lB lN lC)] (fun _=>by kernel_rfl) ?_
 refine T_e ?_
 refine S_seq kk5 kk6 (by kernel_rfl) ?_
 refine T_sr 2 kk7 kk8 ?_
 refine N_run 3 [(0, .pointer hv), (1, .int .u64 wv), (11, .slice lB lN lC), (12, .int .i64 (lN : Int)), (13, .int .i64 0)] (fun _=>by kernel_rfl) ?_
 refine T_e ?_
 refine S_block 0 kk9 (by kernel_rfl) ?_
 obtain ⟨I11, m11, i1, i2⟩ := h
 refine S_loop (x := kk10) (σ := Int × Int) (fun s_ => [(0, .pointer hv), (1, .int .u64 s_.1), (11, .slice lB lN lC), (12, .int .i64 (lN : Int)), (13, .int .i64 s_.2)]) (fun s_ H => I11 s_.1 s_.2 H) (fun s_ H => m11 s_.1 s_.2 H) ((wv, 0) : Int × Int) (by kernel_rfl) i1 (sb (by kernel_rfl)) ?_
 rintro ⟨wv_2, s13⟩ H1 i3
 have h := i2 wv_2 s13 H1 i3
 refine S_sub [(0, .pointer hv), (1, .int .u64 wv_2), (11, .slice lB lN lC), (12, .int .i64 (lN : Int)), (13, .int .i64 s13)] (sb (by kernel_rfl)) ?_
 refine T_sr 3 kk11 kk12 ?_
 refine N_run 1 [(0, .pointer hv), (1, .int .u64 wv_2), (11, .slice lB lN lC), (12, .int .i64 (lN : Int)), (13, .int .i64 s13), (14, .bool (decide (s13 < (lN : Int))))] (fun _=>by kernel_rfl) ?_
 refine T_e ?_
 refine S_seq kk13 kk14 (by kernel_rfl) ?_
 by_cases c4 : s13 < (lN : Int)
 ·rw [if_pos c4] at h
  have b5 : (decide (s13 < (lN : Int))) = true := decide_eq_true c4
  refine S_env [(0, .pointer hv), (1, .int .u64 wv_2), (11, .slice lB lN lC), (12, .int .i64 (lN : Int)), (13, .int .i64 s13), (14, .bool true)] (by simp only [b5, Bool.not_true, Bool.not_false]) ?_
  clear b5
  refine S_condT (.tmp 14) kk15 kk16 (by kernel_rfl) (by kernel_rfl) ?_
  refine S_skip (by kernel_rfl) ?_
  refine S_then ?_
  refine S_seq kk17 kk18 (by kernel_rfl) ?_
  refine S_block 1 kk19 (by kernel_rfl) ?_
  refine T_sr 4 kk20 kk21 ?_
  refine N_sub [(0, .pointer hv), (1, .int .u64 wv_2), (11, .slice lB lN lC), (12, .int .i64 (lN : Int)), (13, .int .i64 s13)] (sb (by kernel_rfl)) ?_
  obtain ⟨lBA, rfl, h⟩ := h
  obtain ⟨q6, h⟩ := h
  refine N_val (some 15) (indexAtN 66 (.slice (some lBA) lN lC) (.int .i64 s13)) (.pointer (some (lBA.add (Int.toNat s13 * 1)))) (fun _=>by kernel_rfl) (fun w _ => indexAt_run (P := Tryz.prog) (t := 66) (elem := 3) (sz := 1) (a := lBA) (len := lN) (cap := lC) (k := .i64) (i := s13) Tryz.underlying66 (fun _=>by kernel_rfl) q6.1 q6.2 w) [(0, .pointer hv), (1, .int .u64 wv_2), (11, .slice (some lBA) lN lC), (12, .int .i64 (lN : Int)), (13, .int .i64 s13), (15, .pointer (some (lBA.add (Int.toNat s13 * 1))))] (ps (by kernel_rfl)) ?_
  obtain ⟨x, q7, h⟩ := h
  refine N_val (some 16) (loadN 3 (.pointer (some (lBA.add (Int.toNat s13 * 1))))) (.int .i64 x) (fun _=>by kernel_rfl) (loadN_run (loadOK_one (fun _=>by kernel_rfl) q7)) [(0, .pointer hv), (1, .int .u64 wv_2), (11, .slice (some lBA) lN lC), (12, .int .i64 (lN : Int)), (13, .int .i64 s13), (16, .int .i64 x)] (ps (by kernel_rfl)) ?_
  refine N_run 1 [(0, .pointer hv), (1, .int .u64 wv_2), (10, .int .i64 x), (11, .slice (some lBA) lN lC), (12, .int .i64 (lN : Int)), (13, .int .i64 s13)] (fun _=>by kernel_rfl) ?_
  refine T_e ?_
  refine S_seq kk22 kk23 (by kernel_rfl) ?_
  refine T_sr 5 kk24 kk25 ?_
  refine N_run 2 [(0, .pointer hv), (1, .int .u64 wv_2), (11, .slice (some lBA) lN lC), (12, .int .i64 (lN : Int)), (13, .int .i64 s13), (18, .bool (x == 0))] (fun _=>by kernel_rfl) ?_
  refine T_e ?_
  by_cases c8 : x = 0
  ·rw [if_pos c8] at h
   have b9 : (x == 0) = true := beq_iff_eq.mpr c8
   refine S_env [(0, .pointer hv), (1, .int .u64 wv_2), (11, .slice (some lBA) lN lC), (12, .int .i64 (lN : Int)), (13, .int .i64 s13), (18, .bool true)] (by simp only [b9, Bool.not_true, Bool.not_false]) ?_
   clear b9
   refine S_condT (.tmp 18) kk26 kk27 (by kernel_rfl) (by kernel_rfl) ?_
   refine S_region 6 (Code.ops kk26) (by kernel_rfl) ?_
   refine N_run 2 [(0, .pointer hv), (11, .slice (some lBA) lN lC), (12, .int .i64 (lN : Int)), (13, .int .i64 s13), (20, .pointer hv), (21, .int .u64 wv_2)] (fun _=>by kernel_rfl) ?_
   refine N_call (some 22) 9 #[.pointer hv, .int .u64 wv_2] (fun _=>by kernel_rfl) h ?_; clear h
   rintro v H2 ⟨ra, rb, rfl, h⟩
   refine ⟨[(0, .pointer hv), (11, .slice (some lBA) lN lC), (12, .int .i64 (lN : Int)), (13, .int .i64 s13), (22, .tuple #[.int .u64 ra, .int .i64 rb])], ps (by kernel_rfl), ?_⟩
   refine N_run 5 [(0, .pointer hv), (1, .int .u64 ra), (8, .int .i64 rb), (11, .slice (some lBA) lN lC), (12, .int .i64 (lN : Int)), (13, .int .i64 s13)] (fun _=>by kernel_rfl) ?_
   refine T_e ?_
   refine T_sr 8 kk28 kk29 ?_
   refine N_run 2 [(0, .pointer hv), (1, .int .u64 ra), (8, .int .i64 rb), (11, .slice (some lBA) lN lC), (12, .int .i64 (lN : Int)), (13, .int .i64 s13), (32, .bool (rb != 0))] (fun _=>by kernel_rfl) ?_
   refine T_e ?_
   by_cases c10 : rb = 0
   ·rw [if_pos c10] at h
    have b11 : (rb != 0) = false := bne_eq_false_iff_eq.mpr c10
    refine S_env [(0, .pointer hv), (1, .int .u64 ra), (8, .int .i64 rb), (11, .slice (some lBA) lN lC), (12, .int .i64 (lN : Int)), (13, .int .i64 s13), (32, .bool false)] (by simp only [b11, Bool.not_true, Bool.not_false]) ?_
    clear b11
    refine S_condF (.tmp 32) kk30 kk31 (by kernel_rfl) (by kernel_rfl) ?_
    refine S_skip (by kernel_rfl) ?_
    refine S_blockEnd ?_
    refine S_then ?_
    refine S_region 10 (Code.ops kk18) (by kernel_rfl) ?_
    refine N_run 2 [(0, .pointer hv), (1, .int .u64 ra), (11, .slice (some lBA) lN lC), (12, .int .i64 (lN : Int)), (13, .int .i64 (IntKind.wrap .i64 (s13 + 1)))] (fun _=>by kernel_rfl) ?_
    refine T_e ?_
    exact S_round ((ra, (IntKind.wrap .i64 (s13 + 1))) : Int × Int) (sb (by kernel_rfl)) h
   ·rw [if_neg c10] at h
    have b11 : (rb != 0) = true := bne_iff_ne.mpr c10
    refine S_env [(0, .pointer hv), (1, .int .u64 ra), (8, .int .i64 rb), (11, .slice (some lBA) lN lC), (12, .int .i64 (lN : Int)), (13, .int .i64 s13), (32, .bool true)] (by simp only [b11, Bool.not_true, Bool.not_false]) ?_
    clear b11
    refine S_condT (.tmp 32) kk30 kk31 (by kernel_rfl) (by kernel_rfl) ?_
    refine T_sr 9 kk32 kk33 ?_
    refine N_run 3 [(6, .int .u64 0), (7, .int .i64 rb)] (fun _=>by kernel_rfl) ?_
    refine T_e ?_
    refine S_ret (by kernel_rfl) ?_
    show At _ _ _ _ _ (Q .ret)
    exact S_done (fn := Tryz.f13) [.int .u64 0, .int .i64 rb] hQ (show ResOK _ _ _ [.tmp 6, .tmp 7] _ from .tmp (by kernel_rfl) (.tmp (by kernel_rfl) (.nil))) h
  ·rw [if_neg c8] at h
   have b9 : (x == 0) = false := beq_eq_false_iff_ne.mpr c8
   refine S_env [(0, .pointer hv), (1, .int .u64 wv_2), (11, .slice (some lBA) lN lC), (12, .int .i64 (lN : Int)), (13, .int .i64 s13), (18, .bool false)] (by simp only [b9, Bool.not_true, Bool.not_false]) ?_
   clear b9
   refine S_condF (.tmp 18) kk26 kk27 (by kernel_rfl) (by kernel_rfl) ?_
   refine S_region 7 (Code.ops kk27) (by kernel_rfl) ?_
   refine N_run 2 [(0, .pointer hv), (11, .slice (some lBA) lN lC), (12, .int .i64 (lN : Int)), (13, .int .i64 s13), (26, .pointer hv), (27, .int .u64 wv_2)] (fun _=>by kernel_rfl) ?_
   refine N_call (some 28) 12 #[.pointer hv, .int .u64 wv_2] (fun _=>by kernel_rfl) h ?_; clear h
   rintro v_2 H3 ⟨ra_2, rb_2, rfl, h⟩
   refine ⟨[(0, .pointer hv), (11, .slice (some lBA) lN lC), (12, .int .i64 (lN : Int)), (13, .int .i64 s13), (28, .tuple #[.int .u64 ra_2, .int .i64 rb_2])], ps (by kernel_rfl), ?_⟩
   refine N_run 5 [(0, .pointer hv), (1, .int .u64 ra_2), (8, .int .i64 rb_2), (11, .slice (some lBA) lN lC), (12, .int .i64 (lN : Int)), (13, .int .i64 s13)] (fun _=>by kernel_rfl) ?_
   refine T_e ?_
   refine T_sr 8 kk28 kk29 ?_
   refine N_run 2 [(0, .pointer hv), (1, .int .u64 ra_2), (8, .int .i64 rb_2), (11, .slice (some lBA) lN lC), (12, .int .i64 (lN : Int)), (13, .int .i64 s13), (32, .bool (rb_2 != 0))] (fun _=>by kernel_rfl) ?_
   refine T_e ?_
   by_cases c12 : rb_2 = 0
   ·rw [if_pos c12] at h
    have b13 : (rb_2 != 0) = false := bne_eq_false_iff_eq.mpr c12
    refine S_env [(0, .pointer hv), (1, .int .u64 ra_2), (8, .int .i64 rb_2), (11, .slice (some lBA) lN lC), (12, .int .i64 (lN : Int)), (13, .int .i64 s13), (32, .bool false)] (by simp only [b13, Bool.not_true, Bool.not_false]) ?_
    clear b13
    refine S_condF (.tmp 32) kk30 kk31 (by kernel_rfl) (by kernel_rfl) ?_
    refine S_skip (by kernel_rfl) ?_
    refine S_blockEnd ?_
    refine S_then ?_
    refine S_region 10 (Code.ops kk18) (by kernel_rfl) ?_
    refine N_run 2 [(0, .pointer hv), (1, .int .u64 ra_2), (11, .slice (some lBA) lN lC), (12, .int .i64 (lN : Int)), (13, .int .i64 (IntKind.wrap .i64 (s13 + 1)))] (fun _=>by kernel_rfl) ?_
    refine T_e ?_
    exact S_round ((ra_2, (IntKind.wrap .i64 (s13 + 1))) : Int × Int) (sb (by kernel_rfl)) h
   ·rw [if_neg c12] at h
    have b13 : (rb_2 != 0) = true := bne_iff_ne.mpr c12
    refine S_env [(0, .pointer hv), (1, .int .u64 ra_2), (8, .int .i64 rb_2), (11, .slice (some lBA) lN lC), (12, .int .i64 (lN : Int)), (13, .int .i64 s13), (32, .bool true)] (by simp only [b13, Bool.not_true, Bool.not_false]) ?_
    clear b13
    refine S_condT (.tmp 32) kk30 kk31 (by kernel_rfl) (by kernel_rfl) ?_
    refine T_sr 9 kk32 kk33 ?_
    refine N_run 3 [(6, .int .u64 0), (7, .int .i64 rb_2)] (fun _=>by kernel_rfl) ?_
    refine T_e ?_
    refine S_ret (by kernel_rfl) ?_
    show At _ _ _ _ _ (Q .ret)
    exact S_done (fn := Tryz.f13) [.int .u64 0, .int .i64 rb_2] hQ (show ResOK _ _ _ [.tmp 6, .tmp 7] _ from .tmp (by kernel_rfl) (.tmp (by kernel_rfl) (.nil))) h
 ·rw [if_neg c4] at h
  have b5 : (decide (s13 < (lN : Int))) = false := decide_eq_false c4
  refine S_env [(0, .pointer hv), (1, .int .u64 wv_2), (11, .slice lB lN lC), (12, .int .i64 (lN : Int)), (13, .int .i64 s13), (14, .bool false)] (by simp only [b5, Bool.not_true, Bool.not_false]) ?_
  clear b5
  refine S_condF (.tmp 14) kk15 kk16 (by kernel_rfl) (by kernel_rfl) ?_
  refine S_exit 0 (by kernel_rfl) ?_
  refine S_exitThen ?_
  refine S_exitThen ?_
  refine S_exitHere ?_
  refine S_then ?_
  refine T_sr 11 kk34 kk35 ?_
  refine N_run 3 [(6, .int .u64 wv_2), (7, .int .i64 0)] (fun _=>by kernel_rfl) ?_
  refine T_e ?_
  refine S_ret (by kernel_rfl) ?_
  show At _ _ _ _ _ (Q .ret)
  exact S_done (fn := Tryz.f13) [.int .u64 wv_2, .int .i64 0] hQ (show ResOK _ _ _ [.tmp 6, .tmp 7] _ from .tmp (by kernel_rfl) (.tmp (by kernel_rfl) (.nil))) h
end lists_steps

/-! moraine/lists.done -/
namespace lists_elements
def kk0 := Func.code Tryz.f17
def kk1 := Code.fa kk0
def kk2 := Code.fb kk0
def kk3 := Code.fa kk2
def kk4 := Code.fb kk2
def kk5 := Code.fa kk4
def kk6 := Code.fb kk4
def kk7 := Code.fa kk5
def kk8 := Code.fa kk7
def kk9 := Code.fb kk7
def kk10 := Code.fa kk9
def kk11 := Code.fb kk9
def kk12 := Code.fa kk10
def kk13 := Code.fb kk10
def kk14 := Code.fa kk11
def kk15 := Code.fb kk11
def kk16 := Code.fa kk15
def kk17 := Code.fb kk15
def kk18 := Code.fa kk17
def kk19 := Code.fb kk17
def kk20 := Code.fa kk19
def kk21 := Code.fb kk19
def kk22 := Code.fa kk20
def kk23 := Code.fb kk20
def kk24 := Code.fa kk6
def kk25 := Code.fb kk6
def kk26 := Code.fa kk25
def kk27 := Code.fb kk25
def kk28 := Code.fa kk16
def kk29 := Code.fb kk16
end lists_elements
def lists_elements.pt (hv : Option Addr) (nv : Int) (wv : Int) (H : Array Obj) (R : Value → Array Obj → Prop) : Prop :=
 lists_List.C hv wv H (fun v H1 => ∃ raB : Option Addr, ∃ raN : Nat, ∃ raC : Nat, ∃ rb : Bool, v = .tuple #[.slice raB raN raC, .bool rb] ∧ 
 if nv = 11 then (
 lists_truth.C rb H1 (fun v_2 H2 => ∃ x : Int, v_2 = .int .u64 x ∧ 
 R (.tuple #[.int .u64 x, .int .i64 0]) H2))
 else
 if rb = true then (
 if nv = 13 then (
 word_Fix.C (raN : Int) H1 (fun v_3 H3 => ∃ ra : Int, ∃ rb_2 : Int, v_3 = .tuple #[.int .u64 ra, .int .i64 rb_2] ∧ 
 R (.tuple #[.int .u64 ra, .int .i64 rb_2]) H3))
 else
 slices_Reverse_api_Word_api_Word.C raB raN raC H1 (fun _ H4 =>
 lists_row.C hv 20 raB raN raC H4 (fun v_5 H5 => ∃ ra_2 : Int, ∃ rb_3 : Int, v_5 = .tuple #[.int .u64 ra_2, .int .i64 rb_3] ∧ 
 R (.tuple #[.int .u64 ra_2, .int .i64 rb_3]) H5)))
 else
 R (.tuple #[.int .u64 0, .int .i64 3]) H1)
namespace lists_elements
set_option maxRecDepth 100000 in
theorem link {hv : Option Addr} {nv : Int} {wv : Int} {H : Array Obj} {R : Value → Array Obj → Prop} (h : pt hv nv wv H R) : C hv nv wv H R := by
 refine S_enter (fn := Tryz.f17) (c := kk0) 39 Tryz.func17 (by kernel_rfl) (by kernel_rfl) (Nat.le_of_ble_eq_true (by kernel_rfl)) ?_
 intro w0 Q hQ
 unfold pt at h
 refine S_sub [(0, .pointer hv), (1, .int .i64 nv), (2, .int .u64 wv)] (sb (by kernel_rfl)) ?_
 refine T_sr 0 kk1 kk2 ?_
 refine N_run 2 [(0, .pointer hv), (1, .int .i64 nv), (2, .int .u64 wv)] (fun _=>by kernel_rfl) ?_
 refine T_e ?_
 refine T_sr 1 kk3 kk4 ?_
 refine N_run 2 [(0, .pointer hv), (1, .int .i64 nv), (11, .pointer hv), (12, .int .u64 wv)] (fun _=>by kernel_rfl) ?_
 refine N_call (some 13) 33 #[.pointer hv, .int .u64 wv] (fun _=>by kernel_rfl) h ?_; clear h
 rintro v H1 ⟨raB, raN, raC, rb, rfl, h⟩
 refine ⟨[(0, .pointer hv), (1, .int .i64 nv), (13, .tuple #[.slice raB raN raC, .bool rb])], ps (by kernel_rfl), ?_⟩
 refine N_run 5 [(0, .pointer hv), (1, .int .i64 nv), (8, .slice raB raN raC), (9, .bool rb)] (fun _=>by kernel_rfl) ?_
 refine T_e ?_
 refine S_seq kk5 kk6 (by kernel_rfl) ?_
 refine S_block 0 kk7 (by kernel_rfl) ?_
 refine T_sr 2 kk8 kk9 ?_
 refine N_run 3 [(0, .pointer hv), (1, .int .i64 nv), (8, .slice raB raN raC), (9, .bool rb), (16, .bool (nv == 11))] (fun _=>by kernel_rfl) ?_
 refine T_e ?_
 by_cases c1 : nv = 11
 ·rw [if_pos c1] at h
  have b2 : (nv == 11) = true := beq_iff_eq.mpr c1
  refine S_env [(0, .pointer hv), (1, .int .i64 nv), (8, .slice raB raN raC), (9, .bool rb), (16, .bool true)] (by simp only [b2, Bool.not_true, Bool.not_false]) ?_
  clear b2
  refine S_condT (.tmp 16) kk10 kk11 (by kernel_rfl) (by kernel_rfl) ?_
  refine T_sr 3 kk12 kk13 ?_
  refine N_run 1 [(19, .bool rb)] (fun _=>by kernel_rfl) ?_
  refine N_call (some 20) 34 #[.bool rb] (fun _=>by kernel_rfl) h ?_; clear h
  rintro v_2 H2 ⟨x, rfl, h⟩
  refine ⟨[(20, .int .u64 x)], ps (by kernel_rfl), ?_⟩
  refine N_run 2 [(6, .int .u64 x), (7, .int .i64 0)] (fun _=>by kernel_rfl) ?_
  refine T_e ?_
  refine S_ret (by kernel_rfl) ?_
  show At _ _ _ _ _ (Q .ret)
  exact S_done (fn := Tryz.f17) [.int .u64 x, .int .i64 0] hQ (show ResOK _ _ _ [.tmp 6, .tmp 7] _ from .tmp (by kernel_rfl) (.tmp (by kernel_rfl) (.nil))) h
 ·rw [if_neg c1] at h
  have b2 : (nv == 11) = false := beq_eq_false_iff_ne.mpr c1
  refine S_env [(0, .pointer hv), (1, .int .i64 nv), (8, .slice raB raN raC), (9, .bool rb), (16, .bool false)] (by simp only [b2, Bool.not_true, Bool.not_false]) ?_
  clear b2
  refine S_condF (.tmp 16) kk10 kk11 (by kernel_rfl) (by kernel_rfl) ?_
  refine T_sr 4 kk14 kk15 ?_
  refine N_run 3 [(0, .pointer hv), (1, .int .i64 nv), (8, .slice raB raN raC), (21, .bool (!rb))] (fun _=>by kernel_rfl) ?_
  refine T_e ?_
  by_cases c3 : rb = true
  ·rw [if_pos c3] at h
   have b4 : (!rb) = false := congrArg Bool.not (c3)
   have b42 : rb = true := c3
   refine S_env [(0, .pointer hv), (1, .int .i64 nv), (8, .slice raB raN raC), (21, .bool false)] (by simp only [b4, b42, Bool.not_true, Bool.not_false]) ?_
   clear b4 b42
   refine S_condF (.tmp 21) kk16 kk17 (by kernel_rfl) (by kernel_rfl) ?_
   refine T_sr 6 kk18 kk19 ?_
   refine N_run 3 [(0, .pointer hv), (8, .slice raB raN raC), (24, .bool (nv == 13))] (fun _=>by kernel_rfl) ?_
   refine T_e ?_
   by_cases c5 : nv = 13
   ·rw [if_pos c5] at h
    have b6 : (nv == 13) = true := beq_iff_eq.mpr c5
    refine S_env [(0, .pointer hv), (8, .slice raB raN raC), (24, .bool true)] (by simp only [b6, Bool.not_true, Bool.not_false]) ?_
    clear b6
    refine S_condT (.tmp 24) kk20 kk21 (by kernel_rfl) (by kernel_rfl) ?_
    refine T_sr 7 kk22 kk23 ?_
    refine N_run 2 [(28, .int .i64 (raN : Int))] (fun _=>by kernel_rfl) ?_
    refine N_call (some 29) 35 #[.int .i64 (raN : Int)] (fun _=>by kernel_rfl) h ?_; clear h
    rintro v_3 H3 ⟨ra, rb_2, rfl, h⟩
    refine ⟨[(29, .tuple #[.int .u64 ra, .int .i64 rb_2])], ps (by kernel_rfl), ?_⟩
    refine N_run 4 [(6, .int .u64 ra), (7, .int .i64 rb_2)] (fun _=>by kernel_rfl) ?_
    refine T_e ?_
    refine S_ret (by kernel_rfl) ?_
    show At _ _ _ _ _ (Q .ret)
    exact S_done (fn := Tryz.f17) [.int .u64 ra, .int .i64 rb_2] hQ (show ResOK _ _ _ [.tmp 6, .tmp 7] _ from .tmp (by kernel_rfl) (.tmp (by kernel_rfl) (.nil))) h
   ·rw [if_neg c5] at h
    have b6 : (nv == 13) = false := beq_eq_false_iff_ne.mpr c5
    refine S_env [(0, .pointer hv), (8, .slice raB raN raC), (24, .bool false)] (by simp only [b6, Bool.not_true, Bool.not_false]) ?_
    clear b6
    refine S_condF (.tmp 24) kk20 kk21 (by kernel_rfl) (by kernel_rfl) ?_
    refine S_skip (by kernel_rfl) ?_
    refine S_blockEnd ?_
    refine S_then ?_
    refine T_sr 8 kk24 kk25 ?_
    refine N_run 1 [(0, .pointer hv), (8, .slice raB raN raC), (32, .slice raB raN raC)] (fun _=>by kernel_rfl) ?_
    refine N_call (some 33) 36 #[.slice raB raN raC] (fun _=>by kernel_rfl) h ?_; clear h
    intro v_4 H4 h
    refine ⟨[(0, .pointer hv), (8, .slice raB raN raC)], ps (by kernel_rfl), ?_⟩
    refine T_e ?_
    refine T_sr 9 kk26 kk27 ?_
    refine N_run 2 [(34, .pointer hv), (35, .slice raB raN raC)] (fun _=>by kernel_rfl) ?_
    refine N_call (some 36) 18 #[.pointer hv, .int .u64 20, .slice raB raN raC] (fun _=>by kernel_rfl) h ?_; clear h
    rintro v_5 H5 ⟨ra_2, rb_3, rfl, h⟩
    refine ⟨[(36, .tuple #[.int .u64 ra_2, .int .i64 rb_3])], ps (by kernel_rfl), ?_⟩
    refine N_run 4 [(6, .int .u64 ra_2), (7, .int .i64 rb_3)] (fun _=>by kernel_rfl) ?_
    refine T_e ?_
    refine S_ret (by kernel_rfl) ?_
    show At _ _ _ _ _ (Q .ret)
    exact S_done (fn := Tryz.f17) [.int .u64 ra_2, .int .i64 rb_3] hQ (show ResOK _ _ _ [.tmp 6, .tmp 7] _ from .tmp (by kernel_rfl) (.tmp (by kernel_rfl) (.nil))) h
  ·rw [if_neg c3] at h
   have b4 : (!rb) = true := congrArg Bool.not (eq_false_of_ne_true c3)
   have b42 : rb = false := eq_false_of_ne_true c3
   refine S_env [(0, .pointer hv), (1, .int .i64 nv), (8, .slice raB raN raC), (21, .bool true)] (by simp only [b4, b42, Bool.not_true, Bool.not_false]) ?_
   clear b4 b42
   refine S_condT (.tmp 21) kk16 kk17 (by kernel_rfl) (by kernel_rfl) ?_
   refine T_sr 5 kk28 kk29 ?_
   refine N_run 2 [(6, .int .u64 0), (7, .int .i64 3)] (fun _=>by kernel_rfl) ?_
   refine T_e ?_
   refine S_ret (by kernel_rfl) ?_
   show At _ _ _ _ _ (Q .ret)
   exact S_done (fn := Tryz.f17) [.int .u64 0, .int .i64 3] hQ (show ResOK _ _ _ [.tmp 6, .tmp 7] _ from .tmp (by kernel_rfl) (.tmp (by kernel_rfl) (.nil))) h
end lists_elements

/-! moraine/lists.row -/
namespace lists_row
def kk0 := Func.code Tryz.f18
def kk1 := Code.fa kk0
def kk2 := Code.fb kk0
def kk3 := Code.fa kk2
def kk4 := Code.fb kk2
def kk5 := Code.fa kk4
def kk6 := Code.fb kk4
def kk7 := Code.fa kk5
def kk8 := Code.fb kk5
def kk9 := Code.fa kk8
def kk10 := Code.fa kk9
def kk11 := Code.fb kk9
def kk12 := Code.fa kk11
def kk13 := Code.fa kk12
def kk14 := Code.fb kk12
def kk15 := Code.fa kk14
def kk16 := Code.fb kk14
def kk17 := Code.fa kk16
def kk18 := Code.fb kk16
def kk19 := Code.fa kk17
def kk20 := Code.fb kk17
def kk21 := Code.fa kk6
def kk22 := Code.fb kk6
end lists_row
def lists_row.pt (hv : Option Addr) (tail : Int) (lB : Option Addr) (lN : Nat) (lC : Nat) (H : Array Obj) (R : Value → Array Obj → Prop) : Prop :=
 ∀ (b : Nat) (H1 : Array Obj), b = H.size → H1 = H.push (.cells #[.pointer hv] 24) →
 ∀ (b_2 : Nat) (H2 : Array Obj), b_2 = H1.size → H2 = H1.push (.cells #[.int .u64 0] 26) →
 ∀ (b_3 : Nat) (H3 : Array Obj), b_3 = H2.size → H3 = H2.push (.cells #[.int .i64 0] 27) →
 (CanPuts H3 (Addr.mk b_2 0 none) 0 1) ∧ ∀ H4 : Array Obj, H4 = hputs H3 (Addr.mk b_2 0 none) [.int .u64 tail] 0 →
 slices_Backward_api_Word_api_Word.C lB lN lC H4 (fun v H5 => v = v ∧ 
 ∀ (rc : LoopState → Option Code → Obj) (lp : Nat) (H6 : Array Obj), lp = H5.size + 1 → H6 = (H5.push (.deferred (some []))).push (rc .ready none) →
 ∀ vY : Value, (∀ (x_2 : Int) (x_3 : Int) (H7 : Array Obj) (vRy : Value → Array Obj → Prop), H7[lp]? = some (rc .ready none) →
 ( H7[lp]? = some (rc .ready none) ∧ ∀ H8 : Array Obj, H8 = setBlk H7 lp (rc .busy none) →
 ∃ x_4 : Option Addr, hat H8 (Addr.mk b 0 none) = some (.pointer x_4) ∧
 ∃ x_5 : Int, hat H8 (Addr.mk b_2 0 none) = some (.int .u64 x_5) ∧
 obj_Heap_Cons.C x_4 x_3 x_5 H8 (fun v_2 H9 => ∃ ra : Int, ∃ rb : Int, v_2 = .tuple #[.int .u64 ra, .int .i64 rb] ∧ 
 (CanPuts H9 (Addr.mk b_2 0 none) 0 1) ∧ ∀ H10 : Array Obj, H10 = hputs H9 (Addr.mk b_2 0 none) [.int .u64 ra] 0 →
 (CanPuts H10 (Addr.mk b_3 0 none) 0 1) ∧ ∀ H11 : Array Obj, H11 = hputs H10 (Addr.mk b_3 0 none) [.int .i64 rb] 0 →
 ∃ x_6 : Int, hat H11 (Addr.mk b_3 0 none) = some (.int .i64 x_6) ∧
 if x_6 = 0 then (
 H11[lp]? = some (rc .busy none) ∧
 vRy (.bool true) (setBlk H11 lp (rc .ready none)))
 else
 ∃ x_7 : Int, hat H11 (Addr.mk b_3 0 none) = some (.int .i64 x_7) ∧
 (CanPuts H11 (Addr.mk b_2 0 none) 0 1) ∧ ∀ H12 : Array Obj, H12 = hputs H11 (Addr.mk b_2 0 none) [.int .u64 0] 0 → RowAt H12 (Addr.mk b_3 0 none) 0 [.int .i64 x_7] ∧ 
 (CanPuts H12 (Addr.mk b_3 0 none) 0 1) ∧ ∀ H13 : Array Obj, H13 = hputs H12 (Addr.mk b_3 0 none) [.int .i64 x_7] 0 → 
 H13[lp]? = some (rc .busy none) ∧
 vRy (.bool false) (setBlk H13 lp (rc .done (some .ret))))) →
 FC Tryz.prog vY #[.int .i64 x_2, .int .u64 x_3] H7 vRy) →
 FE Tryz.prog v #[vY] H6 (fun _ H14 =>
 (H14[lp]? = some (rc .ready none) ∧ ∀ H15 : Array Obj, H15 = setBlk H14 lp (rc .exhausted none) →
 ∃ x_8 : Int, hat H15 (Addr.mk b_2 0 none) = some (.int .u64 x_8) ∧
 (CanPuts H15 (Addr.mk b_2 0 none) 0 1) ∧ ∀ H16 : Array Obj, H16 = hputs H15 (Addr.mk b_2 0 none) [.int .u64 x_8] 0 →
 (CanPuts H16 (Addr.mk b_3 0 none) 0 1) ∧ ∀ H17 : Array Obj, H17 = hputs H16 (Addr.mk b_3 0 none) [.int .i64 0] 0 →
 Shut (H5.size :: []) H17 (fun H18 =>
 ∃ r : Int, hat H18 (Addr.mk b_2 0 none) = some (.int .u64 r) ∧
 ∃ r_2 : Int, hat H18 (Addr.mk b_3 0 none) = some (.int .i64 r_2) ∧
 R (.tuple #[.int .u64 r, .int .i64 r_2]) H18)) ∨
 (H14[lp]? = some (rc .done (some .ret)) ∧ ∀ H15 : Array Obj, H15 = setBlk H14 lp (rc .exhausted (some .ret)) →
 Shut (H5.size :: []) H15 (fun H19 =>
 ∃ r_3 : Int, hat H19 (Addr.mk b_2 0 none) = some (.int .u64 r_3) ∧
 ∃ r_4 : Int, hat H19 (Addr.mk b_3 0 none) = some (.int .i64 r_4) ∧
 R (.tuple #[.int .u64 r_3, .int .i64 r_4]) H19))))
namespace lists_row
set_option maxRecDepth 100000 in
theorem link {hv : Option Addr} {tail : Int} {lB : Option Addr} {lN : Nat} {lC : Nat} {H : Array Obj} {R : Value → Array Obj → Prop} (h : pt hv tail lB lN lC H R) : C hv tail lB lN lC H R := by
 refine S_enter (fn := Tryz.f18) (c := kk0) 26 Tryz.func18 (by kernel_rfl) (by kernel_rfl) (Nat.le_of_ble_eq_true (by kernel_rfl)) ?_
 intro w0 Q hQ
 unfold pt at h
 refine S_sub [(0, .pointer hv), (1, .int .u64 tail), (2, .slice lB lN lC)] (sb (by kernel_rfl)) ?_
 refine T_sr 0 kk1 kk2 ?_
 refine N_new (some 3) (fun b => .pointer (some (Addr.mk b 0 none))) (.cells #[.pointer hv] 24) (fun _=>by kernel_rfl) ?_
 intro b H1 e1 e2
 replace h := h b H1 e1 e2
 refine ⟨[(1, .int .u64 tail), (2, .slice lB lN lC), (3, .pointer (some (Addr.mk b 0 none)))], ps (by kernel_rfl), ?_⟩
 refine N_new (some 6) (fun b => .pointer (some (Addr.mk b 0 none))) (.cells #[.int .u64 0] 26) (fun _=>by kernel_rfl) ?_
 intro b_2 H2 e3 e4
 replace h := h b_2 H2 e3 e4
 refine ⟨[(1, .int .u64 tail), (2, .slice lB lN lC), (3, .pointer (some (Addr.mk b 0 none))), (6, .pointer (some (Addr.mk b_2 0 none)))], ps (by kernel_rfl), ?_⟩
 refine N_new (some 7) (fun b => .pointer (some (Addr.mk b 0 none))) (.cells #[.int .i64 0] 27) (fun _=>by kernel_rfl) ?_
 intro b_3 H3 e5 e6
 replace h := h b_3 H3 e5 e6
 refine ⟨[(1, .int .u64 tail), (2, .slice lB lN lC), (3, .pointer (some (Addr.mk b 0 none))), (6, .pointer (some (Addr.mk b_2 0 none))), (7, .pointer (some (Addr.mk b_3 0 none)))], ps (by kernel_rfl), ?_⟩
 refine T_e ?_
 refine T_sr 1 kk3 kk4 ?_
 refine N_run 1 [(2, .slice lB lN lC), (3, .pointer (some (Addr.mk b 0 none))), (6, .pointer (some (Addr.mk b_2 0 none))), (7, .pointer (some (Addr.mk b_3 0 none))), (10, .int .u64 tail)] (fun _=>by kernel_rfl) ?_
 obtain ⟨q8, h⟩ := h
 refine N_skipop none (storeN 26 (.pointer (some (Addr.mk b_2 0 none))) (.int .u64 tail)) (fun Hz => Hz = hputs H3 (Addr.mk b_2 0 none) [.int .u64 tail] 0) (fun _=>by kernel_rfl) (ss_store [.int .u64 tail] 1 (by kernel_rfl) (by kernel_rfl) (fun _=>by kernel_rfl) (by kernel_rfl) q8) ?_
 intro H4 e7
 replace h := h H4 e7
 refine ⟨[(2, .slice lB lN lC), (3, .pointer (some (Addr.mk b 0 none))), (6, .pointer (some (Addr.mk b_2 0 none))), (7, .pointer (some (Addr.mk b_3 0 none)))], ps (by kernel_rfl), ?_⟩
 refine T_e ?_
 refine S_seq kk5 kk6 (by kernel_rfl) ?_
 refine T_sr 2 kk7 kk8 ?_
 refine N_run 1 [(3, .pointer (some (Addr.mk b 0 none))), (6, .pointer (some (Addr.mk b_2 0 none))), (7, .pointer (some (Addr.mk b_3 0 none))), (11, .slice lB lN lC)] (fun _=>by kernel_rfl) ?_
 refine N_call (some 12) 37 #[.slice lB lN lC] (fun _=>by kernel_rfl) h ?_; clear h
 rintro v H5 ⟨-, h⟩
 refine ⟨[(3, .pointer (some (Addr.mk b 0 none))), (6, .pointer (some (Addr.mk b_2 0 none))), (7, .pointer (some (Addr.mk b_3 0 none))), (12, v)], ps (by kernel_rfl), ?_⟩
 refine T_e ?_
 refine S_block 0 kk9 (by kernel_rfl) ?_
 refine S_range (g := .tmp 12) (ps := #[13, 14]) (assign := kk10) (body := kk11) (v) (by kernel_rfl) (by kernel_rfl) (by kernel_rfl) ?_
 intro rc lp H6 r9 e10 e11 y12
 refine FE.mono (h rc lp H6 e10 e11 (.func (.yield lp) #[] #[]) ?_) ?_
 ·clear h
  intro x_2 x_3 H7 vRy q13 h
  refine y12 #[.int .i64 x_2, .int .u64 x_3] H7 vRy (by kernel_rfl) q13 (fun w1x => ?_)
  refine S_sub [(3, .pointer (some (Addr.mk b 0 none))), (6, .pointer (some (Addr.mk b_2 0 none))), (7, .pointer (some (Addr.mk b_3 0 none))), (12, v), (13, .int .i64 x_2), (14, .int .u64 x_3)] (sb (by kernel_rfl)) ?_
  refine S_region 3 (Code.ops kk10) (by kernel_rfl) ?_
  refine N_run 1 [(3, .pointer (some (Addr.mk b 0 none))), (6, .pointer (some (Addr.mk b_2 0 none))), (7, .pointer (some (Addr.mk b_3 0 none))), (9, .int .u64 x_3)] (fun _=>by kernel_rfl) ?_
  refine N_end (by kernel_rfl) ?_
  obtain ⟨q15, h⟩ := h
  refine S_then ?_
  refine S_begin r9 q15 ?_
  intro H8 e14
  replace h := h H8 e14
  refine S_block 1 kk12 (by kernel_rfl) ?_
  refine T_sr 4 kk13 kk14 ?_
  obtain ⟨x_4, q16, h⟩ := h
  refine N_val (some 16) (loadN 24 (.pointer (some (Addr.mk b 0 none)))) (.pointer x_4) (fun _=>by kernel_rfl) (loadN_run (loadOK_one (fun _=>by kernel_rfl) q16)) [(6, .pointer (some (Addr.mk b_2 0 none))), (7, .pointer (some (Addr.mk b_3 0 none))), (9, .int .u64 x_3), (16, .pointer x_4)] (ps (by kernel_rfl)) ?_
  refine N_run 1 [(6, .pointer (some (Addr.mk b_2 0 none))), (7, .pointer (some (Addr.mk b_3 0 none))), (16, .pointer x_4), (17, .int .u64 x_3)] (fun _=>by kernel_rfl) ?_
  obtain ⟨x_5, q17, h⟩ := h
  refine N_val (some 18) (loadN 26 (.pointer (some (Addr.mk b_2 0 none)))) (.int .u64 x_5) (fun _=>by kernel_rfl) (loadN_run (loadOK_one (fun _=>by kernel_rfl) q17)) [(6, .pointer (some (Addr.mk b_2 0 none))), (7, .pointer (some (Addr.mk b_3 0 none))), (16, .pointer x_4), (17, .int .u64 x_3), (18, .int .u64 x_5)] (ps (by kernel_rfl)) ?_
  refine N_call (some 19) 11 #[.pointer x_4, .int .u64 x_3, .int .u64 x_5] (fun _=>by kernel_rfl) h ?_; clear h
  rintro v_2 H9 ⟨ra, rb, rfl, h⟩
  refine ⟨[(6, .pointer (some (Addr.mk b_2 0 none))), (7, .pointer (some (Addr.mk b_3 0 none))), (19, .tuple #[.int .u64 ra, .int .i64 rb])], ps (by kernel_rfl), ?_⟩
  refine N_run 3 [(6, .pointer (some (Addr.mk b_2 0 none))), (7, .pointer (some (Addr.mk b_3 0 none))), (20, .int .u64 ra), (21, .int .i64 rb)] (fun _=>by kernel_rfl) ?_
  obtain ⟨q19, h⟩ := h
  refine N_skipop none (storeN 26 (.pointer (some (Addr.mk b_2 0 none))) (.int .u64 ra)) (fun Hz => Hz = hputs H9 (Addr.mk b_2 0 none) [.int .u64 ra] 0) (fun _=>by kernel_rfl) (ss_store [.int .u64 ra] 1 (by kernel_rfl) (by kernel_rfl) (fun _=>by kernel_rfl) (by kernel_rfl) q19) ?_
  intro H10 e18
  replace h := h H10 e18
  refine ⟨[(6, .pointer (some (Addr.mk b_2 0 none))), (7, .pointer (some (Addr.mk b_3 0 none))), (21, .int .i64 rb)], ps (by kernel_rfl), ?_⟩
  obtain ⟨q21, h⟩ := h
  refine N_skipop none (storeN 27 (.pointer (some (Addr.mk b_3 0 none))) (.int .i64 rb)) (fun Hz => Hz = hputs H10 (Addr.mk b_3 0 none) [.int .i64 rb] 0) (fun _=>by kernel_rfl) (ss_store [.int .i64 rb] 1 (by kernel_rfl) (by kernel_rfl) (fun _=>by kernel_rfl) (by kernel_rfl) q21) ?_
  intro H11 e20
  replace h := h H11 e20
  refine ⟨[(6, .pointer (some (Addr.mk b_2 0 none))), (7, .pointer (some (Addr.mk b_3 0 none)))], ps (by kernel_rfl), ?_⟩
  refine T_e ?_
  refine T_sr 5 kk15 kk16 ?_
  obtain ⟨x_6, q22, h⟩ := h
  refine N_val (some 22) (loadN 27 (.pointer (some (Addr.mk b_3 0 none)))) (.int .i64 x_6) (fun _=>by kernel_rfl) (loadN_run (loadOK_one (fun _=>by kernel_rfl) q22)) [(6, .pointer (some (Addr.mk b_2 0 none))), (7, .pointer (some (Addr.mk b_3 0 none))), (22, .int .i64 x_6)] (ps (by kernel_rfl)) ?_
  refine N_run 1 [(6, .pointer (some (Addr.mk b_2 0 none))), (7, .pointer (some (Addr.mk b_3 0 none))), (23, .bool (x_6 != 0))] (fun _=>by kernel_rfl) ?_
  refine T_e ?_
  by_cases c23 : x_6 = 0
  ·rw [if_pos c23] at h
   have b24 : (x_6 != 0) = false := bne_eq_false_iff_eq.mpr c23
   refine S_env [(6, .pointer (some (Addr.mk b_2 0 none))), (7, .pointer (some (Addr.mk b_3 0 none))), (23, .bool false)] (by simp only [b24, Bool.not_true, Bool.not_false]) ?_
   clear b24
   refine S_condF (.tmp 23) kk17 kk18 (by kernel_rfl) (by kernel_rfl) ?_
   refine S_skip (by kernel_rfl) ?_
   refine S_blockEnd ?_
   obtain ⟨q25, h⟩ := h
   exact S_rnormal r9 q25 h
  ·rw [if_neg c23] at h
   have b24 : (x_6 != 0) = true := bne_iff_ne.mpr c23
   refine S_env [(6, .pointer (some (Addr.mk b_2 0 none))), (7, .pointer (some (Addr.mk b_3 0 none))), (23, .bool true)] (by simp only [b24, Bool.not_true, Bool.not_false]) ?_
   clear b24
   refine S_condT (.tmp 23) kk17 kk18 (by kernel_rfl) (by kernel_rfl) ?_
   refine S_seq kk19 kk20 (by kernel_rfl) ?_
   obtain ⟨x_7, q26, h⟩ := h
   refine S_regionG 6 (Code.ops kk19) [(2, (Addr.mk b_3 0 none), [.int .i64 x_7])] 3 #[false, false, false] (by kernel_rfl) (by kernel_rfl) (by kernel_rfl) (by kernel_rfl) (by kernel_rfl) (show FactsAt _ _ _ from ⟨⟨q26, trivial⟩, trivial⟩) ?_
   refine G_take 0 (some 24) (.int .i64 x_7) #[true, false, false] [(6, .pointer (some (Addr.mk b_2 0 none))), (7, .pointer (some (Addr.mk b_3 0 none))), (24, .int .i64 x_7)] (loadN 27 (.pointer (some (Addr.mk b_3 0 none)))) (fun _=>by kernel_rfl) (held_one 2 (fun _=>by kernel_rfl) (List.Mem.head _) (.inl (by kernel_rfl))) (by kernel_rfl) (by kernel_rfl) (by kernel_rfl) (by kernel_rfl) (by kernel_rfl) (by kernel_rfl) (ps (by kernel_rfl)) ?_
   obtain ⟨q29, h⟩ := h
   refine G_onlyskip 1 none #[true, true, false] (storeN 26 (.pointer (some (Addr.mk b_2 0 none))) (.int .u64 0)) (fun Hz => Hz = hputs H11 (Addr.mk b_2 0 none) [.int .u64 0] 0) (by kernel_rfl) (fun _=>by kernel_rfl) (ss_store [.int .u64 0] 1 (by kernel_rfl) (by kernel_rfl) (fun _=>by kernel_rfl) (by kernel_rfl) q29) (by kernel_rfl) ?_
   intro H12 e28
   replace h := h H12 e28
   obtain ⟨f27, h⟩ := h
   refine ⟨[(7, .pointer (some (Addr.mk b_3 0 none))), (24, .int .i64 x_7)], ps (by kernel_rfl), (show FactsAt _ _ _ from ⟨f27, trivial⟩), ?_⟩
   obtain ⟨q31, h⟩ := h
   refine G_onlyskip 2 none #[true, true, true] (storeN 27 (.pointer (some (Addr.mk b_3 0 none))) (.int .i64 x_7)) (fun Hz => Hz = hputs H12 (Addr.mk b_3 0 none) [.int .i64 x_7] 0) (by kernel_rfl) (fun _=>by kernel_rfl) (ss_store [.int .i64 x_7] 1 (by kernel_rfl) (by kernel_rfl) (fun _=>by kernel_rfl) (by kernel_rfl) q31) (by kernel_rfl) ?_
   intro H13 e30
   replace h := h H13 e30
   refine ⟨[], ps (by kernel_rfl), (show FactsAt _ _ _ from ⟨trivial, trivial⟩), ?_⟩
   refine G_sub [] (sb (by kernel_rfl)) ?_
   refine G_end (by kernel_rfl) ?_
   refine S_then ?_
   refine S_ret (by kernel_rfl) ?_
   show At _ _ _ _ _ (roundPost _ _ _ .ret)
   obtain ⟨q32, h⟩ := h
   exact S_rret r9 q32 h
 ·clear h y12
  rintro _ H14 (⟨q33, h⟩ | ⟨q33, h⟩)
  ·refine .inl ⟨q33, fun H15 e43 => ?_⟩
   replace h := h H15 e43
   refine S_marks (H5.size :: []) rfl ?_
   refine S_sub [(6, .pointer (some (Addr.mk b_2 0 none))), (7, .pointer (some (Addr.mk b_3 0 none)))] (sb (by kernel_rfl)) ?_
   refine S_blockEnd ?_
   refine S_then ?_
   refine T_sr 7 kk21 kk22 ?_
   obtain ⟨x_8, q34, h⟩ := h
   refine N_val (some 25) (loadN 26 (.pointer (some (Addr.mk b_2 0 none)))) (.int .u64 x_8) (fun _=>by kernel_rfl) (loadN_run (loadOK_one (fun _=>by kernel_rfl) q34)) [(6, .pointer (some (Addr.mk b_2 0 none))), (7, .pointer (some (Addr.mk b_3 0 none))), (25, .int .u64 x_8)] (ps (by kernel_rfl)) ?_
   obtain ⟨q36, h⟩ := h
   refine N_skipop none (storeN 26 (.pointer (some (Addr.mk b_2 0 none))) (.int .u64 x_8)) (fun Hz => Hz = hputs H15 (Addr.mk b_2 0 none) [.int .u64 x_8] 0) (fun _=>by kernel_rfl) (ss_store [.int .u64 x_8] 1 (by kernel_rfl) (by kernel_rfl) (fun _=>by kernel_rfl) (by kernel_rfl) q36) ?_
   intro H16 e35
   replace h := h H16 e35
   refine ⟨[(6, .pointer (some (Addr.mk b_2 0 none))), (7, .pointer (some (Addr.mk b_3 0 none)))], ps (by kernel_rfl), ?_⟩
   obtain ⟨q38, h⟩ := h
   refine N_skipop none (storeN 27 (.pointer (some (Addr.mk b_3 0 none))) (.int .i64 0)) (fun Hz => Hz = hputs H16 (Addr.mk b_3 0 none) [.int .i64 0] 0) (fun _=>by kernel_rfl) (ss_store [.int .i64 0] 1 (by kernel_rfl) (by kernel_rfl) (fun _=>by kernel_rfl) (by kernel_rfl) q38) ?_
   intro H17 e37
   replace h := h H17 e37
   refine ⟨[(6, .pointer (some (Addr.mk b_2 0 none))), (7, .pointer (some (Addr.mk b_3 0 none)))], ps (by kernel_rfl), ?_⟩
   refine T_e ?_
   refine S_ret (by kernel_rfl) ?_
   show At _ _ _ _ _ (Q .ret)
   refine S_doneM (fn := Tryz.f18) (H5.size :: []) hQ (Shut.mono (fun H18 h => ?_) h)
   obtain ⟨r, q39, h⟩ := h
   obtain ⟨r_2, q40, h⟩ := h
   exact ⟨[.int .u64 r, .int .i64 r_2], (show ResOK _ _ _ [.cell 6 26, .cell 7 27] _ from .cell (by kernel_rfl) (loadOK_one (fun _=>by kernel_rfl) q39) (.cell (by kernel_rfl) (loadOK_one (fun _=>by kernel_rfl) q40) (.nil))), h⟩
  ·refine .inr ⟨_, q33, fun H15 e43 => ?_⟩
   replace h := h H15 e43
   refine S_marks (H5.size :: []) rfl ?_
   refine S_sub [(6, .pointer (some (Addr.mk b_2 0 none))), (7, .pointer (some (Addr.mk b_3 0 none)))] (sb (by kernel_rfl)) ?_
   refine S_ret rfl ?_
   show At _ _ _ _ _ (Q .ret)
   refine S_doneM (fn := Tryz.f18) (H5.size :: []) hQ (Shut.mono (fun H19 h => ?_) h)
   obtain ⟨r_3, q41, h⟩ := h
   obtain ⟨r_4, q42, h⟩ := h
   exact ⟨[.int .u64 r_3, .int .i64 r_4], (show ResOK _ _ _ [.cell 6 26, .cell 7 27] _ from .cell (by kernel_rfl) (loadOK_one (fun _=>by kernel_rfl) q41) (.cell (by kernel_rfl) (loadOK_one (fun _=>by kernel_rfl) q42) (.nil))), h⟩
end lists_row

/-! moraine/lists.joins -/
end Go.Proofs.YthlohokmnajpoaaGreat
