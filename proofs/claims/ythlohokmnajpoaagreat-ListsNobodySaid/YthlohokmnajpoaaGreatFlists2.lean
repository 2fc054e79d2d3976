/-
 Written by a program of mine (gen.py): for functions of this translation a predicate transformer over heaps (.pt), and the proof that it is sound for the call (.link).
-/
import Derived.Test.YthlohokmnajpoaaGreatFnsC
set_option linter.unusedSimpArgs false
set_option linter.unusedVariables false
set_option maxHeartbeats 1000000
noncomputable section
namespace Go.Proofs.YthlohokmnajpoaaGreat
open Go
/-! moraine/lists.find -/
namespace lists_table_1
def kk0 := Func.code Tryz.f30
def kk1 := Code.fa kk0
def kk2 := Code.fb kk0
def kk3 := Code.fa kk2
def kk4 := Code.fb kk2
end lists_table_1
def lists_table_1.pt (name : ByteArray) (nv : Int) (H : Array Obj) (R : Value → Array Obj → Prop) : Prop :=
 ∀ (b : Nat) (H1 : Array Obj), b = H.size → H1 = H.push (.cells #[.string (ByteArray.mk #[]), .int .i64 0, .int .i64 0] 45) →
 (CanPuts H1 (Addr.mk b 0 none) 0 3) ∧ ∀ H2 : Array Obj, H2 = hputs H1 (Addr.mk b 0 none) [.string name, .int .i64 nv, .int .i64 nv] 0 →
 ∃ rName : ByteArray, ∃ rLeast : Int, ∃ rMost : Int, RowAt H2 (Addr.mk b 0 none) 0 [.string rName, .int .i64 rLeast, .int .i64 rMost] ∧
 R (.agg #[.string rName, .int .i64 rLeast, .int .i64 rMost]) H2
namespace lists_table_1
set_option maxRecDepth 100000 in
theorem link {name : ByteArray} {nv : Int} {H : Array Obj} {R : Value → Array Obj → Prop} (h : pt name nv H R) : C name nv H R := by
 refine S_enter (fn := Tryz.f30) (c := kk0) 9 Tryz.func30 (by kernel_rfl) (by kernel_rfl) (Nat.le_of_ble_eq_true (by kernel_rfl)) ?_
 intro w0 Q hQ
 unfold pt at h
 refine S_sub [(0, .string name), (1, .int .i64 nv)] (sb (by kernel_rfl)) ?_
 refine T_sr 0 kk1 kk2 ?_
 refine N_new (some 4) (fun b => .pointer (some (Addr.mk b 0 none))) (.cells #[.string (ByteArray.mk #[]), .int .i64 0, .int .i64 0] 45) (fun _=>by kernel_rfl) ?_
 intro b H1 e1 e2
 replace h := h b H1 e1 e2
 refine ⟨[(0, .string name), (1, .int .i64 nv), (4, .pointer (some (Addr.mk b 0 none)))], ps (by kernel_rfl), ?_⟩
 refine T_e ?_
 refine T_sr 1 kk3 kk4 ?_
 refine N_run 4 [(4, .pointer (some (Addr.mk b 0 none))), (8, .agg #[.string name, .int .i64 nv, .int .i64 nv])] (fun _=>by kernel_rfl) ?_
 obtain ⟨q4, h⟩ := h
 refine N_skipop none (storeN 45 (.pointer (some (Addr.mk b 0 none))) (.agg #[.string name, .int .i64 nv, .int .i64 nv])) (fun Hz => Hz = hputs H1 (Addr.mk b 0 none) [.string name, .int .i64 nv, .int .i64 nv] 0) (fun _=>by kernel_rfl) (ss_store [.string name, .int .i64 nv, .int .i64 nv] 3 (by kernel_rfl) (by kernel_rfl) (fun _=>by kernel_rfl) (by kernel_rfl) q4) ?_
 intro H2 e3
 replace h := h H2 e3
 refine ⟨[(4, .pointer (some (Addr.mk b 0 none)))], ps (by kernel_rfl), ?_⟩
 refine T_e ?_
 refine S_ret (by kernel_rfl) ?_
 show At _ _ _ _ _ (Q .ret)
 obtain ⟨rName, rLeast, rMost, q5, h⟩ := h
 exact S_done (fn := Tryz.f30) [.agg #[.string rName, .int .i64 rLeast, .int .i64 rMost]] hQ (show ResOK _ _ _ [.cell 4 45] _ from .cell (by kernel_rfl) (loadOK_row (fun _=>by kernel_rfl) (fun _=>by kernel_rfl) q5) (.nil)) h
end lists_table_1

/-! moraine/lists.List -/
namespace lists_List
def kk0 := Func.code Tryz.f33
def kk1 := Code.fa kk0
def kk2 := Code.fb kk0
def kk3 := Code.fa kk2
def kk4 := Code.fb kk2
def kk5 := Code.fa kk4
def kk6 := Code.fb kk4
def kk7 := Code.fa kk5
def kk8 := Code.fb kk5
def kk9 := Code.fa kk8
def kk10 := Code.fa kk9
def kk11 := Code.fb kk9
def kk12 := Code.fa kk10
def kk13 := Code.fb kk10
def kk14 := Code.fa kk11
def kk15 := Code.fa kk14
def kk16 := Code.fb kk14
def kk17 := Code.fa kk15
def kk18 := Code.fb kk15
def kk19 := Code.fa kk18
def kk20 := Code.fb kk18
def kk21 := Code.fa kk19
def kk22 := Code.fb kk19
def kk23 := Code.fa kk21
def kk24 := Code.fb kk21
def kk25 := Code.fa kk24
def kk26 := Code.fb kk24
def kk27 := Code.fa kk25
def kk28 := Code.fb kk25
def kk29 := Code.fa kk16
def kk30 := Code.fb kk16
def kk31 := Code.fa kk6
def kk32 := Code.fb kk6
end lists_List
def lists_List.pt (hv : Option Addr) (wv : Int) (H : Array Obj) (R : Value → Array Obj → Prop) : Prop :=
 ∀ (b : Nat) (H1 : Array Obj), b = H.size → H1 = H.push (.cells #[.pointer hv] 24) →
 ∀ (b_2 : Nat) (H2 : Array Obj), b_2 = H1.size → H2 = H1.push (.cells #[.slice none 0 0] 22) →
 ∀ (b_3 : Nat) (H3 : Array Obj), b_3 = H2.size → H3 = H2.push (.cells #[.bool false] 4) →
 ∀ (b_4 : Nat) (H4 : Array Obj), b_4 = H3.size → H4 = H3.push (.cells #[.slice none 0 0] 22) →
 ∃ x : Option Addr, hat H4 (Addr.mk b 0 none) = some (.pointer x) ∧
 lists_pairs.C x wv H4 (fun v H5 => v = v ∧ 
 ∀ (rc : LoopState → Option Code → Obj) (lp : Nat) (H6 : Array Obj), lp = H5.size + 1 → H6 = (H5.push (.deferred (some []))).push (rc .ready none) →
 ∀ vY : Value, (∀ (x_3 : Int) (x_4 : Bool) (H7 : Array Obj) (vRy : Value → Array Obj → Prop), H7[lp]? = some (rc .ready none) →
 ( H7[lp]? = some (rc .ready none) ∧ ∀ H8 : Array Obj, H8 = setBlk H7 lp (rc .busy none) →
 if x_4 = true then (
 if x_3 = 20 then (
 H8[lp]? = some (rc .busy none) ∧
 vRy (.bool false) (setBlk H8 lp (rc .done (some (.exit 0)))))
 else
 (CanPuts H8 (Addr.mk b_2 0 none) 0 1) ∧ ∀ H9 : Array Obj, H9 = hputs H8 (Addr.mk b_2 0 none) [.slice none 0 0] 0 →
 (CanPuts H9 (Addr.mk b_3 0 none) 0 1) ∧ ∀ H10 : Array Obj, H10 = hputs H9 (Addr.mk b_3 0 none) [.bool false] 0 →
 H10[lp]? = some (rc .busy none) ∧
 vRy (.bool false) (setBlk H10 lp (rc .done (some .ret))))
 else
 ∃ x_5 : Option Addr, hat H8 (Addr.mk b 0 none) = some (.pointer x_5) ∧
 obj_Heap_Car.C x_5 x_3 H8 (fun v_2 H11 => ∃ ra : Int, ∃ rb : Int, v_2 = .tuple #[.int .u64 ra, .int .i64 rb] ∧ 
 ∃ xB : Option Addr, ∃ xN : Nat, ∃ xC : Nat, hat H11 (Addr.mk b_4 0 none) = some (.slice xB xN xC) ∧
 ∀ (b_5 : Nat) (H12 : Array Obj), b_5 = H11.size → H12 = H11.push (.cells #[.int .u64 ra] 26) →
 appendK 1 26 8 [.int .u64 0] xB xN xC (some (Addr.mk b_5 0 none)) 1 H12 (fun ap apC H13 =>
 (CanPuts H13 (Addr.mk b_4 0 none) 0 1) ∧ ∀ H14 : Array Obj, H14 = hputs H13 (Addr.mk b_4 0 none) [.slice ap (xN + 1) apC] 0 →
 H14[lp]? = some (rc .busy none) ∧
 vRy (.bool true) (setBlk H14 lp (rc .ready none))))) →
 FC Tryz.prog vY #[.int .u64 x_3, .bool x_4] H7 vRy) →
 FE Tryz.prog v #[vY] H6 (fun _ H15 =>
 (H15[lp]? = some (rc .ready none) ∧ ∀ H16 : Array Obj, H16 = setBlk H15 lp (rc .exhausted none) →
 ∃ xB_2 : Option Addr, ∃ xN_2 : Nat, ∃ xC_2 : Nat, hat H16 (Addr.mk b_4 0 none) = some (.slice xB_2 xN_2 xC_2) ∧
 (CanPuts H16 (Addr.mk b_2 0 none) 0 1) ∧ ∀ H17 : Array Obj, H17 = hputs H16 (Addr.mk b_2 0 none) [.slice xB_2 xN_2 xC_2] 0 →
 (CanPuts H17 (Addr.mk b_3 0 none) 0 1) ∧ ∀ H18 : Array Obj, H18 = hputs H17 (Addr.mk b_3 0 none) [.bool true] 0 →
 Shut (H5.size :: []) H18 (fun H19 =>
 ∃ rB : Option Addr, ∃ rN : Nat, ∃ rC : Nat, hat H19 (Addr.mk b_2 0 none) = some (.slice rB rN rC) ∧
 ∃ r : Bool, hat H19 (Addr.mk b_3 0 none) = some (.bool r) ∧
 R (.tuple #[.slice rB rN rC, .bool r]) H19)) ∨
 (H15[lp]? = some (rc .done (some .ret)) ∧ ∀ H16 : Array Obj, H16 = setBlk H15 lp (rc .exhausted (some .ret)) →
 Shut (H5.size :: []) H16 (fun H20 =>
 ∃ rB_2 : Option Addr, ∃ rN_2 : Nat, ∃ rC_2 : Nat, hat H20 (Addr.mk b_2 0 none) = some (.slice rB_2 rN_2 rC_2) ∧
 ∃ r_2 : Bool, hat H20 (Addr.mk b_3 0 none) = some (.bool r_2) ∧
 R (.tuple #[.slice rB_2 rN_2 rC_2, .bool r_2]) H20)) ∨
 (H15[lp]? = some (rc .done (some (.exit 0))) ∧ ∀ H16 : Array Obj, H16 = setBlk H15 lp (rc .exhausted (some (.exit 0))) →
 ∃ xB_3 : Option Addr, ∃ xN_3 : Nat, ∃ xC_3 : Nat, hat H16 (Addr.mk b_4 0 none) = some (.slice xB_3 xN_3 xC_3) ∧
 (CanPuts H16 (Addr.mk b_2 0 none) 0 1) ∧ ∀ H21 : Array Obj, H21 = hputs H16 (Addr.mk b_2 0 none) [.slice xB_3 xN_3 xC_3] 0 →
 (CanPuts H21 (Addr.mk b_3 0 none) 0 1) ∧ ∀ H22 : Array Obj, H22 = hputs H21 (Addr.mk b_3 0 none) [.bool true] 0 →
 Shut (H5.size :: []) H22 (fun H23 =>
 ∃ rB_3 : Option Addr, ∃ rN_3 : Nat, ∃ rC_3 : Nat, hat H23 (Addr.mk b_2 0 none) = some (.slice rB_3 rN_3 rC_3) ∧
 ∃ r_3 : Bool, hat H23 (Addr.mk b_3 0 none) = some (.bool r_3) ∧
 R (.tuple #[.slice rB_3 rN_3 rC_3, .bool r_3]) H23))))
namespace lists_List
set_option maxRecDepth 100000 in
theorem link {hv : Option Addr} {wv : Int} {H : Array Obj} {R : Value → Array Obj → Prop} (h : pt hv wv H R) : C hv wv H R := by
 refine S_enter (fn := Tryz.f33) (c := kk0) 30 Tryz.func33 (by kernel_rfl) (by kernel_rfl) (Nat.le_of_ble_eq_true (by kernel_rfl)) ?_
 intro w0 Q hQ
 unfold pt at h
 refine S_sub [(0, .pointer hv), (1, .int .u64 wv)] (sb (by kernel_rfl)) ?_
 refine T_sr 0 kk1 kk2 ?_
 refine N_new (some 2) (fun b => .pointer (some (Addr.mk b 0 none))) (.cells #[.pointer hv] 24) (fun _=>by kernel_rfl) ?_
 intro b H1 e1 e2
 replace h := h b H1 e1 e2
 refine ⟨[(1, .int .u64 wv), (2, .pointer (some (Addr.mk b 0 none)))], ps (by kernel_rfl), ?_⟩
 refine N_new (some 4) (fun b => .pointer (some (Addr.mk b 0 none))) (.cells #[.slice none 0 0] 22) (fun _=>by kernel_rfl) ?_
 intro b_2 H2 e3 e4
 replace h := h b_2 H2 e3 e4
 refine ⟨[(1, .int .u64 wv), (2, .pointer (some (Addr.mk b 0 none))), (4, .pointer (some (Addr.mk b_2 0 none)))], ps (by kernel_rfl), ?_⟩
 refine N_new (some 5) (fun b => .pointer (some (Addr.mk b 0 none))) (.cells #[.bool false] 4) (fun _=>by kernel_rfl) ?_
 intro b_3 H3 e5 e6
 replace h := h b_3 H3 e5 e6
 refine ⟨[(1, .int .u64 wv), (2, .pointer (some (Addr.mk b 0 none))), (4, .pointer (some (Addr.mk b_2 0 none))), (5, .pointer (some (Addr.mk b_3 0 none)))], ps (by kernel_rfl), ?_⟩
 refine T_e ?_
 refine T_sr 1 kk3 kk4 ?_
 refine N_new (some 6) (fun b => .pointer (some (Addr.mk b 0 none))) (.cells #[.slice none 0 0] 22) (fun _=>by kernel_rfl) ?_
 intro b_4 H4 e7 e8
 replace h := h b_4 H4 e7 e8
 refine ⟨[(1, .int .u64 wv), (2, .pointer (some (Addr.mk b 0 none))), (4, .pointer (some (Addr.mk b_2 0 none))), (5, .pointer (some (Addr.mk b_3 0 none))), (6, .pointer (some (Addr.mk b_4 0 none)))], ps (by kernel_rfl), ?_⟩
 refine T_e ?_
 refine S_seq kk5 kk6 (by kernel_rfl) ?_
 refine T_sr 2 kk7 kk8 ?_
 obtain ⟨x, q9, h⟩ := h
 refine N_val (some 11) (loadN 24 (.pointer (some (Addr.mk b 0 none)))) (.pointer x) (fun _=>by kernel_rfl) (loadN_run (loadOK_one (fun _=>by kernel_rfl) q9)) [(1, .int .u64 wv), (2, .pointer (some (Addr.mk b 0 none))), (4, .pointer (some (Addr.mk b_2 0 none))), (5, .pointer (some (Addr.mk b_3 0 none))), (6, .pointer (some (Addr.mk b_4 0 none))), (11, .pointer x)] (ps (by kernel_rfl)) ?_
 refine N_run 1 [(2, .pointer (some (Addr.mk b 0 none))), (4, .pointer (some (Addr.mk b_2 0 none))), (5, .pointer (some (Addr.mk b_3 0 none))), (6, .pointer (some (Addr.mk b_4 0 none))), (11, .pointer x), (12, .int .u64 wv)] (fun _=>by kernel_rfl) ?_
 refine N_call (some 13) 39 #[.pointer x, .int .u64 wv] (fun _=>by kernel_rfl) h ?_; clear h
 rintro v H5 ⟨-, h⟩
 refine ⟨[(2, .pointer (some (Addr.mk b 0 none))), (4, .pointer (some (Addr.mk b_2 0 none))), (5, .pointer (some (Addr.mk b_3 0 none))), (6, .pointer (some (Addr.mk b_4 0 none))), (13, v)], ps (by kernel_rfl), ?_⟩
 refine T_e ?_
 refine S_block 0 kk9 (by kernel_rfl) ?_
 refine S_range (g := .tmp 13) (ps := #[14, 15]) (assign := kk10) (body := kk11) (v) (by kernel_rfl) (by kernel_rfl) (by kernel_rfl) ?_
 intro rc lp H6 r10 e11 e12 y13
 refine FE.mono (h rc lp H6 e11 e12 (.func (.yield lp) #[] #[]) ?_) ?_
 ·clear h
  intro x_3 x_4 H7 vRy q14 h
  refine y13 #[.int .u64 x_3, .bool x_4] H7 vRy (by kernel_rfl) q14 (fun w1x => ?_)
  refine S_sub [(2, .pointer (some (Addr.mk b 0 none))), (4, .pointer (some (Addr.mk b_2 0 none))), (5, .pointer (some (Addr.mk b_3 0 none))), (6, .pointer (some (Addr.mk b_4 0 none))), (13, v), (14, .int .u64 x_3), (15, .bool x_4)] (sb (by kernel_rfl)) ?_
  refine T_sr 3 kk12 kk13 ?_
  refine N_run 1 [(2, .pointer (some (Addr.mk b 0 none))), (4, .pointer (some (Addr.mk b_2 0 none))), (5, .pointer (some (Addr.mk b_3 0 none))), (6, .pointer (some (Addr.mk b_4 0 none))), (7, .int .u64 x_3), (15, .bool x_4)] (fun _=>by kernel_rfl) ?_
  refine T_e ?_
  refine S_region 4 (Code.ops kk13) (by kernel_rfl) ?_
  refine N_run 1 [(2, .pointer (some (Addr.mk b 0 none))), (4, .pointer (some (Addr.mk b_2 0 none))), (5, .pointer (some (Addr.mk b_3 0 none))), (6, .pointer (some (Addr.mk b_4 0 none))), (7, .int .u64 x_3), (8, .bool x_4)] (fun _=>by kernel_rfl) ?_
  refine N_end (by kernel_rfl) ?_
  obtain ⟨q16, h⟩ := h
  refine S_then ?_
  refine S_begin r10 q16 ?_
  intro H8 e15
  replace h := h H8 e15
  refine S_block 1 kk14 (by kernel_rfl) ?_
  refine S_seq kk15 kk16 (by kernel_rfl) ?_
  refine T_sr 5 kk17 kk18 ?_
  refine N_run 1 [(2, .pointer (some (Addr.mk b 0 none))), (4, .pointer (some (Addr.mk b_2 0 none))), (5, .pointer (some (Addr.mk b_3 0 none))), (6, .pointer (some (Addr.mk b_4 0 none))), (7, .int .u64 x_3), (16, .bool x_4)] (fun _=>by kernel_rfl) ?_
  refine T_e ?_
  by_cases c17 : x_4 = true
  ·rw [if_pos c17] at h
   have b18 : x_4 = true := c17
   refine S_env [(2, .pointer (some (Addr.mk b 0 none))), (4, .pointer (some (Addr.mk b_2 0 none))), (5, .pointer (some (Addr.mk b_3 0 none))), (6, .pointer (some (Addr.mk b_4 0 none))), (7, .int .u64 x_3), (16, .bool true)] (by simp only [b18, Bool.not_true, Bool.not_false]) ?_
   clear b18
   refine S_condT (.tmp 16) kk19 kk20 (by kernel_rfl) (by kernel_rfl) ?_
   refine S_seq kk21 kk22 (by kernel_rfl) ?_
   refine T_sr 6 kk23 kk24 ?_
   refine N_run 2 [(4, .pointer (some (Addr.mk b_2 0 none))), (5, .pointer (some (Addr.mk b_3 0 none))), (18, .bool (x_3 != 20))] (fun _=>by kernel_rfl) ?_
   refine T_e ?_
   by_cases c19 : x_3 = 20
   ·rw [if_pos c19] at h
    have b20 : (x_3 != 20) = false := bne_eq_false_iff_eq.mpr c19
    refine S_env [(4, .pointer (some (Addr.mk b_2 0 none))), (5, .pointer (some (Addr.mk b_3 0 none))), (18, .bool false)] (by simp only [b20, Bool.not_true, Bool.not_false]) ?_
    clear b20
    refine S_condF (.tmp 18) kk25 kk26 (by kernel_rfl) (by kernel_rfl) ?_
    refine S_skip (by kernel_rfl) ?_
    refine S_then ?_
    refine S_exit 0 (by kernel_rfl) ?_
    refine S_exitThen ?_
    refine S_exitPast (by kernel_rfl) ?_
    obtain ⟨q21, h⟩ := h
    exact S_rexit r10 q21 h
   ·rw [if_neg c19] at h
    have b20 : (x_3 != 20) = true := bne_iff_ne.mpr c19
    refine S_env [(4, .pointer (some (Addr.mk b_2 0 none))), (5, .pointer (some (Addr.mk b_3 0 none))), (18, .bool true)] (by simp only [b20, Bool.not_true, Bool.not_false]) ?_
    clear b20
    refine S_condT (.tmp 18) kk25 kk26 (by kernel_rfl) (by kernel_rfl) ?_
    refine T_sr 7 kk27 kk28 ?_
    refine N_sub [(4, .pointer (some (Addr.mk b_2 0 none))), (5, .pointer (some (Addr.mk b_3 0 none)))] (sb (by kernel_rfl)) ?_
    obtain ⟨q23, h⟩ := h
    refine N_skipop none (storeN 22 (.pointer (some (Addr.mk b_2 0 none))) (.slice none 0 0)) (fun Hz => Hz = hputs H8 (Addr.mk b_2 0 none) [.slice none 0 0] 0) (fun _=>by kernel_rfl) (ss_store [.slice none 0 0] 1 (by kernel_rfl) (by kernel_rfl) (fun _=>by kernel_rfl) (by kernel_rfl) q23) ?_
    intro H9 e22
    replace h := h H9 e22
    refine ⟨[(5, .pointer (some (Addr.mk b_3 0 none)))], ps (by kernel_rfl), ?_⟩
    obtain ⟨q25, h⟩ := h
    refine N_skipop none (storeN 4 (.pointer (some (Addr.mk b_3 0 none))) (.bool false)) (fun Hz => Hz = hputs H9 (Addr.mk b_3 0 none) [.bool false] 0) (fun _=>by kernel_rfl) (ss_store [.bool false] 1 (by kernel_rfl) (by kernel_rfl) (fun _=>by kernel_rfl) (by kernel_rfl) q25) ?_
    intro H10 e24
    replace h := h H10 e24
    refine ⟨[], ps (by kernel_rfl), ?_⟩
    refine T_e ?_
    refine S_ret (by kernel_rfl) ?_
    show At _ _ _ _ _ (roundPost _ _ _ .ret)
    obtain ⟨q26, h⟩ := h
    exact S_rret r10 q26 h
  ·rw [if_neg c17] at h
   have b18 : x_4 = false := eq_false_of_ne_true c17
   refine S_env [(2, .pointer (some (Addr.mk b 0 none))), (4, .pointer (some (Addr.mk b_2 0 none))), (5, .pointer (some (Addr.mk b_3 0 none))), (6, .pointer (some (Addr.mk b_4 0 none))), (7, .int .u64 x_3), (16, .bool false)] (by simp only [b18, Bool.not_true, Bool.not_false]) ?_
   clear b18
   refine S_condF (.tmp 16) kk19 kk20 (by kernel_rfl) (by kernel_rfl) ?_
   refine S_skip (by kernel_rfl) ?_
   refine S_then ?_
   refine T_sr 8 kk29 kk30 ?_
   refine N_sub [(2, .pointer (some (Addr.mk b 0 none))), (6, .pointer (some (Addr.mk b_4 0 none))), (7, .int .u64 x_3)] (sb (by kernel_rfl)) ?_
   obtain ⟨x_5, q27, h⟩ := h
   refine N_val (some 20) (loadN 24 (.pointer (some (Addr.mk b 0 none)))) (.pointer x_5) (fun _=>by kernel_rfl) (loadN_run (loadOK_one (fun _=>by kernel_rfl) q27)) [(6, .pointer (some (Addr.mk b_4 0 none))), (7, .int .u64 x_3), (20, .pointer x_5)] (ps (by kernel_rfl)) ?_
   refine N_run 1 [(6, .pointer (some (Addr.mk b_4 0 none))), (20, .pointer x_5), (21, .int .u64 x_3)] (fun _=>by kernel_rfl) ?_
   refine N_call (some 22) 9 #[.pointer x_5, .int .u64 x_3] (fun _=>by kernel_rfl) h ?_; clear h
   rintro v_2 H11 ⟨ra, rb, rfl, h⟩
   refine ⟨[(6, .pointer (some (Addr.mk b_4 0 none))), (22, .tuple #[.int .u64 ra, .int .i64 rb])], ps (by kernel_rfl), ?_⟩
   refine N_run 5 [(6, .pointer (some (Addr.mk b_4 0 none))), (9, .int .u64 ra)] (fun _=>by kernel_rfl) ?_
   refine T_e ?_
   refine S_region 9 (Code.ops kk30) (by kernel_rfl) ?_
   obtain ⟨xB, xN, xC, q28, h⟩ := h
   refine N_val (some 25) (loadN 22 (.pointer (some (Addr.mk b_4 0 none)))) (.slice xB xN xC) (fun _=>by kernel_rfl) (loadN_run (loadOK_one (fun _=>by kernel_rfl) q28)) [(6, .pointer (some (Addr.mk b_4 0 none))), (9, .int .u64 ra), (25, .slice xB xN xC)] (ps (by kernel_rfl)) ?_
   refine N_run 1 [(6, .pointer (some (Addr.mk b_4 0 none))), (25, .slice xB xN xC), (26, .int .u64 ra)] (fun _=>by kernel_rfl) ?_
   refine N_new (some 27) (fun b => .slice (some (Addr.mk b 0 none)) 1 1) (.cells #[.int .u64 ra] 26) (fun _=>by kernel_rfl) ?_
   intro b_5 H12 e29 e30
   replace h := h b_5 H12 e29 e30
   refine ⟨[(6, .pointer (some (Addr.mk b_4 0 none))), (25, .slice xB xN xC), (27, .slice (some (Addr.mk b_5 0 none)) 1 1)], ps (by kernel_rfl), ?_⟩
   refine N_op (some 28) (appendN #[22, 22] 22 #[.slice xB xN xC, .slice (some (Addr.mk b_5 0 none)) 1 1]) _ (fun _=>by kernel_rfl) (ss_append (T := 26) (sz := 1) (bytes := 8) (zero := (.int .u64 0 : Value)) Tryz.underlying22 Tryz.underlying22 rfl (show Tryz.prog.info? 26 = some Tryz.t26 from by kernel_rfl) (by kernel_rfl) (by kernel_rfl) (by decide) (by kernel_rfl) (by first | exact h | (simpa only [Value.cells, List.toList_toArray] using h))) ?_; clear h
   rintro _ H13 ⟨ap, apC, rfl, h⟩
   refine ⟨[(6, .pointer (some (Addr.mk b_4 0 none))), (28, .slice ap (xN + 1) apC)], ps (by kernel_rfl), ?_⟩
   obtain ⟨q32, h⟩ := h
   refine N_skipop none (storeN 22 (.pointer (some (Addr.mk b_4 0 none))) (.slice ap (xN + 1) apC)) (fun Hz => Hz = hputs H13 (Addr.mk b_4 0 none) [.slice ap (xN + 1) apC] 0) (fun _=>by kernel_rfl) (ss_store [.slice ap (xN + 1) apC] 1 (by kernel_rfl) (by kernel_rfl) (fun _=>by kernel_rfl) (by kernel_rfl) q32) ?_
   intro H14 e31
   replace h := h H14 e31
   refine ⟨[], ps (by kernel_rfl), ?_⟩
   refine N_end (by kernel_rfl) ?_
   refine S_blockEnd ?_
   obtain ⟨q33, h⟩ := h
   exact S_rnormal r10 q33 h
 ·clear h y13
  rintro _ H15 (⟨q34, h⟩ | ⟨q34, h⟩ | ⟨q34, h⟩)
  ·refine .inl ⟨q34, fun H16 e51 => ?_⟩
   replace h := h H16 e51
   refine S_marks (H5.size :: []) rfl ?_
   refine S_sub [(4, .pointer (some (Addr.mk b_2 0 none))), (5, .pointer (some (Addr.mk b_3 0 none))), (6, .pointer (some (Addr.mk b_4 0 none)))] (sb (by kernel_rfl)) ?_
   refine S_blockEnd ?_
   refine S_then ?_
   refine T_sr 10 kk31 kk32 ?_
   obtain ⟨xB_2, xN_2, xC_2, q35, h⟩ := h
   refine N_val (some 29) (loadN 22 (.pointer (some (Addr.mk b_4 0 none)))) (.slice xB_2 xN_2 xC_2) (fun _=>by kernel_rfl) (loadN_run (loadOK_one (fun _=>by kernel_rfl) q35)) [(4, .pointer (some (Addr.mk b_2 0 none))), (5, .pointer (some (Addr.mk b_3 0 none))), (29, .slice xB_2 xN_2 xC_2)] (ps (by kernel_rfl)) ?_
   obtain ⟨q37, h⟩ := h
   refine N_skipop none (storeN 22 (.pointer (some (Addr.mk b_2 0 none))) (.slice xB_2 xN_2 xC_2)) (fun Hz => Hz = hputs H16 (Addr.mk b_2 0 none) [.slice xB_2 xN_2 xC_2] 0) (fun _=>by kernel_rfl) (ss_store [.slice xB_2 xN_2 xC_2] 1 (by kernel_rfl) (by kernel_rfl) (fun _=>by kernel_rfl) (by kernel_rfl) q37) ?_
   intro H17 e36
   replace h := h H17 e36
   refine ⟨[(4, .pointer (some (Addr.mk b_2 0 none))), (5, .pointer (some (Addr.mk b_3 0 none)))], ps (by kernel_rfl), ?_⟩
   obtain ⟨q39, h⟩ := h
   refine N_skipop none (storeN 4 (.pointer (some (Addr.mk b_3 0 none))) (.bool true)) (fun Hz => Hz = hputs H17 (Addr.mk b_3 0 none) [.bool true] 0) (fun _=>by kernel_rfl) (ss_store [.bool true] 1 (by kernel_rfl) (by kernel_rfl) (fun _=>by kernel_rfl) (by kernel_rfl) q39) ?_
   intro H18 e38
   replace h := h H18 e38
   refine ⟨[(4, .pointer (some (Addr.mk b_2 0 none))), (5, .pointer (some (Addr.mk b_3 0 none)))], ps (by kernel_rfl), ?_⟩
   refine T_e ?_
   refine S_ret (by kernel_rfl) ?_
   show At _ _ _ _ _ (Q .ret)
   refine S_doneM (fn := Tryz.f33) (H5.size :: []) hQ (Shut.mono (fun H19 h => ?_) h)
   obtain ⟨rB, rN, rC, q40, h⟩ := h
   obtain ⟨r, q41, h⟩ := h
   exact ⟨[.slice rB rN rC, .bool r], (show ResOK _ _ _ [.cell 4 22, .cell 5 4] _ from .cell (by kernel_rfl) (loadOK_one (fun _=>by kernel_rfl) q40) (.cell (by kernel_rfl) (loadOK_one (fun _=>by kernel_rfl) q41) (.nil))), h⟩
  ·refine .inr ⟨_, q34, fun H16 e51 => ?_⟩
   replace h := h H16 e51
   refine S_marks (H5.size :: []) rfl ?_
   refine S_sub [(4, .pointer (some (Addr.mk b_2 0 none))), (5, .pointer (some (Addr.mk b_3 0 none))), (6, .pointer (some (Addr.mk b_4 0 none)))] (sb (by kernel_rfl)) ?_
   refine S_ret rfl ?_
   show At _ _ _ _ _ (Q .ret)
   refine S_doneM (fn := Tryz.f33) (H5.size :: []) hQ (Shut.mono (fun H20 h => ?_) h)
   obtain ⟨rB_2, rN_2, rC_2, q42, h⟩ := h
   obtain ⟨r_2, q43, h⟩ := h
   exact ⟨[.slice rB_2 rN_2 rC_2, .bool r_2], (show ResOK _ _ _ [.cell 4 22, .cell 5 4] _ from .cell (by kernel_rfl) (loadOK_one (fun _=>by kernel_rfl) q42) (.cell (by kernel_rfl) (loadOK_one (fun _=>by kernel_rfl) q43) (.nil))), h⟩
  ·refine .inr ⟨_, q34, fun H16 e51 => ?_⟩
   replace h := h H16 e51
   refine S_marks (H5.size :: []) rfl ?_
   refine S_sub [(4, .pointer (some (Addr.mk b_2 0 none))), (5, .pointer (some (Addr.mk b_3 0 none))), (6, .pointer (some (Addr.mk b_4 0 none)))] (sb (by kernel_rfl)) ?_
   refine S_exit 0 rfl ?_
   refine S_exitHere ?_
   refine S_then ?_
   refine T_sr 10 kk31 kk32 ?_
   obtain ⟨xB_3, xN_3, xC_3, q44, h⟩ := h
   refine N_val (some 29) (loadN 22 (.pointer (some (Addr.mk b_4 0 none)))) (.slice xB_3 xN_3 xC_3) (fun _=>by kernel_rfl) (loadN_run (loadOK_one (fun _=>by kernel_rfl) q44)) [(4, .pointer (some (Addr.mk b_2 0 none))), (5, .pointer (some (Addr.mk b_3 0 none))), (29, .slice xB_3 xN_3 xC_3)] (ps (by kernel_rfl)) ?_
   obtain ⟨q46, h⟩ := h
   refine N_skipop none (storeN 22 (.pointer (some (Addr.mk b_2 0 none))) (.slice xB_3 xN_3 xC_3)) (fun Hz => Hz = hputs H16 (Addr.mk b_2 0 none) [.slice xB_3 xN_3 xC_3] 0) (fun _=>by kernel_rfl) (ss_store [.slice xB_3 xN_3 xC_3] 1 (by kernel_rfl) (by kernel_rfl) (fun _=>by kernel_rfl) (by kernel_rfl) q46) ?_
   intro H21 e45
   replace h := h H21 e45
   refine ⟨[(4, .pointer (some (Addr.mk b_2 0 none))), (5, .pointer (some (Addr.mk b_3 0 none)))], ps (by kernel_rfl), ?_⟩
   obtain ⟨q48, h⟩ := h
   refine N_skipop none (storeN 4 (.pointer (some (Addr.mk b_3 0 none))) (.bool true)) (fun Hz => Hz = hputs H21 (Addr.mk b_3 0 none) [.bool true] 0) (fun _=>by kernel_rfl) (ss_store [.bool true] 1 (by kernel_rfl) (by kernel_rfl) (fun _=>by kernel_rfl) (by kernel_rfl) q48) ?_
   intro H22 e47
   replace h := h H22 e47
   refine ⟨[(4, .pointer (some (Addr.mk b_2 0 none))), (5, .pointer (some (Addr.mk b_3 0 none)))], ps (by kernel_rfl), ?_⟩
   refine T_e ?_
   refine S_ret (by kernel_rfl) ?_
   show At _ _ _ _ _ (Q .ret)
   refine S_doneM (fn := Tryz.f33) (H5.size :: []) hQ (Shut.mono (fun H23 h => ?_) h)
   obtain ⟨rB_3, rN_3, rC_3, q49, h⟩ := h
   obtain ⟨r_3, q50, h⟩ := h
   exact ⟨[.slice rB_3 rN_3 rC_3, .bool r_3], (show ResOK _ _ _ [.cell 4 22, .cell 5 4] _ from .cell (by kernel_rfl) (loadOK_one (fun _=>by kernel_rfl) q49) (.cell (by kernel_rfl) (loadOK_one (fun _=>by kernel_rfl) q50) (.nil))), h⟩
end lists_List

/-! moraine/lists.truth -/
namespace lists_pairs
def kk0 := Func.code Tryz.f39
def kk1 := Code.fa kk0
def kk2 := Code.fb kk0
def kk3 := Code.fa kk2
def kk4 := Code.fb kk2
end lists_pairs
def lists_pairs.pt (hv : Option Addr) (wv : Int) (H : Array Obj) (R : Value → Array Obj → Prop) : Prop :=
 ∀ (b : Nat) (H1 : Array Obj), b = H.size → H1 = H.push (.cells #[.pointer hv] 24) →
 ∀ (b_2 : Nat) (H2 : Array Obj), b_2 = H1.size → H2 = H1.push (.cells #[.int .u64 wv] 26) →
 R (.func (.func 59) #[] #[.pointer (some (Addr.mk b 0 none)), .pointer (some (Addr.mk b_2 0 none))]) H2
namespace lists_pairs
set_option maxRecDepth 100000 in
theorem link {hv : Option Addr} {wv : Int} {H : Array Obj} {R : Value → Array Obj → Prop} (h : pt hv wv H R) : C hv wv H R := by
 refine S_enter (fn := Tryz.f39) (c := kk0) 6 Tryz.func39 (by kernel_rfl) (by kernel_rfl) (Nat.le_of_ble_eq_true (by kernel_rfl)) ?_
 intro w0 Q hQ
 unfold pt at h
 refine S_sub [(0, .pointer hv), (1, .int .u64 wv)] (sb (by kernel_rfl)) ?_
 refine T_sr 0 kk1 kk2 ?_
 refine N_new (some 2) (fun b => .pointer (some (Addr.mk b 0 none))) (.cells #[.pointer hv] 24) (fun _=>by kernel_rfl) ?_
 intro b H1 e1 e2
 replace h := h b H1 e1 e2
 refine ⟨[(1, .int .u64 wv), (2, .pointer (some (Addr.mk b 0 none)))], ps (by kernel_rfl), ?_⟩
 refine N_new (some 3) (fun b => .pointer (some (Addr.mk b 0 none))) (.cells #[.int .u64 wv] 26) (fun _=>by kernel_rfl) ?_
 intro b_2 H2 e3 e4
 replace h := h b_2 H2 e3 e4
 refine ⟨[(2, .pointer (some (Addr.mk b 0 none))), (3, .pointer (some (Addr.mk b_2 0 none)))], ps (by kernel_rfl), ?_⟩
 refine N_run 1 [(2, .pointer (some (Addr.mk b 0 none))), (3, .pointer (some (Addr.mk b_2 0 none)))] (fun _=>by kernel_rfl) ?_
 refine T_e ?_
 refine T_sr 1 kk3 kk4 ?_
 refine N_run 2 [(4, .func (.func 59) #[] #[.pointer (some (Addr.mk b 0 none)), .pointer (some (Addr.mk b_2 0 none))])] (fun _=>by kernel_rfl) ?_
 refine T_e ?_
 refine S_ret (by kernel_rfl) ?_
 show At _ _ _ _ _ (Q .ret)
 exact S_done (fn := Tryz.f39) [.func (.func 59) #[] #[.pointer (some (Addr.mk b 0 none)), .pointer (some (Addr.mk b_2 0 none))]] hQ (show ResOK _ _ _ [.tmp 4] _ from .tmp (by kernel_rfl) (.nil)) h
end lists_pairs

/-! (*moraine/lists.judge).value -/
end Go.Proofs.YthlohokmnajpoaaGreat
