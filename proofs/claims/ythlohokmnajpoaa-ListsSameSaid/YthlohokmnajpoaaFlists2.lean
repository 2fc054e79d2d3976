/-
 Written by a program of mine (gen.py): for functions of this translation a predicate transformer over heaps (.pt), and the proof that it is sound for the call (.link).
-/
import Derived.Test.YthlohokmnajpoaaFnsC
set_option linter.unusedSimpArgs false
set_option linter.unusedVariables false
set_option maxHeartbeats 1000000
noncomputable section
namespace Go.Proofs.Ythlohokmnajpoaa
open Go
/-! moraine/lists.find -/
namespace lists_find
def kk0 := Func.code Try.f27
def kk1 := Code.fa kk0
def kk2 := Code.fb kk0
def kk3 := Code.fa kk2
def kk4 := Code.fb kk2
def kk5 := Code.fa kk3
def kk6 := Code.fb kk3
def kk7 := Code.fa kk6
def kk8 := Code.fb kk6
def kk9 := Code.fa kk8
def kk10 := Code.fb kk8
def kk11 := Code.fa kk4
def kk12 := Code.fb kk4
def kk13 := Code.fa kk12
def kk14 := Code.fb kk12
def kk15 := Code.fa kk13
def kk16 := Code.fb kk13
def kk17 := Code.fa kk16
def kk18 := Code.fa kk17
def kk19 := Code.fb kk17
def kk20 := Code.fa kk18
def kk21 := Code.fb kk18
def kk22 := Code.fa kk19
def kk23 := Code.fa kk22
def kk24 := Code.fb kk22
def kk25 := Code.fa kk23
def kk26 := Code.fb kk23
def kk27 := Code.fa kk26
def kk28 := Code.fb kk26
def kk29 := Code.fa kk24
def kk30 := Code.fb kk24
def kk31 := Code.fa kk30
def kk32 := Code.fb kk30
def kk33 := Code.fa kk32
def kk34 := Code.fb kk32
def kk35 := Code.fa kk33
def kk36 := Code.fb kk33
def kk37 := Code.fa kk36
def kk38 := Code.fb kk36
def kk39 := Code.fa kk34
def kk40 := Code.fb kk34
def kk41 := Code.fa kk40
def kk42 := Code.fb kk40
def kk43 := Code.fa kk41
def kk44 := Code.fb kk41
def kk45 := Code.fa kk44
def kk46 := Code.fb kk44
def kk47 := Code.fa kk42
def kk48 := Code.fb kk42
def kk49 := Code.fa kk48
def kk50 := Code.fb kk48
def kk51 := Code.fa kk49
def kk52 := Code.fb kk49
def kk53 := Code.fa kk45
def kk54 := Code.fb kk45
def kk55 := Code.fa kk37
def kk56 := Code.fb kk37
def kk57 := Code.fa kk56
def kk58 := Code.fb kk56
def kk59 := Code.fa kk57
def kk60 := Code.fb kk57
def kk61 := Code.fa kk60
def kk62 := Code.fb kk60
def kk63 := Code.fa kk61
def kk64 := Code.fb kk61
def kk65 := Code.fa kk14
def kk66 := Code.fb kk14
def kk67 := Code.fa kk9
def kk68 := Code.fb kk9
end lists_find
def lists_find.pt (hv : Option Addr) (kind : Int) (x : Int) (l : Int) (cars : Bool) (H : Array Obj) (R : Value → Array Obj → Prop) : Prop :=
 ∀ (b : Nat) (H1 : Array Obj), b = H.size → H1 = H.push (.cells #[.pointer hv] 23) →
 ∀ (b_2 : Nat) (H2 : Array Obj), b_2 = H1.size → H2 = H1.push (.cells #[.int .i64 kind] 3) →
 ∀ (b_3 : Nat) (H3 : Array Obj), b_3 = H2.size → H3 = H2.push (.cells #[.int .u64 x] 31) →
 ∀ (b_4 : Nat) (H4 : Array Obj), b_4 = H3.size → H4 = H3.push (.cells #[.bool cars] 4) →
 ∀ (b_5 : Nat) (H5 : Array Obj), b_5 = H4.size → H5 = H4.push (.cells #[.int .u64 0] 31) →
 ∀ (b_6 : Nat) (H6 : Array Obj), b_6 = H5.size → H6 = H5.push (.cells #[.int .i64 0] 24) →
 ∃ x_2 : Option Addr, hat H6 (Addr.mk b 0 none) = some (.pointer x_2) ∧
 lists_List.C x_2 l H6 (fun v H7 => ∃ raB : Option Addr, ∃ raN : Nat, ∃ raC : Nat, ∃ rb : Bool, v = .tuple #[.slice raB raN raC, .bool rb] ∧ 
 if rb = true then (
 ∃ x_3 : Option Addr, hat H7 (Addr.mk b 0 none) = some (.pointer x_3) ∧
 ∀ (b_7 : Nat) (H8 : Array Obj), b_7 = H7.size → H8 = H7.push (.cells #[.pointer x_3, .int .i64 0] 67) →
 ∀ (b_8 : Nat) (H9 : Array Obj), b_8 = H8.size → H9 = H8.push (.cells #[.pointer none] 65) →
 (CanPuts H9 (Addr.mk b_8 0 none) 0 1) ∧ ∀ H10 : Array Obj, H10 = hputs H9 (Addr.mk b_8 0 none) [.pointer (some (Addr.mk b_7 0 none))] 0 →
 ∃ x_4 : Option Addr, hat H10 (Addr.mk b 0 none) = some (.pointer x_4) ∧
 lists_pairs.C x_4 l H10 (fun v_2 H11 => v_2 = v_2 ∧ 
 ∀ (rc : LoopState → Option Code → Obj) (lp : Nat) (H12 : Array Obj), lp = H11.size + 1 → H12 = (H11.push (.deferred (some []))).push (rc .ready none) →
 ∀ vY : Value, (∀ (x_6 : Int) (x_7 : Bool) (H13 : Array Obj) (vRy : Value → Array Obj → Prop), H13[lp]? = some (rc .ready none) →
 ( H13[lp]? = some (rc .ready none) ∧ ∀ H14 : Array Obj, H14 = setBlk H13 lp (rc .busy none) →
 if x_7 = true then (
 H14[lp]? = some (rc .busy none) ∧
 vRy (.bool false) (setBlk H14 lp (rc .done (some (.exit 0)))))
 else
 ∃ x_8 : Option Addr, hat H14 (Addr.mk b 0 none) = some (.pointer x_8) ∧
 obj_Heap_Car.C x_8 x_6 H14 (fun v_3 H15 => ∃ ra : Int, ∃ rb_2 : Int, v_3 = .tuple #[.int .u64 ra, .int .i64 rb_2] ∧ 
 ∃ x_9 : Bool, hat H15 (Addr.mk b_4 0 none) = some (.bool x_9) ∧
 ∃ J : Int → Int → Array Obj → Prop, (
 if x_9 = true then (
 ∃ x_13 : Option Addr, hat H15 (Addr.mk b 0 none) = some (.pointer x_13) ∧
 obj_Heap_Car.C x_13 ra H15 (fun v_5 H22 => ∃ ra_3 : Int, ∃ rb_4 : Int, v_5 = .tuple #[.int .u64 ra_3, .int .i64 rb_4] ∧ 
 if rb_4 = 0 then (
 J ra_3 ra H22)
 else
 (CanPuts H22 (Addr.mk b_5 0 none) 0 1) ∧ ∀ H23 : Array Obj, H23 = hputs H22 (Addr.mk b_5 0 none) [.int .u64 0] 0 →
 (CanPuts H23 (Addr.mk b_6 0 none) 0 1) ∧ ∀ H24 : Array Obj, H24 = hputs H23 (Addr.mk b_6 0 none) [.int .i64 rb_4] 0 →
 H24[lp]? = some (rc .busy none) ∧
 vRy (.bool false) (setBlk H24 lp (rc .done (some .ret)))))
 else
 J ra x_6 H15) ∧ ∀ (key : Int) (out : Int) (H16 : Array Obj), J key out H16 →
 ∃ x_10 : Option Addr, hat H16 (Addr.mk b_8 0 none) = some (.pointer x_10) ∧
 ∃ x_11 : Int, hat H16 (Addr.mk b_2 0 none) = some (.int .i64 x_11) ∧
 ∃ x_12 : Int, hat H16 (Addr.mk b_3 0 none) = some (.int .u64 x_12) ∧
 lists_judge_same.C x_10 x_11 x_12 key H16 (fun v_4 H17 => ∃ ra_2 : Bool, ∃ rb_3 : Int, v_4 = .tuple #[.bool ra_2, .int .i64 rb_3] ∧ 
 if rb_3 = 0 then (
 if ra_2 = true then (
 (CanPuts H17 (Addr.mk b_5 0 none) 0 1) ∧ ∀ H18 : Array Obj, H18 = hputs H17 (Addr.mk b_5 0 none) [.int .u64 out] 0 →
 (CanPuts H18 (Addr.mk b_6 0 none) 0 1) ∧ ∀ H19 : Array Obj, H19 = hputs H18 (Addr.mk b_6 0 none) [.int .i64 0] 0 →
 H19[lp]? = some (rc .busy none) ∧
 vRy (.bool false) (setBlk H19 lp (rc .done (some .ret))))
 else
 H17[lp]? = some (rc .busy none) ∧
 vRy (.bool true) (setBlk H17 lp (rc .ready none)))
 else
 (CanPuts H17 (Addr.mk b_5 0 none) 0 1) ∧ ∀ H20 : Array Obj, H20 = hputs H17 (Addr.mk b_5 0 none) [.int .u64 0] 0 →
 (CanPuts H20 (Addr.mk b_6 0 none) 0 1) ∧ ∀ H21 : Array Obj, H21 = hputs H20 (Addr.mk b_6 0 none) [.int .i64 rb_3] 0 →
 H21[lp]? = some (rc .busy none) ∧
 vRy (.bool false) (setBlk H21 lp (rc .done (some .ret)))))) →
 FC Try.prog vY #[.int .u64 x_6, .bool x_7] H13 vRy) →
 FE Try.prog v_2 #[vY] H12 (fun _ H25 =>
 (H25[lp]? = some (rc .ready none) ∧ ∀ H26 : Array Obj, H26 = setBlk H25 lp (rc .exhausted none) →
 (CanPuts H26 (Addr.mk b_5 0 none) 0 1) ∧ ∀ H27 : Array Obj, H27 = hputs H26 (Addr.mk b_5 0 none) [.int .u64 4] 0 →
 (CanPuts H27 (Addr.mk b_6 0 none) 0 1) ∧ ∀ H28 : Array Obj, H28 = hputs H27 (Addr.mk b_6 0 none) [.int .i64 0] 0 →
 Shut (H11.size :: []) H28 (fun H29 =>
 ∃ r : Int, hat H29 (Addr.mk b_5 0 none) = some (.int .u64 r) ∧
 ∃ r_2 : Int, hat H29 (Addr.mk b_6 0 none) = some (.int .i64 r_2) ∧
 R (.tuple #[.int .u64 r, .int .i64 r_2]) H29)) ∨
 (H25[lp]? = some (rc .done (some (.exit 0))) ∧ ∀ H26 : Array Obj, H26 = setBlk H25 lp (rc .exhausted (some (.exit 0))) →
 (CanPuts H26 (Addr.mk b_5 0 none) 0 1) ∧ ∀ H30 : Array Obj, H30 = hputs H26 (Addr.mk b_5 0 none) [.int .u64 4] 0 →
 (CanPuts H30 (Addr.mk b_6 0 none) 0 1) ∧ ∀ H31 : Array Obj, H31 = hputs H30 (Addr.mk b_6 0 none) [.int .i64 0] 0 →
 Shut (H11.size :: []) H31 (fun H32 =>
 ∃ r_3 : Int, hat H32 (Addr.mk b_5 0 none) = some (.int .u64 r_3) ∧
 ∃ r_4 : Int, hat H32 (Addr.mk b_6 0 none) = some (.int .i64 r_4) ∧
 R (.tuple #[.int .u64 r_3, .int .i64 r_4]) H32)) ∨
 (H25[lp]? = some (rc .done (some .ret)) ∧ ∀ H26 : Array Obj, H26 = setBlk H25 lp (rc .exhausted (some .ret)) →
 Shut (H11.size :: []) H26 (fun H33 =>
 ∃ r_5 : Int, hat H33 (Addr.mk b_5 0 none) = some (.int .u64 r_5) ∧
 ∃ r_6 : Int, hat H33 (Addr.mk b_6 0 none) = some (.int .i64 r_6) ∧
 R (.tuple #[.int .u64 r_5, .int .i64 r_6]) H33)))))
 else
 (CanPuts H7 (Addr.mk b_5 0 none) 0 1) ∧ ∀ H34 : Array Obj, H34 = hputs H7 (Addr.mk b_5 0 none) [.int .u64 0] 0 →
 (CanPuts H34 (Addr.mk b_6 0 none) 0 1) ∧ ∀ H35 : Array Obj, H35 = hputs H34 (Addr.mk b_6 0 none) [.int .i64 3] 0 →
 ∃ r_7 : Int, hat H35 (Addr.mk b_5 0 none) = some (.int .u64 r_7) ∧
 ∃ r_8 : Int, hat H35 (Addr.mk b_6 0 none) = some (.int .i64 r_8) ∧
 R (.tuple #[.int .u64 r_7, .int .i64 r_8]) H35)
namespace lists_find
set_option maxRecDepth 100000 in
theorem link {hv : Option Addr} {kind : Int} {x : Int} {l : Int} {cars : Bool} {H : Array Obj} {R : Value → Array Obj → Prop} (h : pt hv kind x l cars H R) : C hv kind x l cars H R := by
 refine S_enter (fn := Try.f27) (c := kk0) 75 Try.func27 (by kernel_rfl) (by kernel_rfl) (Nat.le_of_ble_eq_true (by kernel_rfl)) ?_
 intro w0 Q hQ
 unfold pt at h
 refine S_sub [(0, .pointer hv), (1, .int .i64 kind), (2, .int .u64 x), (3, .int .u64 l), (4, .bool cars)] (sb (by kernel_rfl)) ?_
 refine T_sr 0 kk1 kk2 ?_
 refine N_new (some 5) (fun b => .pointer (some (Addr.mk b 0 none))) (.cells #[.pointer hv] 23) (fun _=>by kernel_rfl) ?_
 intro b H1 e1 e2
 replace h := h b H1 e1 e2
 refine ⟨[(1, .int .i64 kind), (2, .int .u64 x), (3, .int .u64 l), (4, .bool cars), (5, .pointer (some (Addr.mk b 0 none)))], ps (by kernel_rfl), ?_⟩
 refine N_new (some 6) (fun b => .pointer (some (Addr.mk b 0 none))) (.cells #[.int .i64 kind] 3) (fun _=>by kernel_rfl) ?_
 intro b_2 H2 e3 e4
 replace h := h b_2 H2 e3 e4
 refine ⟨[(2, .int .u64 x), (3, .int .u64 l), (4, .bool cars), (5, .pointer (some (Addr.mk b 0 none))), (6, .pointer (some (Addr.mk b_2 0 none)))], ps (by kernel_rfl), ?_⟩
 refine N_new (some 7) (fun b => .pointer (some (Addr.mk b 0 none))) (.cells #[.int .u64 x] 31) (fun _=>by kernel_rfl) ?_
 intro b_3 H3 e5 e6
 replace h := h b_3 H3 e5 e6
 refine ⟨[(3, .int .u64 l), (4, .bool cars), (5, .pointer (some (Addr.mk b 0 none))), (6, .pointer (some (Addr.mk b_2 0 none))), (7, .pointer (some (Addr.mk b_3 0 none)))], ps (by kernel_rfl), ?_⟩
 refine N_new (some 9) (fun b => .pointer (some (Addr.mk b 0 none))) (.cells #[.bool cars] 4) (fun _=>by kernel_rfl) ?_
 intro b_4 H4 e7 e8
 replace h := h b_4 H4 e7 e8
 refine ⟨[(3, .int .u64 l), (5, .pointer (some (Addr.mk b 0 none))), (6, .pointer (some (Addr.mk b_2 0 none))), (7, .pointer (some (Addr.mk b_3 0 none))), (9, .pointer (some (Addr.mk b_4 0 none)))], ps (by kernel_rfl), ?_⟩
 refine N_new (some 10) (fun b => .pointer (some (Addr.mk b 0 none))) (.cells #[.int .u64 0] 31) (fun _=>by kernel_rfl) ?_
 intro b_5 H5 e9 e10
 replace h := h b_5 H5 e9 e10
 refine ⟨[(3, .int .u64 l), (5, .pointer (some (Addr.mk b 0 none))), (6, .pointer (some (Addr.mk b_2 0 none))), (7, .pointer (some (Addr.mk b_3 0 none))), (9, .pointer (some (Addr.mk b_4 0 none))), (10, .pointer (some (Addr.mk b_5 0 none)))], ps (by kernel_rfl), ?_⟩
 refine N_new (some 11) (fun b => .pointer (some (Addr.mk b 0 none))) (.cells #[.int .i64 0] 24) (fun _=>by kernel_rfl) ?_
 intro b_6 H6 e11 e12
 replace h := h b_6 H6 e11 e12
 refine ⟨[(3, .int .u64 l), (5, .pointer (some (Addr.mk b 0 none))), (6, .pointer (some (Addr.mk b_2 0 none))), (7, .pointer (some (Addr.mk b_3 0 none))), (9, .pointer (some (Addr.mk b_4 0 none))), (10, .pointer (some (Addr.mk b_5 0 none))), (11, .pointer (some (Addr.mk b_6 0 none)))], ps (by kernel_rfl), ?_⟩
 refine T_e ?_
 refine S_seq kk3 kk4 (by kernel_rfl) ?_
 refine T_sr 1 kk5 kk6 ?_
 obtain ⟨x_2, q13, h⟩ := h
 refine N_val (some 26) (loadN 23 (.pointer (some (Addr.mk b 0 none)))) (.pointer x_2) (fun _=>by kernel_rfl) (loadN_run (loadOK_one (fun _=>by kernel_rfl) q13)) [(3, .int .u64 l), (5, .pointer (some (Addr.mk b 0 none))), (6, .pointer (some (Addr.mk b_2 0 none))), (7, .pointer (some (Addr.mk b_3 0 none))), (9, .pointer (some (Addr.mk b_4 0 none))), (10, .pointer (some (Addr.mk b_5 0 none))), (11, .pointer (some (Addr.mk b_6 0 none))), (26, .pointer x_2)] (ps (by kernel_rfl)) ?_
 refine N_run 1 [(3, .int .u64 l), (5, .pointer (some (Addr.mk b 0 none))), (6, .pointer (some (Addr.mk b_2 0 none))), (7, .pointer (some (Addr.mk b_3 0 none))), (9, .pointer (some (Addr.mk b_4 0 none))), (10, .pointer (some (Addr.mk b_5 0 none))), (11, .pointer (some (Addr.mk b_6 0 none))), (26, .pointer x_2), (27, .int .u64 l)] (fun _=>by kernel_rfl) ?_
 refine N_call (some 28) 11 #[.pointer x_2, .int .u64 l] (fun _=>by kernel_rfl) h ?_; clear h
 rintro v H7 ⟨raB, raN, raC, rb, rfl, h⟩
 refine ⟨[(3, .int .u64 l), (5, .pointer (some (Addr.mk b 0 none))), (6, .pointer (some (Addr.mk b_2 0 none))), (7, .pointer (some (Addr.mk b_3 0 none))), (9, .pointer (some (Addr.mk b_4 0 none))), (10, .pointer (some (Addr.mk b_5 0 none))), (11, .pointer (some (Addr.mk b_6 0 none))), (28, .tuple #[.slice raB raN raC, .bool rb])], ps (by kernel_rfl), ?_⟩
 refine N_run 5 [(3, .int .u64 l), (5, .pointer (some (Addr.mk b 0 none))), (6, .pointer (some (Addr.mk b_2 0 none))), (7, .pointer (some (Addr.mk b_3 0 none))), (9, .pointer (some (Addr.mk b_4 0 none))), (10, .pointer (some (Addr.mk b_5 0 none))), (11, .pointer (some (Addr.mk b_6 0 none))), (13, .bool rb)] (fun _=>by kernel_rfl) ?_
 refine T_e ?_
 refine T_sr 2 kk7 kk8 ?_
 refine N_run 2 [(3, .int .u64 l), (5, .pointer (some (Addr.mk b 0 none))), (6, .pointer (some (Addr.mk b_2 0 none))), (7, .pointer (some (Addr.mk b_3 0 none))), (9, .pointer (some (Addr.mk b_4 0 none))), (10, .pointer (some (Addr.mk b_5 0 none))), (11, .pointer (some (Addr.mk b_6 0 none))), (32, .bool (!rb))] (fun _=>by kernel_rfl) ?_
 refine T_e ?_
 by_cases c14 : rb = true
 ·rw [if_pos c14] at h
  have b15 : (!rb) = false := congrArg Bool.not (c14)
  have b152 : rb = true := c14
  refine S_env [(3, .int .u64 l), (5, .pointer (some (Addr.mk b 0 none))), (6, .pointer (some (Addr.mk b_2 0 none))), (7, .pointer (some (Addr.mk b_3 0 none))), (9, .pointer (some (Addr.mk b_4 0 none))), (10, .pointer (some (Addr.mk b_5 0 none))), (11, .pointer (some (Addr.mk b_6 0 none))), (32, .bool false)] (by simp only [b15, b152, Bool.not_true, Bool.not_false]) ?_
  clear b15 b152
  refine S_condF (.tmp 32) kk9 kk10 (by kernel_rfl) (by kernel_rfl) ?_
  refine S_skip (by kernel_rfl) ?_
  refine S_then ?_
  refine T_sr 4 kk11 kk12 ?_
  refine N_sub [(3, .int .u64 l), (5, .pointer (some (Addr.mk b 0 none))), (6, .pointer (some (Addr.mk b_2 0 none))), (7, .pointer (some (Addr.mk b_3 0 none))), (9, .pointer (some (Addr.mk b_4 0 none))), (10, .pointer (some (Addr.mk b_5 0 none))), (11, .pointer (some (Addr.mk b_6 0 none)))] (sb (by kernel_rfl)) ?_
  obtain ⟨x_3, q16, h⟩ := h
  refine N_val (some 33) (loadN 23 (.pointer (some (Addr.mk b 0 none)))) (.pointer x_3) (fun _=>by kernel_rfl) (loadN_run (loadOK_one (fun _=>by kernel_rfl) q16)) [(3, .int .u64 l), (5, .pointer (some (Addr.mk b 0 none))), (6, .pointer (some (Addr.mk b_2 0 none))), (7, .pointer (some (Addr.mk b_3 0 none))), (9, .pointer (some (Addr.mk b_4 0 none))), (10, .pointer (some (Addr.mk b_5 0 none))), (11, .pointer (some (Addr.mk b_6 0 none))), (33, .pointer x_3)] (ps (by kernel_rfl)) ?_
  refine N_run 1 [(3, .int .u64 l), (5, .pointer (some (Addr.mk b 0 none))), (6, .pointer (some (Addr.mk b_2 0 none))), (7, .pointer (some (Addr.mk b_3 0 none))), (9, .pointer (some (Addr.mk b_4 0 none))), (10, .pointer (some (Addr.mk b_5 0 none))), (11, .pointer (some (Addr.mk b_6 0 none))), (34, .agg #[.pointer x_3, .int .i64 0])] (fun _=>by kernel_rfl) ?_
  refine N_new (some 35) (fun b => .pointer (some (Addr.mk b 0 none))) (.cells #[.pointer x_3, .int .i64 0] 67) (fun _=>by kernel_rfl) ?_
  intro b_7 H8 e17 e18
  replace h := h b_7 H8 e17 e18
  refine ⟨[(3, .int .u64 l), (5, .pointer (some (Addr.mk b 0 none))), (6, .pointer (some (Addr.mk b_2 0 none))), (7, .pointer (some (Addr.mk b_3 0 none))), (9, .pointer (some (Addr.mk b_4 0 none))), (10, .pointer (some (Addr.mk b_5 0 none))), (11, .pointer (some (Addr.mk b_6 0 none))), (35, .pointer (some (Addr.mk b_7 0 none)))], ps (by kernel_rfl), ?_⟩
  refine N_new (some 14) (fun b => .pointer (some (Addr.mk b 0 none))) (.cells #[.pointer none] 65) (fun _=>by kernel_rfl) ?_
  intro b_8 H9 e19 e20
  replace h := h b_8 H9 e19 e20
  refine ⟨[(3, .int .u64 l), (5, .pointer (some (Addr.mk b 0 none))), (6, .pointer (some (Addr.mk b_2 0 none))), (7, .pointer (some (Addr.mk b_3 0 none))), (9, .pointer (some (Addr.mk b_4 0 none))), (10, .pointer (some (Addr.mk b_5 0 none))), (11, .pointer (some (Addr.mk b_6 0 none))), (14, .pointer (some (Addr.mk b_8 0 none))), (35, .pointer (some (Addr.mk b_7 0 none)))], ps (by kernel_rfl), ?_⟩
  obtain ⟨q22, h⟩ := h
  refine N_skipop none (storeN 65 (.pointer (some (Addr.mk b_8 0 none))) (.pointer (some (Addr.mk b_7 0 none)))) (fun Hz => Hz = hputs H9 (Addr.mk b_8 0 none) [.pointer (some (Addr.mk b_7 0 none))] 0) (fun _=>by kernel_rfl) (ss_store [.pointer (some (Addr.mk b_7 0 none))] 1 (by kernel_rfl) (by kernel_rfl) (fun _=>by kernel_rfl) (by kernel_rfl) q22) ?_
  intro H10 e21
  replace h := h H10 e21
  refine ⟨[(3, .int .u64 l), (5, .pointer (some (Addr.mk b 0 none))), (6, .pointer (some (Addr.mk b_2 0 none))), (7, .pointer (some (Addr.mk b_3 0 none))), (9, .pointer (some (Addr.mk b_4 0 none))), (10, .pointer (some (Addr.mk b_5 0 none))), (11, .pointer (some (Addr.mk b_6 0 none))), (14, .pointer (some (Addr.mk b_8 0 none)))], ps (by kernel_rfl), ?_⟩
  refine T_e ?_
  refine S_seq kk13 kk14 (by kernel_rfl) ?_
  refine T_sr 5 kk15 kk16 ?_
  obtain ⟨x_4, q23, h⟩ := h
  refine N_val (some 36) (loadN 23 (.pointer (some (Addr.mk b 0 none)))) (.pointer x_4) (fun _=>by kernel_rfl) (loadN_run (loadOK_one (fun _=>by kernel_rfl) q23)) [(3, .int .u64 l), (5, .pointer (some (Addr.mk b 0 none))), (6, .pointer (some (Addr.mk b_2 0 none))), (7, .pointer (some (Addr.mk b_3 0 none))), (9, .pointer (some (Addr.mk b_4 0 none))), (10, .pointer (some (Addr.mk b_5 0 none))), (11, .pointer (some (Addr.mk b_6 0 none))), (14, .pointer (some (Addr.mk b_8 0 none))), (36, .pointer x_4)] (ps (by kernel_rfl)) ?_
  refine N_run 1 [(5, .pointer (some (Addr.mk b 0 none))), (6, .pointer (some (Addr.mk b_2 0 none))), (7, .pointer (some (Addr.mk b_3 0 none))), (9, .pointer (some (Addr.mk b_4 0 none))), (10, .pointer (some (Addr.mk b_5 0 none))), (11, .pointer (some (Addr.mk b_6 0 none))), (14, .pointer (some (Addr.mk b_8 0 none))), (36, .pointer x_4), (37, .int .u64 l)] (fun _=>by kernel_rfl) ?_
  refine N_call (some 38) 31 #[.pointer x_4, .int .u64 l] (fun _=>by kernel_rfl) h ?_; clear h
  rintro v_2 H11 ⟨-, h⟩
  refine ⟨[(5, .pointer (some (Addr.mk b 0 none))), (6, .pointer (some (Addr.mk b_2 0 none))), (7, .pointer (some (Addr.mk b_3 0 none))), (9, .pointer (some (Addr.mk b_4 0 none))), (10, .pointer (some (Addr.mk b_5 0 none))), (11, .pointer (some (Addr.mk b_6 0 none))), (14, .pointer (some (Addr.mk b_8 0 none))), (38, v_2)], ps (by kernel_rfl), ?_⟩
  refine T_e ?_
  refine S_block 0 kk17 (by kernel_rfl) ?_
  refine S_range (g := .tmp 38) (ps := #[39, 40]) (assign := kk18) (body := kk19) (v_2) (by kernel_rfl) (by kernel_rfl) (by kernel_rfl) ?_
  intro rc lp H12 r24 e25 e26 y27
  refine FE.mono (h rc lp H12 e25 e26 (.func (.yield lp) #[] #[]) ?_) ?_
  ·clear h
   intro x_6 x_7 H13 vRy q28 h
   refine y27 #[.int .u64 x_6, .bool x_7] H13 vRy (by kernel_rfl) q28 (fun w1x => ?_)
   refine S_sub [(5, .pointer (some (Addr.mk b 0 none))), (6, .pointer (some (Addr.mk b_2 0 none))), (7, .pointer (some (Addr.mk b_3 0 none))), (9, .pointer (some (Addr.mk b_4 0 none))), (10, .pointer (some (Addr.mk b_5 0 none))), (11, .pointer (some (Addr.mk b_6 0 none))), (14, .pointer (some (Addr.mk b_8 0 none))), (38, v_2), (39, .int .u64 x_6), (40, .bool x_7)] (sb (by kernel_rfl)) ?_
   refine T_sr 6 kk20 kk21 ?_
   refine N_run 1 [(5, .pointer (some (Addr.mk b 0 none))), (6, .pointer (some (Addr.mk b_2 0 none))), (7, .pointer (some (Addr.mk b_3 0 none))), (9, .pointer (some (Addr.mk b_4 0 none))), (10, .pointer (some (Addr.mk b_5 0 none))), (11, .pointer (some (Addr.mk b_6 0 none))), (14, .pointer (some (Addr.mk b_8 0 none))), (15, .int .u64 x_6), (40, .bool x_7)] (fun _=>by kernel_rfl) ?_
   refine T_e ?_
   refine S_region 7 (Code.ops kk21) (by kernel_rfl) ?_
   refine N_run 1 [(5, .pointer (some (Addr.mk b 0 none))), (6, .pointer (some (Addr.mk b_2 0 none))), (7, .pointer (some (Addr.mk b_3 0 none))), (9, .pointer (some (Addr.mk b_4 0 none))), (10, .pointer (some (Addr.mk b_5 0 none))), (11, .pointer (some (Addr.mk b_6 0 none))), (14, .pointer (some (Addr.mk b_8 0 none))), (15, .int .u64 x_6), (16, .bool x_7)] (fun _=>by kernel_rfl) ?_
   refine N_end (by kernel_rfl) ?_
   obtain ⟨q30, h⟩ := h
   refine S_then ?_
   refine S_begin r24 q30 ?_
   intro H14 e29
   replace h := h H14 e29
   refine S_block 1 kk22 (by kernel_rfl) ?_
   refine S_seq kk23 kk24 (by kernel_rfl) ?_
   refine T_sr 8 kk25 kk26 ?_
   refine N_run 1 [(5, .pointer (some (Addr.mk b 0 none))), (6, .pointer (some (Addr.mk b_2 0 none))), (7, .pointer (some (Addr.mk b_3 0 none))), (9, .pointer (some (Addr.mk b_4 0 none))), (10, .pointer (some (Addr.mk b_5 0 none))), (11, .pointer (some (Addr.mk b_6 0 none))), (14, .pointer (some (Addr.mk b_8 0 none))), (15, .int .u64 x_6), (41, .bool x_7)] (fun _=>by kernel_rfl) ?_
   refine T_e ?_
   by_cases c31 : x_7 = true
   ·rw [if_pos c31] at h
    have b32 : x_7 = true := c31
    refine S_env [(5, .pointer (some (Addr.mk b 0 none))), (6, .pointer (some (Addr.mk b_2 0 none))), (7, .pointer (some (Addr.mk b_3 0 none))), (9, .pointer (some (Addr.mk b_4 0 none))), (10, .pointer (some (Addr.mk b_5 0 none))), (11, .pointer (some (Addr.mk b_6 0 none))), (14, .pointer (some (Addr.mk b_8 0 none))), (15, .int .u64 x_6), (41, .bool true)] (by simp only [b32, Bool.not_true, Bool.not_false]) ?_
    clear b32
    refine S_condT (.tmp 41) kk27 kk28 (by kernel_rfl) (by kernel_rfl) ?_
    refine S_exit 0 (by kernel_rfl) ?_
    refine S_exitThen ?_
    refine S_exitPast (by kernel_rfl) ?_
    obtain ⟨q33, h⟩ := h
    exact S_rexit r24 q33 h
   ·rw [if_neg c31] at h
    have b32 : x_7 = false := eq_false_of_ne_true c31
    refine S_env [(5, .pointer (some (Addr.mk b 0 none))), (6, .pointer (some (Addr.mk b_2 0 none))), (7, .pointer (some (Addr.mk b_3 0 none))), (9, .pointer (some (Addr.mk b_4 0 none))), (10, .pointer (some (Addr.mk b_5 0 none))), (11, .pointer (some (Addr.mk b_6 0 none))), (14, .pointer (some (Addr.mk b_8 0 none))), (15, .int .u64 x_6), (41, .bool false)] (by simp only [b32, Bool.not_true, Bool.not_false]) ?_
    clear b32
    refine S_condF (.tmp 41) kk27 kk28 (by kernel_rfl) (by kernel_rfl) ?_
    refine S_skip (by kernel_rfl) ?_
    refine S_then ?_
    refine T_sr 9 kk29 kk30 ?_
    refine N_sub [(5, .pointer (some (Addr.mk b 0 none))), (6, .pointer (some (Addr.mk b_2 0 none))), (7, .pointer (some (Addr.mk b_3 0 none))), (9, .pointer (some (Addr.mk b_4 0 none))), (10, .pointer (some (Addr.mk b_5 0 none))), (11, .pointer (some (Addr.mk b_6 0 none))), (14, .pointer (some (Addr.mk b_8 0 none))), (15, .int .u64 x_6)] (sb (by kernel_rfl)) ?_
    obtain ⟨x_8, q34, h⟩ := h
    refine N_val (some 43) (loadN 23 (.pointer (some (Addr.mk b 0 none)))) (.pointer x_8) (fun _=>by kernel_rfl) (loadN_run (loadOK_one (fun _=>by kernel_rfl) q34)) [(5, .pointer (some (Addr.mk b 0 none))), (6, .pointer (some (Addr.mk b_2 0 none))), (7, .pointer (some (Addr.mk b_3 0 none))), (9, .pointer (some (Addr.mk b_4 0 none))), (10, .pointer (some (Addr.mk b_5 0 none))), (11, .pointer (some (Addr.mk b_6 0 none))), (14, .pointer (some (Addr.mk b_8 0 none))), (15, .int .u64 x_6), (43, .pointer x_8)] (ps (by kernel_rfl)) ?_
    refine N_run 1 [(5, .pointer (some (Addr.mk b 0 none))), (6, .pointer (some (Addr.mk b_2 0 none))), (7, .pointer (some (Addr.mk b_3 0 none))), (9, .pointer (some (Addr.mk b_4 0 none))), (10, .pointer (some (Addr.mk b_5 0 none))), (11, .pointer (some (Addr.mk b_6 0 none))), (14, .pointer (some (Addr.mk b_8 0 none))), (15, .int .u64 x_6), (43, .pointer x_8), (44, .int .u64 x_6)] (fun _=>by kernel_rfl) ?_
    refine N_call (some 45) 16 #[.pointer x_8, .int .u64 x_6] (fun _=>by kernel_rfl) h ?_; clear h
    rintro v_3 H15 ⟨ra, rb_2, rfl, h⟩
    refine ⟨[(5, .pointer (some (Addr.mk b 0 none))), (6, .pointer (some (Addr.mk b_2 0 none))), (7, .pointer (some (Addr.mk b_3 0 none))), (9, .pointer (some (Addr.mk b_4 0 none))), (10, .pointer (some (Addr.mk b_5 0 none))), (11, .pointer (some (Addr.mk b_6 0 none))), (14, .pointer (some (Addr.mk b_8 0 none))), (15, .int .u64 x_6), (45, .tuple #[.int .u64 ra, .int .i64 rb_2])], ps (by kernel_rfl), ?_⟩
    refine N_run 5 [(5, .pointer (some (Addr.mk b 0 none))), (6, .pointer (some (Addr.mk b_2 0 none))), (7, .pointer (some (Addr.mk b_3 0 none))), (9, .pointer (some (Addr.mk b_4 0 none))), (10, .pointer (some (Addr.mk b_5 0 none))), (11, .pointer (some (Addr.mk b_6 0 none))), (14, .pointer (some (Addr.mk b_8 0 none))), (15, .int .u64 x_6), (17, .int .u64 ra)] (fun _=>by kernel_rfl) ?_
    refine T_e ?_
    refine T_sr 10 kk31 kk32 ?_
    refine N_run 4 [(5, .pointer (some (Addr.mk b 0 none))), (6, .pointer (some (Addr.mk b_2 0 none))), (7, .pointer (some (Addr.mk b_3 0 none))), (9, .pointer (some (Addr.mk b_4 0 none))), (10, .pointer (some (Addr.mk b_5 0 none))), (11, .pointer (some (Addr.mk b_6 0 none))), (14, .pointer (some (Addr.mk b_8 0 none))), (17, .int .u64 ra), (19, .int .u64 ra), (20, .int .u64 x_6)] (fun _=>by kernel_rfl) ?_
    refine T_e ?_
    refine S_seq kk33 kk34 (by kernel_rfl) ?_
    refine T_sr 11 kk35 kk36 ?_
    obtain ⟨x_9, q35, h⟩ := h
    refine N_val (some 50) (loadN 4 (.pointer (some (Addr.mk b_4 0 none)))) (.bool x_9) (fun _=>by kernel_rfl) (loadN_run (loadOK_one (fun _=>by kernel_rfl) q35)) [(5, .pointer (some (Addr.mk b 0 none))), (6, .pointer (some (Addr.mk b_2 0 none))), (7, .pointer (some (Addr.mk b_3 0 none))), (10, .pointer (some (Addr.mk b_5 0 none))), (11, .pointer (some (Addr.mk b_6 0 none))), (14, .pointer (some (Addr.mk b_8 0 none))), (17, .int .u64 ra), (19, .int .u64 ra), (20, .int .u64 x_6), (50, .bool x_9)] (ps (by kernel_rfl)) ?_
    refine T_e ?_
    obtain ⟨J, h, j37⟩ := h
    refine S_join (σ := Int × Int) (fun s_ => [(6, .pointer (some (Addr.mk b_2 0 none))), (7, .pointer (some (Addr.mk b_3 0 none))), (10, .pointer (some (Addr.mk b_5 0 none))), (11, .pointer (some (Addr.mk b_6 0 none))), (14, .pointer (some (Addr.mk b_8 0 none))), (19, .int .u64 s_.1), (20, .int .u64 s_.2)]) (fun s_ H => J s_.1 s_.2 H) ?_ ?_
    ·rintro ⟨key, out⟩ H16 j38
     replace h := j37 key out H16 j38
     refine S_sub [(6, .pointer (some (Addr.mk b_2 0 none))), (7, .pointer (some (Addr.mk b_3 0 none))), (10, .pointer (some (Addr.mk b_5 0 none))), (11, .pointer (some (Addr.mk b_6 0 none))), (14, .pointer (some (Addr.mk b_8 0 none))), (19, .int .u64 key), (20, .int .u64 out)] (sb (by kernel_rfl)) ?_
     refine S_then ?_
     refine T_sr 16 kk39 kk40 ?_
     obtain ⟨x_10, q39, h⟩ := h
     refine N_val (some 63) (loadN 65 (.pointer (some (Addr.mk b_8 0 none)))) (.pointer x_10) (fun _=>by kernel_rfl) (loadN_run (loadOK_one (fun _=>by kernel_rfl) q39)) [(6, .pointer (some (Addr.mk b_2 0 none))), (7, .pointer (some (Addr.mk b_3 0 none))), (10, .pointer (some (Addr.mk b_5 0 none))), (11, .pointer (some (Addr.mk b_6 0 none))), (19, .int .u64 key), (20, .int .u64 out), (63, .pointer x_10)] (ps (by kernel_rfl)) ?_
     obtain ⟨x_11, q40, h⟩ := h
     refine N_val (some 64) (loadN 3 (.pointer (some (Addr.mk b_2 0 none)))) (.int .i64 x_11) (fun _=>by kernel_rfl) (loadN_run (loadOK_one (fun _=>by kernel_rfl) q40)) [(7, .pointer (some (Addr.mk b_3 0 none))), (10, .pointer (some (Addr.mk b_5 0 none))), (11, .pointer (some (Addr.mk b_6 0 none))), (19, .int .u64 key), (20, .int .u64 out), (63, .pointer x_10), (64, .int .i64 x_11)] (ps (by kernel_rfl)) ?_
     obtain ⟨x_12, q41, h⟩ := h
     refine N_val (some 65) (loadN 31 (.pointer (some (Addr.mk b_3 0 none)))) (.int .u64 x_12) (fun _=>by kernel_rfl) (loadN_run (loadOK_one (fun _=>by kernel_rfl) q41)) [(10, .pointer (some (Addr.mk b_5 0 none))), (11, .pointer (some (Addr.mk b_6 0 none))), (19, .int .u64 key), (20, .int .u64 out), (63, .pointer x_10), (64, .int .i64 x_11), (65, .int .u64 x_12)] (ps (by kernel_rfl)) ?_
     refine N_run 1 [(10, .pointer (some (Addr.mk b_5 0 none))), (11, .pointer (some (Addr.mk b_6 0 none))), (20, .int .u64 out), (63, .pointer x_10), (64, .int .i64 x_11), (65, .int .u64 x_12), (66, .int .u64 key)] (fun _=>by kernel_rfl) ?_
     refine N_call (some 67) 29 #[.pointer x_10, .int .i64 x_11, .int .u64 x_12, .int .u64 key] (fun _=>by kernel_rfl) h ?_; clear h
     rintro v_4 H17 ⟨ra_2, rb_3, rfl, h⟩
     refine ⟨[(10, .pointer (some (Addr.mk b_5 0 none))), (11, .pointer (some (Addr.mk b_6 0 none))), (20, .int .u64 out), (67, .tuple #[.bool ra_2, .int .i64 rb_3])], ps (by kernel_rfl), ?_⟩
     refine N_run 5 [(10, .pointer (some (Addr.mk b_5 0 none))), (11, .pointer (some (Addr.mk b_6 0 none))), (20, .int .u64 out), (23, .bool ra_2), (24, .int .i64 rb_3)] (fun _=>by kernel_rfl) ?_
     refine T_e ?_
     refine S_seq kk41 kk42 (by kernel_rfl) ?_
     refine T_sr 17 kk43 kk44 ?_
     refine N_run 2 [(10, .pointer (some (Addr.mk b_5 0 none))), (11, .pointer (some (Addr.mk b_6 0 none))), (20, .int .u64 out), (23, .bool ra_2), (24, .int .i64 rb_3), (71, .bool (rb_3 != 0))] (fun _=>by kernel_rfl) ?_
     refine T_e ?_
     by_cases c42 : rb_3 = 0
     ·rw [if_pos c42] at h
      have b43 : (rb_3 != 0) = false := bne_eq_false_iff_eq.mpr c42
      refine S_env [(10, .pointer (some (Addr.mk b_5 0 none))), (11, .pointer (some (Addr.mk b_6 0 none))), (20, .int .u64 out), (23, .bool ra_2), (24, .int .i64 rb_3), (71, .bool false)] (by simp only [b43, Bool.not_true, Bool.not_false]) ?_
      clear b43
      refine S_condF (.tmp 71) kk45 kk46 (by kernel_rfl) (by kernel_rfl) ?_
      refine S_skip (by kernel_rfl) ?_
      refine S_then ?_
      refine T_sr 19 kk47 kk48 ?_
      refine N_run 1 [(10, .pointer (some (Addr.mk b_5 0 none))), (11, .pointer (some (Addr.mk b_6 0 none))), (20, .int .u64 out), (73, .bool ra_2)] (fun _=>by kernel_rfl) ?_
      refine T_e ?_
      by_cases c44 : ra_2 = true
      ·rw [if_pos c44] at h
       have b45 : ra_2 = true := c44
       refine S_env [(10, .pointer (some (Addr.mk b_5 0 none))), (11, .pointer (some (Addr.mk b_6 0 none))), (20, .int .u64 out), (73, .bool true)] (by simp only [b45, Bool.not_true, Bool.not_false]) ?_
       clear b45
       refine S_condT (.tmp 73) kk49 kk50 (by kernel_rfl) (by kernel_rfl) ?_
       refine T_sr 20 kk51 kk52 ?_
       refine N_run 1 [(10, .pointer (some (Addr.mk b_5 0 none))), (11, .pointer (some (Addr.mk b_6 0 none))), (74, .int .u64 out)] (fun _=>by kernel_rfl) ?_
       obtain ⟨q47, h⟩ := h
       refine N_skipop none (storeN 31 (.pointer (some (Addr.mk b_5 0 none))) (.int .u64 out)) (fun Hz => Hz = hputs H17 (Addr.mk b_5 0 none) [.int .u64 out] 0) (fun _=>by kernel_rfl) (ss_store [.int .u64 out] 1 (by kernel_rfl) (by kernel_rfl) (fun _=>by kernel_rfl) (by kernel_rfl) q47) ?_
       intro H18 e46
       replace h := h H18 e46
       refine ⟨[(11, .pointer (some (Addr.mk b_6 0 none)))], ps (by kernel_rfl), ?_⟩
       obtain ⟨q49, h⟩ := h
       refine N_skipop none (storeN 24 (.pointer (some (Addr.mk b_6 0 none))) (.int .i64 0)) (fun Hz => Hz = hputs H18 (Addr.mk b_6 0 none) [.int .i64 0] 0) (fun _=>by kernel_rfl) (ss_store [.int .i64 0] 1 (by kernel_rfl) (by kernel_rfl) (fun _=>by kernel_rfl) (by kernel_rfl) q49) ?_
       intro H19 e48
       replace h := h H19 e48
       refine ⟨[], ps (by kernel_rfl), ?_⟩
       refine T_e ?_
       refine S_ret (by kernel_rfl) ?_
       show At _ _ _ _ _ (roundPost _ _ _ .ret)
       obtain ⟨q50, h⟩ := h
       exact S_rret r24 q50 h
      ·rw [if_neg c44] at h
       have b45 : ra_2 = false := eq_false_of_ne_true c44
       refine S_env [(10, .pointer (some (Addr.mk b_5 0 none))), (11, .pointer (some (Addr.mk b_6 0 none))), (20, .int .u64 out), (73, .bool false)] (by simp only [b45, Bool.not_true, Bool.not_false]) ?_
       clear b45
       refine S_condF (.tmp 73) kk49 kk50 (by kernel_rfl) (by kernel_rfl) ?_
       refine S_skip (by kernel_rfl) ?_
       refine S_blockEnd ?_
       obtain ⟨q51, h⟩ := h
       exact S_rnormal r24 q51 h
     ·rw [if_neg c42] at h
      have b43 : (rb_3 != 0) = true := bne_iff_ne.mpr c42
      refine S_env [(10, .pointer (some (Addr.mk b_5 0 none))), (11, .pointer (some (Addr.mk b_6 0 none))), (20, .int .u64 out), (23, .bool ra_2), (24, .int .i64 rb_3), (71, .bool true)] (by simp only [b43, Bool.not_true, Bool.not_false]) ?_
      clear b43
      refine S_condT (.tmp 71) kk45 kk46 (by kernel_rfl) (by kernel_rfl) ?_
      refine T_sr 18 kk53 kk54 ?_
      refine N_run 1 [(10, .pointer (some (Addr.mk b_5 0 none))), (11, .pointer (some (Addr.mk b_6 0 none))), (72, .int .i64 rb_3)] (fun _=>by kernel_rfl) ?_
      obtain ⟨q53, h⟩ := h
      refine N_skipop none (storeN 31 (.pointer (some (Addr.mk b_5 0 none))) (.int .u64 0)) (fun Hz => Hz = hputs H17 (Addr.mk b_5 0 none) [.int .u64 0] 0) (fun _=>by kernel_rfl) (ss_store [.int .u64 0] 1 (by kernel_rfl) (by kernel_rfl) (fun _=>by kernel_rfl) (by kernel_rfl) q53) ?_
      intro H20 e52
      replace h := h H20 e52
      refine ⟨[(11, .pointer (some (Addr.mk b_6 0 none))), (72, .int .i64 rb_3)], ps (by kernel_rfl), ?_⟩
      obtain ⟨q55, h⟩ := h
      refine N_skipop none (storeN 24 (.pointer (some (Addr.mk b_6 0 none))) (.int .i64 rb_3)) (fun Hz => Hz = hputs H20 (Addr.mk b_6 0 none) [.int .i64 rb_3] 0) (fun _=>by kernel_rfl) (ss_store [.int .i64 rb_3] 1 (by kernel_rfl) (by kernel_rfl) (fun _=>by kernel_rfl) (by kernel_rfl) q55) ?_
      intro H21 e54
      replace h := h H21 e54
      refine ⟨[], ps (by kernel_rfl), ?_⟩
      refine T_e ?_
      refine S_ret (by kernel_rfl) ?_
      show At _ _ _ _ _ (roundPost _ _ _ .ret)
      obtain ⟨q56, h⟩ := h
      exact S_rret r24 q56 h
    ·by_cases c57 : x_9 = true
     ·rw [if_pos c57] at h
      have b58 : x_9 = true := c57
      refine S_env [(5, .pointer (some (Addr.mk b 0 none))), (6, .pointer (some (Addr.mk b_2 0 none))), (7, .pointer (some (Addr.mk b_3 0 none))), (10, .pointer (some (Addr.mk b_5 0 none))), (11, .pointer (some (Addr.mk b_6 0 none))), (14, .pointer (some (Addr.mk b_8 0 none))), (17, .int .u64 ra), (19, .int .u64 ra), (20, .int .u64 x_6), (50, .bool true)] (by simp only [b58, Bool.not_true, Bool.not_false]) ?_
      clear b58
      refine S_condT (.tmp 50) kk37 kk38 (by kernel_rfl) (by kernel_rfl) ?_
      refine T_sr 12 kk55 kk56 ?_
      refine N_sub [(5, .pointer (some (Addr.mk b 0 none))), (6, .pointer (some (Addr.mk b_2 0 none))), (7, .pointer (some (Addr.mk b_3 0 none))), (10, .pointer (some (Addr.mk b_5 0 none))), (11, .pointer (some (Addr.mk b_6 0 none))), (14, .pointer (some (Addr.mk b_8 0 none))), (17, .int .u64 ra)] (sb (by kernel_rfl)) ?_
      obtain ⟨x_13, q59, h⟩ := h
      refine N_val (some 52) (loadN 23 (.pointer (some (Addr.mk b 0 none)))) (.pointer x_13) (fun _=>by kernel_rfl) (loadN_run (loadOK_one (fun _=>by kernel_rfl) q59)) [(6, .pointer (some (Addr.mk b_2 0 none))), (7, .pointer (some (Addr.mk b_3 0 none))), (10, .pointer (some (Addr.mk b_5 0 none))), (11, .pointer (some (Addr.mk b_6 0 none))), (14, .pointer (some (Addr.mk b_8 0 none))), (17, .int .u64 ra), (52, .pointer x_13)] (ps (by kernel_rfl)) ?_
      refine N_run 1 [(6, .pointer (some (Addr.mk b_2 0 none))), (7, .pointer (some (Addr.mk b_3 0 none))), (10, .pointer (some (Addr.mk b_5 0 none))), (11, .pointer (some (Addr.mk b_6 0 none))), (14, .pointer (some (Addr.mk b_8 0 none))), (17, .int .u64 ra), (52, .pointer x_13), (53, .int .u64 ra)] (fun _=>by kernel_rfl) ?_
      refine N_call (some 54) 16 #[.pointer x_13, .int .u64 ra] (fun _=>by kernel_rfl) h ?_; clear h
      rintro v_5 H22 ⟨ra_3, rb_4, rfl, h⟩
      refine ⟨[(6, .pointer (some (Addr.mk b_2 0 none))), (7, .pointer (some (Addr.mk b_3 0 none))), (10, .pointer (some (Addr.mk b_5 0 none))), (11, .pointer (some (Addr.mk b_6 0 none))), (14, .pointer (some (Addr.mk b_8 0 none))), (17, .int .u64 ra), (54, .tuple #[.int .u64 ra_3, .int .i64 rb_4])], ps (by kernel_rfl), ?_⟩
      refine N_run 5 [(6, .pointer (some (Addr.mk b_2 0 none))), (7, .pointer (some (Addr.mk b_3 0 none))), (10, .pointer (some (Addr.mk b_5 0 none))), (11, .pointer (some (Addr.mk b_6 0 none))), (14, .pointer (some (Addr.mk b_8 0 none))), (17, .int .u64 ra), (21, .int .u64 ra_3), (22, .int .i64 rb_4)] (fun _=>by kernel_rfl) ?_
      refine T_e ?_
      refine S_seq kk57 kk58 (by kernel_rfl) ?_
      refine T_sr 13 kk59 kk60 ?_
      refine N_run 2 [(6, .pointer (some (Addr.mk b_2 0 none))), (7, .pointer (some (Addr.mk b_3 0 none))), (10, .pointer (some (Addr.mk b_5 0 none))), (11, .pointer (some (Addr.mk b_6 0 none))), (14, .pointer (some (Addr.mk b_8 0 none))), (17, .int .u64 ra), (21, .int .u64 ra_3), (22, .int .i64 rb_4), (58, .bool (rb_4 != 0))] (fun _=>by kernel_rfl) ?_
      refine T_e ?_
      by_cases c60 : rb_4 = 0
      ·rw [if_pos c60] at h
       have b61 : (rb_4 != 0) = false := bne_eq_false_iff_eq.mpr c60
       refine S_env [(6, .pointer (some (Addr.mk b_2 0 none))), (7, .pointer (some (Addr.mk b_3 0 none))), (10, .pointer (some (Addr.mk b_5 0 none))), (11, .pointer (some (Addr.mk b_6 0 none))), (14, .pointer (some (Addr.mk b_8 0 none))), (17, .int .u64 ra), (21, .int .u64 ra_3), (22, .int .i64 rb_4), (58, .bool false)] (by simp only [b61, Bool.not_true, Bool.not_false]) ?_
       clear b61
       refine S_condF (.tmp 58) kk61 kk62 (by kernel_rfl) (by kernel_rfl) ?_
       refine S_skip (by kernel_rfl) ?_
       refine S_then ?_
       refine S_region 15 (Code.ops kk58) (by kernel_rfl) ?_
       refine N_run 4 [(6, .pointer (some (Addr.mk b_2 0 none))), (7, .pointer (some (Addr.mk b_3 0 none))), (10, .pointer (some (Addr.mk b_5 0 none))), (11, .pointer (some (Addr.mk b_6 0 none))), (14, .pointer (some (Addr.mk b_8 0 none))), (19, .int .u64 ra_3), (20, .int .u64 ra)] (fun _=>by kernel_rfl) ?_
       refine T_e ?_
       exact S_meet ((ra_3, ra) : Int × Int) (sb (by kernel_rfl)) h
      ·rw [if_neg c60] at h
       have b61 : (rb_4 != 0) = true := bne_iff_ne.mpr c60
       refine S_env [(6, .pointer (some (Addr.mk b_2 0 none))), (7, .pointer (some (Addr.mk b_3 0 none))), (10, .pointer (some (Addr.mk b_5 0 none))), (11, .pointer (some (Addr.mk b_6 0 none))), (14, .pointer (some (Addr.mk b_8 0 none))), (17, .int .u64 ra), (21, .int .u64 ra_3), (22, .int .i64 rb_4), (58, .bool true)] (by simp only [b61, Bool.not_true, Bool.not_false]) ?_
       clear b61
       refine S_condT (.tmp 58) kk61 kk62 (by kernel_rfl) (by kernel_rfl) ?_
       refine T_sr 14 kk63 kk64 ?_
       refine N_run 1 [(10, .pointer (some (Addr.mk b_5 0 none))), (11, .pointer (some (Addr.mk b_6 0 none))), (59, .int .i64 rb_4)] (fun _=>by kernel_rfl) ?_
       obtain ⟨q63, h⟩ := h
       refine N_skipop none (storeN 31 (.pointer (some (Addr.mk b_5 0 none))) (.int .u64 0)) (fun Hz => Hz = hputs H22 (Addr.mk b_5 0 none) [.int .u64 0] 0) (fun _=>by kernel_rfl) (ss_store [.int .u64 0] 1 (by kernel_rfl) (by kernel_rfl) (fun _=>by kernel_rfl) (by kernel_rfl) q63) ?_
       intro H23 e62
       replace h := h H23 e62
       refine ⟨[(11, .pointer (some (Addr.mk b_6 0 none))), (59, .int .i64 rb_4)], ps (by kernel_rfl), ?_⟩
       obtain ⟨q65, h⟩ := h
       refine N_skipop none (storeN 24 (.pointer (some (Addr.mk b_6 0 none))) (.int .i64 rb_4)) (fun Hz => Hz = hputs H23 (Addr.mk b_6 0 none) [.int .i64 rb_4] 0) (fun _=>by kernel_rfl) (ss_store [.int .i64 rb_4] 1 (by kernel_rfl) (by kernel_rfl) (fun _=>by kernel_rfl) (by kernel_rfl) q65) ?_
       intro H24 e64
       replace h := h H24 e64
       refine ⟨[], ps (by kernel_rfl), ?_⟩
       refine T_e ?_
       refine S_ret (by kernel_rfl) ?_
       show At _ _ _ _ _ (roundPost _ _ _ .ret)
       obtain ⟨q66, h⟩ := h
       exact S_rret r24 q66 h
     ·rw [if_neg c57] at h
      have b58 : x_9 = false := eq_false_of_ne_true c57
      refine S_env [(5, .pointer (some (Addr.mk b 0 none))), (6, .pointer (some (Addr.mk b_2 0 none))), (7, .pointer (some (Addr.mk b_3 0 none))), (10, .pointer (some (Addr.mk b_5 0 none))), (11, .pointer (some (Addr.mk b_6 0 none))), (14, .pointer (some (Addr.mk b_8 0 none))), (17, .int .u64 ra), (19, .int .u64 ra), (20, .int .u64 x_6), (50, .bool false)] (by simp only [b58, Bool.not_true, Bool.not_false]) ?_
      clear b58
      refine S_condF (.tmp 50) kk37 kk38 (by kernel_rfl) (by kernel_rfl) ?_
      refine S_skip (by kernel_rfl) ?_
      refine S_then ?_
      exact S_meet ((ra, x_6) : Int × Int) (sb (by kernel_rfl)) h
  ·clear h y27
   rintro _ H25 (⟨q67, h⟩ | ⟨q67, h⟩ | ⟨q67, h⟩)
   ·refine .inl ⟨q67, fun H26 e82 => ?_⟩
    replace h := h H26 e82
    refine S_marks (H11.size :: []) rfl ?_
    refine S_sub [(10, .pointer (some (Addr.mk b_5 0 none))), (11, .pointer (some (Addr.mk b_6 0 none)))] (sb (by kernel_rfl)) ?_
    refine S_blockEnd ?_
    refine S_then ?_
    refine T_sr 21 kk65 kk66 ?_
    obtain ⟨q69, h⟩ := h
    refine N_skipop none (storeN 31 (.pointer (some (Addr.mk b_5 0 none))) (.int .u64 4)) (fun Hz => Hz = hputs H26 (Addr.mk b_5 0 none) [.int .u64 4] 0) (fun _=>by kernel_rfl) (ss_store [.int .u64 4] 1 (by kernel_rfl) (by kernel_rfl) (fun _=>by kernel_rfl) (by kernel_rfl) q69) ?_
    intro H27 e68
    replace h := h H27 e68
    refine ⟨[(10, .pointer (some (Addr.mk b_5 0 none))), (11, .pointer (some (Addr.mk b_6 0 none)))], ps (by kernel_rfl), ?_⟩
    obtain ⟨q71, h⟩ := h
    refine N_skipop none (storeN 24 (.pointer (some (Addr.mk b_6 0 none))) (.int .i64 0)) (fun Hz => Hz = hputs H27 (Addr.mk b_6 0 none) [.int .i64 0] 0) (fun _=>by kernel_rfl) (ss_store [.int .i64 0] 1 (by kernel_rfl) (by kernel_rfl) (fun _=>by kernel_rfl) (by kernel_rfl) q71) ?_
    intro H28 e70
    replace h := h H28 e70
    refine ⟨[(10, .pointer (some (Addr.mk b_5 0 none))), (11, .pointer (some (Addr.mk b_6 0 none)))], ps (by kernel_rfl), ?_⟩
    refine T_e ?_
    refine S_ret (by kernel_rfl) ?_
    show At _ _ _ _ _ (Q .ret)
    refine S_doneM (fn := Try.f27) (H11.size :: []) hQ (Shut.mono (fun H29 h => ?_) h)
    obtain ⟨r, q72, h⟩ := h
    obtain ⟨r_2, q73, h⟩ := h
    exact ⟨[.int .u64 r, .int .i64 r_2], (show ResOK _ _ _ [.cell 10 31, .cell 11 24] _ from .cell (by kernel_rfl) (loadOK_one (fun _=>by kernel_rfl) q72) (.cell (by kernel_rfl) (loadOK_one (fun _=>by kernel_rfl) q73) (.nil))), h⟩
   ·refine .inr ⟨_, q67, fun H26 e82 => ?_⟩
    replace h := h H26 e82
    refine S_marks (H11.size :: []) rfl ?_
    refine S_sub [(10, .pointer (some (Addr.mk b_5 0 none))), (11, .pointer (some (Addr.mk b_6 0 none)))] (sb (by kernel_rfl)) ?_
    refine S_exit 0 rfl ?_
    refine S_exitHere ?_
    refine S_then ?_
    refine T_sr 21 kk65 kk66 ?_
    obtain ⟨q75, h⟩ := h
    refine N_skipop none (storeN 31 (.pointer (some (Addr.mk b_5 0 none))) (.int .u64 4)) (fun Hz => Hz = hputs H26 (Addr.mk b_5 0 none) [.int .u64 4] 0) (fun _=>by kernel_rfl) (ss_store [.int .u64 4] 1 (by kernel_rfl) (by kernel_rfl) (fun _=>by kernel_rfl) (by kernel_rfl) q75) ?_
    intro H30 e74
    replace h := h H30 e74
    refine ⟨[(10, .pointer (some (Addr.mk b_5 0 none))), (11, .pointer (some (Addr.mk b_6 0 none)))], ps (by kernel_rfl), ?_⟩
    obtain ⟨q77, h⟩ := h
    refine N_skipop none (storeN 24 (.pointer (some (Addr.mk b_6 0 none))) (.int .i64 0)) (fun Hz => Hz = hputs H30 (Addr.mk b_6 0 none) [.int .i64 0] 0) (fun _=>by kernel_rfl) (ss_store [.int .i64 0] 1 (by kernel_rfl) (by kernel_rfl) (fun _=>by kernel_rfl) (by kernel_rfl) q77) ?_
    intro H31 e76
    replace h := h H31 e76
    refine ⟨[(10, .pointer (some (Addr.mk b_5 0 none))), (11, .pointer (some (Addr.mk b_6 0 none)))], ps (by kernel_rfl), ?_⟩
    refine T_e ?_
    refine S_ret (by kernel_rfl) ?_
    show At _ _ _ _ _ (Q .ret)
    refine S_doneM (fn := Try.f27) (H11.size :: []) hQ (Shut.mono (fun H32 h => ?_) h)
    obtain ⟨r_3, q78, h⟩ := h
    obtain ⟨r_4, q79, h⟩ := h
    exact ⟨[.int .u64 r_3, .int .i64 r_4], (show ResOK _ _ _ [.cell 10 31, .cell 11 24] _ from .cell (by kernel_rfl) (loadOK_one (fun _=>by kernel_rfl) q78) (.cell (by kernel_rfl) (loadOK_one (fun _=>by kernel_rfl) q79) (.nil))), h⟩
   ·refine .inr ⟨_, q67, fun H26 e82 => ?_⟩
    replace h := h H26 e82
    refine S_marks (H11.size :: []) rfl ?_
    refine S_sub [(10, .pointer (some (Addr.mk b_5 0 none))), (11, .pointer (some (Addr.mk b_6 0 none)))] (sb (by kernel_rfl)) ?_
    refine S_ret rfl ?_
    show At _ _ _ _ _ (Q .ret)
    refine S_doneM (fn := Try.f27) (H11.size :: []) hQ (Shut.mono (fun H33 h => ?_) h)
    obtain ⟨r_5, q80, h⟩ := h
    obtain ⟨r_6, q81, h⟩ := h
    exact ⟨[.int .u64 r_5, .int .i64 r_6], (show ResOK _ _ _ [.cell 10 31, .cell 11 24] _ from .cell (by kernel_rfl) (loadOK_one (fun _=>by kernel_rfl) q80) (.cell (by kernel_rfl) (loadOK_one (fun _=>by kernel_rfl) q81) (.nil))), h⟩
 ·rw [if_neg c14] at h
  have b15 : (!rb) = true := congrArg Bool.not (eq_false_of_ne_true c14)
  have b152 : rb = false := eq_false_of_ne_true c14
  refine S_env [(3, .int .u64 l), (5, .pointer (some (Addr.mk b 0 none))), (6, .pointer (some (Addr.mk b_2 0 none))), (7, .pointer (some (Addr.mk b_3 0 none))), (9, .pointer (some (Addr.mk b_4 0 none))), (10, .pointer (some (Addr.mk b_5 0 none))), (11, .pointer (some (Addr.mk b_6 0 none))), (32, .bool true)] (by simp only [b15, b152, Bool.not_true, Bool.not_false]) ?_
  clear b15 b152
  refine S_condT (.tmp 32) kk9 kk10 (by kernel_rfl) (by kernel_rfl) ?_
  refine T_sr 3 kk67 kk68 ?_
  refine N_sub [(10, .pointer (some (Addr.mk b_5 0 none))), (11, .pointer (some (Addr.mk b_6 0 none)))] (sb (by kernel_rfl)) ?_
  obtain ⟨q84, h⟩ := h
  refine N_skipop none (storeN 31 (.pointer (some (Addr.mk b_5 0 none))) (.int .u64 0)) (fun Hz => Hz = hputs H7 (Addr.mk b_5 0 none) [.int .u64 0] 0) (fun _=>by kernel_rfl) (ss_store [.int .u64 0] 1 (by kernel_rfl) (by kernel_rfl) (fun _=>by kernel_rfl) (by kernel_rfl) q84) ?_
  intro H34 e83
  replace h := h H34 e83
  refine ⟨[(10, .pointer (some (Addr.mk b_5 0 none))), (11, .pointer (some (Addr.mk b_6 0 none)))], ps (by kernel_rfl), ?_⟩
  obtain ⟨q86, h⟩ := h
  refine N_skipop none (storeN 24 (.pointer (some (Addr.mk b_6 0 none))) (.int .i64 3)) (fun Hz => Hz = hputs H34 (Addr.mk b_6 0 none) [.int .i64 3] 0) (fun _=>by kernel_rfl) (ss_store [.int .i64 3] 1 (by kernel_rfl) (by kernel_rfl) (fun _=>by kernel_rfl) (by kernel_rfl) q86) ?_
  intro H35 e85
  replace h := h H35 e85
  refine ⟨[(10, .pointer (some (Addr.mk b_5 0 none))), (11, .pointer (some (Addr.mk b_6 0 none)))], ps (by kernel_rfl), ?_⟩
  refine T_e ?_
  refine S_ret (by kernel_rfl) ?_
  show At _ _ _ _ _ (Q .ret)
  obtain ⟨r_7, q87, h⟩ := h
  obtain ⟨r_8, q88, h⟩ := h
  exact S_done (fn := Try.f27) [.int .u64 r_7, .int .i64 r_8] hQ (show ResOK _ _ _ [.cell 10 31, .cell 11 24] _ from .cell (by kernel_rfl) (loadOK_one (fun _=>by kernel_rfl) q87) (.cell (by kernel_rfl) (loadOK_one (fun _=>by kernel_rfl) q88) (.nil))) h
end lists_find

/-! moraine/lists.told -/
namespace lists_told
def kk0 := Func.code Try.f28
def kk1 := Code.fa kk0
def kk2 := Code.fb kk0
def kk3 := Code.fa kk2
def kk4 := Code.fb kk2
def kk5 := Code.fa kk3
def kk6 := Code.fb kk3
def kk7 := Code.fa kk6
def kk8 := Code.fb kk6
def kk9 := Code.fa kk4
def kk10 := Code.fb kk4
def kk11 := Code.fa kk7
def kk12 := Code.fb kk7
end lists_told
def lists_told.pt (isv : Bool) (ev : Int) (H : Array Obj) (R : Value → Array Obj → Prop) : Prop :=
 if ev = 0 then (
 lists_truth.C isv H (fun v H1 => ∃ x : Int, v = .int .u64 x ∧ 
 R (.tuple #[.int .u64 x, .int .i64 0]) H1))
 else
 R (.tuple #[.int .u64 0, .int .i64 ev]) H
namespace lists_told
set_option maxRecDepth 100000 in
theorem link {isv : Bool} {ev : Int} {H : Array Obj} {R : Value → Array Obj → Prop} (h : pt isv ev H R) : C isv ev H R := by
 refine S_enter (fn := Try.f28) (c := kk0) 11 Try.func28 (by kernel_rfl) (by kernel_rfl) (Nat.le_of_ble_eq_true (by kernel_rfl)) ?_
 intro w0 Q hQ
 unfold pt at h
 refine S_sub [(0, .bool isv), (1, .int .i64 ev)] (sb (by kernel_rfl)) ?_
 refine T_sr 0 kk1 kk2 ?_
 refine N_run 2 [(0, .bool isv), (1, .int .i64 ev)] (fun _=>by kernel_rfl) ?_
 refine T_e ?_
 refine S_seq kk3 kk4 (by kernel_rfl) ?_
 refine T_sr 1 kk5 kk6 ?_
 refine N_run 2 [(0, .bool isv), (1, .int .i64 ev), (7, .bool (ev != 0))] (fun _=>by kernel_rfl) ?_
 refine T_e ?_
 by_cases c1 : ev = 0
 ·rw [if_pos c1] at h
  have b2 : (ev != 0) = false := bne_eq_false_iff_eq.mpr c1
  refine S_env [(0, .bool isv), (1, .int .i64 ev), (7, .bool false)] (by simp only [b2, Bool.not_true, Bool.not_false]) ?_
  clear b2
  refine S_condF (.tmp 7) kk7 kk8 (by kernel_rfl) (by kernel_rfl) ?_
  refine S_skip (by kernel_rfl) ?_
  refine S_then ?_
  refine T_sr 3 kk9 kk10 ?_
  refine N_run 1 [(9, .bool isv)] (fun _=>by kernel_rfl) ?_
  refine N_call (some 10) 38 #[.bool isv] (fun _=>by kernel_rfl) h ?_; clear h
  rintro v H1 ⟨x, rfl, h⟩
  refine ⟨[(10, .int .u64 x)], ps (by kernel_rfl), ?_⟩
  refine N_run 2 [(4, .int .u64 x), (5, .int .i64 0)] (fun _=>by kernel_rfl) ?_
  refine T_e ?_
  refine S_ret (by kernel_rfl) ?_
  show At _ _ _ _ _ (Q .ret)
  exact S_done (fn := Try.f28) [.int .u64 x, .int .i64 0] hQ (show ResOK _ _ _ [.tmp 4, .tmp 5] _ from .tmp (by kernel_rfl) (.tmp (by kernel_rfl) (.nil))) h
 ·rw [if_neg c1] at h
  have b2 : (ev != 0) = true := bne_iff_ne.mpr c1
  refine S_env [(0, .bool isv), (1, .int .i64 ev), (7, .bool true)] (by simp only [b2, Bool.not_true, Bool.not_false]) ?_
  clear b2
  refine S_condT (.tmp 7) kk7 kk8 (by kernel_rfl) (by kernel_rfl) ?_
  refine T_sr 2 kk11 kk12 ?_
  refine N_run 3 [(4, .int .u64 0), (5, .int .i64 ev)] (fun _=>by kernel_rfl) ?_
  refine T_e ?_
  refine S_ret (by kernel_rfl) ?_
  show At _ _ _ _ _ (Q .ret)
  exact S_done (fn := Try.f28) [.int .u64 0, .int .i64 ev] hQ (show ResOK _ _ _ [.tmp 4, .tmp 5] _ from .tmp (by kernel_rfl) (.tmp (by kernel_rfl) (.nil))) h
end lists_told

/-! (*moraine/lists.judge).same -/
namespace lists_judge_same
def kk0 := Func.code Try.f29
def kk1 := Code.fa kk0
def kk2 := Code.fb kk0
def kk3 := Code.fa kk2
def kk4 := Code.fb kk2
def kk5 := Code.fa kk3
def kk6 := Code.fb kk3
def kk7 := Code.fa kk6
def kk8 := Code.fa kk7
def kk9 := Code.fb kk7
def kk10 := Code.fa kk9
def kk11 := Code.fb kk9
def kk12 := Code.fa kk10
def kk13 := Code.fb kk10
def kk14 := Code.fa kk11
def kk15 := Code.fb kk11
def kk16 := Code.fa kk15
def kk17 := Code.fb kk15
def kk18 := Code.fa kk16
def kk19 := Code.fb kk16
def kk20 := Code.fa kk4
def kk21 := Code.fb kk4
end lists_judge_same
def lists_judge_same.pt (j : Option Addr) (kind : Int) (a : Int) (b : Int) (H : Array Obj) (R : Value → Array Obj → Prop) : Prop :=
 if kind = 0 then (
 R (.tuple #[.bool (a == b), .int .i64 0]) H)
 else
 if kind = 1 then (
 lists_judge_value.C j a b H (fun v H1 => ∃ x : Bool, v = .bool x ∧ 
 R (.tuple #[.bool x, .int .i64 0]) H1))
 else
 lists_judge_equal.C j a b H (fun v_2 H2 => ∃ ra : Bool, ∃ rb : Int, v_2 = .tuple #[.bool ra, .int .i64 rb] ∧ 
 R (.tuple #[.bool ra, .int .i64 rb]) H2)
namespace lists_judge_same
set_option maxRecDepth 100000 in
theorem link {j : Option Addr} {kind : Int} {a : Int} {b : Int} {H : Array Obj} {R : Value → Array Obj → Prop} (h : pt j kind a b H R) : C j kind a b H R := by
 refine S_enter (fn := Try.f29) (c := kk0) 28 Try.func29 (by kernel_rfl) (by kernel_rfl) (Nat.le_of_ble_eq_true (by kernel_rfl)) ?_
 intro w0 Q hQ
 unfold pt at h
 refine S_sub [(0, .pointer j), (1, .int .i64 kind), (2, .int .u64 a), (3, .int .u64 b)] (sb (by kernel_rfl)) ?_
 refine T_sr 0 kk1 kk2 ?_
 refine N_run 2 [(0, .pointer j), (1, .int .i64 kind), (2, .int .u64 a), (3, .int .u64 b)] (fun _=>by kernel_rfl) ?_
 refine T_e ?_
 refine S_seq kk3 kk4 (by kernel_rfl) ?_
 refine T_sr 1 kk5 kk6 ?_
 refine N_run 1 [(0, .pointer j), (2, .int .u64 a), (3, .int .u64 b), (10, .int .i64 kind)] (fun _=>by kernel_rfl) ?_
 refine T_e ?_
 refine S_block 0 kk7 (by kernel_rfl) ?_
 refine T_sr 2 kk8 kk9 ?_
 refine N_run 2 [(0, .pointer j), (2, .int .u64 a), (3, .int .u64 b), (10, .int .i64 kind), (11, .bool (kind == 0))] (fun _=>by kernel_rfl) ?_
 refine T_e ?_
 by_cases c1 : kind = 0
 ·rw [if_pos c1] at h
  have b2 : (kind == 0) = true := beq_iff_eq.mpr c1
  refine S_env [(0, .pointer j), (2, .int .u64 a), (3, .int .u64 b), (10, .int .i64 kind), (11, .bool true)] (by simp only [b2, Bool.not_true, Bool.not_false]) ?_
  clear b2
  refine S_condT (.tmp 11) kk10 kk11 (by kernel_rfl) (by kernel_rfl) ?_
  refine T_sr 3 kk12 kk13 ?_
  refine N_run 5 [(8, .bool (a == b)), (9, .int .i64 0)] (fun _=>by kernel_rfl) ?_
  refine T_e ?_
  refine S_ret (by kernel_rfl) ?_
  show At _ _ _ _ _ (Q .ret)
  exact S_done (fn := Try.f29) [.bool (a == b), .int .i64 0] hQ (show ResOK _ _ _ [.tmp 8, .tmp 9] _ from .tmp (by kernel_rfl) (.tmp (by kernel_rfl) (.nil))) h
 ·rw [if_neg c1] at h
  have b2 : (kind == 0) = false := beq_eq_false_iff_ne.mpr c1
  refine S_env [(0, .pointer j), (2, .int .u64 a), (3, .int .u64 b), (10, .int .i64 kind), (11, .bool false)] (by simp only [b2, Bool.not_true, Bool.not_false]) ?_
  clear b2
  refine S_condF (.tmp 11) kk10 kk11 (by kernel_rfl) (by kernel_rfl) ?_
  refine T_sr 4 kk14 kk15 ?_
  refine N_run 2 [(0, .pointer j), (2, .int .u64 a), (3, .int .u64 b), (16, .bool (kind == 1))] (fun _=>by kernel_rfl) ?_
  refine T_e ?_
  by_cases c3 : kind = 1
  ·rw [if_pos c3] at h
   have b4 : (kind == 1) = true := beq_iff_eq.mpr c3
   refine S_env [(0, .pointer j), (2, .int .u64 a), (3, .int .u64 b), (16, .bool true)] (by simp only [b4, Bool.not_true, Bool.not_false]) ?_
   clear b4
   refine S_condT (.tmp 16) kk16 kk17 (by kernel_rfl) (by kernel_rfl) ?_
   refine T_sr 5 kk18 kk19 ?_
   refine N_run 3 [(18, .pointer j), (19, .int .u64 a), (20, .int .u64 b)] (fun _=>by kernel_rfl) ?_
   refine N_call (some 21) 44 #[.pointer j, .int .u64 a, .int .u64 b] (fun _=>by kernel_rfl) h ?_; clear h
   rintro v H1 ⟨x, rfl, h⟩
   refine ⟨[(21, .bool x)], ps (by kernel_rfl), ?_⟩
   refine N_run 2 [(8, .bool x), (9, .int .i64 0)] (fun _=>by kernel_rfl) ?_
   refine T_e ?_
   refine S_ret (by kernel_rfl) ?_
   show At _ _ _ _ _ (Q .ret)
   exact S_done (fn := Try.f29) [.bool x, .int .i64 0] hQ (show ResOK _ _ _ [.tmp 8, .tmp 9] _ from .tmp (by kernel_rfl) (.tmp (by kernel_rfl) (.nil))) h
  ·rw [if_neg c3] at h
   have b4 : (kind == 1) = false := beq_eq_false_iff_ne.mpr c3
   refine S_env [(0, .pointer j), (2, .int .u64 a), (3, .int .u64 b), (16, .bool false)] (by simp only [b4, Bool.not_true, Bool.not_false]) ?_
   clear b4
   refine S_condF (.tmp 16) kk16 kk17 (by kernel_rfl) (by kernel_rfl) ?_
   refine S_skip (by kernel_rfl) ?_
   refine S_blockEnd ?_
   refine S_then ?_
   refine T_sr 6 kk20 kk21 ?_
   refine N_run 3 [(22, .pointer j), (23, .int .u64 a), (24, .int .u64 b)] (fun _=>by kernel_rfl) ?_
   refine N_call (some 25) 33 #[.pointer j, .int .u64 a, .int .u64 b] (fun _=>by kernel_rfl) h ?_; clear h
   rintro v_2 H2 ⟨ra, rb, rfl, h⟩
   refine ⟨[(25, .tuple #[.bool ra, .int .i64 rb])], ps (by kernel_rfl), ?_⟩
   refine N_run 4 [(8, .bool ra), (9, .int .i64 rb)] (fun _=>by kernel_rfl) ?_
   refine T_e ?_
   refine S_ret (by kernel_rfl) ?_
   show At _ _ _ _ _ (Q .ret)
   exact S_done (fn := Try.f29) [.bool ra, .int .i64 rb] hQ (show ResOK _ _ _ [.tmp 8, .tmp 9] _ from .tmp (by kernel_rfl) (.tmp (by kernel_rfl) (.nil))) h
end lists_judge_same

/-! moraine/lists.asks -/
namespace lists_pairs
def kk0 := Func.code Try.f31
def kk1 := Code.fa kk0
def kk2 := Code.fb kk0
def kk3 := Code.fa kk2
def kk4 := Code.fb kk2
end lists_pairs
def lists_pairs.pt (hv : Option Addr) (wv : Int) (H : Array Obj) (R : Value → Array Obj → Prop) : Prop :=
 ∀ (b : Nat) (H1 : Array Obj), b = H.size → H1 = H.push (.cells #[.pointer hv] 23) →
 ∀ (b_2 : Nat) (H2 : Array Obj), b_2 = H1.size → H2 = H1.push (.cells #[.int .u64 wv] 31) →
 R (.func (.func 47) #[] #[.pointer (some (Addr.mk b 0 none)), .pointer (some (Addr.mk b_2 0 none))]) H2
namespace lists_pairs
set_option maxRecDepth 100000 in
theorem link {hv : Option Addr} {wv : Int} {H : Array Obj} {R : Value → Array Obj → Prop} (h : pt hv wv H R) : C hv wv H R := by
 refine S_enter (fn := Try.f31) (c := kk0) 6 Try.func31 (by kernel_rfl) (by kernel_rfl) (Nat.le_of_ble_eq_true (by kernel_rfl)) ?_
 intro w0 Q hQ
 unfold pt at h
 refine S_sub [(0, .pointer hv), (1, .int .u64 wv)] (sb (by kernel_rfl)) ?_
 refine T_sr 0 kk1 kk2 ?_
 refine N_new (some 2) (fun b => .pointer (some (Addr.mk b 0 none))) (.cells #[.pointer hv] 23) (fun _=>by kernel_rfl) ?_
 intro b H1 e1 e2
 replace h := h b H1 e1 e2
 refine ⟨[(1, .int .u64 wv), (2, .pointer (some (Addr.mk b 0 none)))], ps (by kernel_rfl), ?_⟩
 refine N_new (some 3) (fun b => .pointer (some (Addr.mk b 0 none))) (.cells #[.int .u64 wv] 31) (fun _=>by kernel_rfl) ?_
 intro b_2 H2 e3 e4
 replace h := h b_2 H2 e3 e4
 refine ⟨[(2, .pointer (some (Addr.mk b 0 none))), (3, .pointer (some (Addr.mk b_2 0 none)))], ps (by kernel_rfl), ?_⟩
 refine N_run 1 [(2, .pointer (some (Addr.mk b 0 none))), (3, .pointer (some (Addr.mk b_2 0 none)))] (fun _=>by kernel_rfl) ?_
 refine T_e ?_
 refine T_sr 1 kk3 kk4 ?_
 refine N_run 2 [(4, .func (.func 47) #[] #[.pointer (some (Addr.mk b 0 none)), .pointer (some (Addr.mk b_2 0 none))])] (fun _=>by kernel_rfl) ?_
 refine T_e ?_
 refine S_ret (by kernel_rfl) ?_
 show At _ _ _ _ _ (Q .ret)
 exact S_done (fn := Try.f31) [.func (.func 47) #[] #[.pointer (some (Addr.mk b 0 none)), .pointer (some (Addr.mk b_2 0 none))]] hQ (show ResOK _ _ _ [.tmp 4] _ from .tmp (by kernel_rfl) (.nil)) h
end lists_pairs

end Go.Proofs.Ythlohokmnajpoaa
