/-
 Written by a program of mine (gen.py): for functions of this translation a predicate transformer over heaps (.pt), and the proof that it is sound for the call (.link).
-/
import Derived.Test.YthlohokmnajpoaaGreatFnsC
set_option linter.unusedSimpArgs false
set_option linter.unusedVariables false
set_option maxHeartbeats 1000000
noncomputable section
namespace Go.Proofs.YthlohokmnajpoaaGreat
open Go
/-! moraine/lists.pairs.1 -/
namespace lists_pairs_1
def kk0 := Func.code Tryz.f59
def kk1 := Code.fa kk0
def kk2 := Code.fb kk0
def kk3 := Code.fa kk1
def kk4 := Code.fb kk1
def kk5 := Code.fa kk4
def kk6 := Code.fa kk5
def kk7 := Code.fa kk6
def kk8 := Code.fb kk6
def kk9 := Code.fa kk8
def kk10 := Code.fb kk8
def kk11 := Code.fa kk9
def kk12 := Code.fb kk9
def kk13 := Code.fa kk10
def kk14 := Code.fb kk10
def kk15 := Code.fa kk13
def kk16 := Code.fa kk15
def kk17 := Code.fb kk15
def kk18 := Code.fa kk16
def kk19 := Code.fb kk16
def kk20 := Code.fa kk19
def kk21 := Code.fb kk19
def kk22 := Code.fa kk17
def kk23 := Code.fb kk17
def kk24 := Code.fa kk22
def kk25 := Code.fb kk22
def kk26 := Code.fa kk25
def kk27 := Code.fb kk25
end lists_pairs_1
def lists_pairs_1.pt (yield : Value) (cap0 : Option Addr) (cap1 : Option Addr) (H : Array Obj) (R : Value → Array Obj → Prop) : Prop :=
 ∃ (I7 : Int → Array Obj → Prop) (m7 : Int → Array Obj → Nat), I7 0 H ∧ ∀ (s4 : Int) (H1 : Array Obj), I7 s4 H1 →
 if s4 < 32768 then (
 ∃ cap0A : Addr, cap0 = some cap0A ∧
 ∃ x : Option Addr, hat H1 cap0A = some (.pointer x) ∧
 ∃ cap1A : Addr, cap1 = some cap1A ∧
 ∃ x_2 : Int, hat H1 cap1A = some (.int .u64 x_2) ∧
 obj_Heap_Pair.C x x_2 H1 (fun v H2 => ∃ x_3 : Bool, v = .bool x_3 ∧ 
 if x_3 = true then (
 ∃ x_4 : Int, hat H2 cap1A = some (.int .u64 x_4) ∧
 FC Tryz.prog yield #[.int .u64 x_4, .bool false] H2 (fun v_2 H3 => ∃ x_5 : Bool, v_2 = .bool x_5 ∧ 
 if x_5 = true then (
 ∃ x_6 : Option Addr, hat H3 cap0A = some (.pointer x_6) ∧
 ∃ x_7 : Int, hat H3 cap1A = some (.int .u64 x_7) ∧
 obj_Heap_Cdr.C x_6 x_7 H3 (fun v_3 H4 => ∃ ra : Int, ∃ rb : Int, v_3 = .tuple #[.int .u64 ra, .int .i64 rb] ∧ 
 (CanPuts H4 cap1A 0 1) ∧ ∀ H5 : Array Obj, H5 = hputs H4 cap1A [.int .u64 ra] 0 →
 (I7 (IntKind.wrap .i64 (s4 + 1)) H5 ∧ m7 (IntKind.wrap .i64 (s4 + 1)) H5 < m7 s4 H1)))
 else
 R (.tuple #[]) H3))
 else
 ∃ x_8 : Int, hat H2 cap1A = some (.int .u64 x_8) ∧
 FC Tryz.prog yield #[.int .u64 x_8, .bool true] H2 (fun v_4 H6 => ∃ x_9 : Bool, v_4 = .bool x_9 ∧ 
 R (.tuple #[]) H6)))
 else
 ∃ cap1A_2 : Addr, cap1 = some cap1A_2 ∧
 ∃ x_10 : Int, hat H1 cap1A_2 = some (.int .u64 x_10) ∧
 FC Tryz.prog yield #[.int .u64 x_10, .bool true] H1 (fun v_5 H7 => ∃ x_11 : Bool, v_5 = .bool x_11 ∧ 
 R (.tuple #[]) H7)
namespace lists_pairs_1
set_option maxRecDepth 100000 in
theorem link {yield : Value} {cap0 : Option Addr} {cap1 : Option Addr} {H : Array Obj} {R : Value → Array Obj → Prop} (h : pt yield cap0 cap1 H R) : C yield cap0 cap1 H R := by
 refine S_enter (fn := Tryz.f59) (c := kk0) 24 Tryz.func59 (by kernel_rfl) (by kernel_rfl) (Nat.le_of_ble_eq_true (by kernel_rfl)) ?_
 intro w0 Q hQ
 unfold pt at h
 refine S_sub [(0, yield), (1, .pointer cap0), (2, .pointer cap1)] (sb (by kernel_rfl)) ?_
 refine S_seq kk1 kk2 (by kernel_rfl) ?_
 refine T_sr 0 kk3 kk4 ?_
 refine N_run 1 [(0, yield), (1, .pointer cap0), (2, .pointer cap1), (4, .int .i64 0)] (fun _=>by kernel_rfl) ?_
 refine T_e ?_
 refine S_block 0 kk5 (by kernel_rfl) ?_
 obtain ⟨I7, m7, i1, i2⟩ := h
 refine S_loop (x := kk6) (σ := Int) (fun s_ => [(0, yield), (1, .pointer cap0), (2, .pointer cap1), (4, .int .i64 s_)]) (fun s_ H => I7 s_ H) (fun s_ H => m7 s_ H) (0 : Int) (by kernel_rfl) i1 (sb (by kernel_rfl)) ?_
 rintro s4 H1 i3
 have h := i2 s4 H1 i3
 refine S_sub [(0, yield), (1, .pointer cap0), (2, .pointer cap1), (4, .int .i64 s4)] (sb (by kernel_rfl)) ?_
 refine T_sr 1 kk7 kk8 ?_
 refine N_run 1 [(0, yield), (1, .pointer cap0), (2, .pointer cap1), (4, .int .i64 s4), (5, .bool (decide (s4 < 32768)))] (fun _=>by kernel_rfl) ?_
 refine T_e ?_
 refine S_seq kk9 kk10 (by kernel_rfl) ?_
 by_cases c4 : s4 < 32768
 ·rw [if_pos c4] at h
  have b5 : (decide (s4 < 32768)) = true := decide_eq_true c4
  refine S_env [(0, yield), (1, .pointer cap0), (2, .pointer cap1), (4, .int .i64 s4), (5, .bool true)] (by simp only [b5, Bool.not_true, Bool.not_false]) ?_
  clear b5
  refine S_condT (.tmp 5) kk11 kk12 (by kernel_rfl) (by kernel_rfl) ?_
  refine S_skip (by kernel_rfl) ?_
  refine S_then ?_
  refine S_seq kk13 kk14 (by kernel_rfl) ?_
  refine S_block 1 kk15 (by kernel_rfl) ?_
  refine S_seq kk16 kk17 (by kernel_rfl) ?_
  refine T_sr 2 kk18 kk19 ?_
  refine N_sub [(0, yield), (1, .pointer cap0), (2, .pointer cap1), (4, .int .i64 s4)] (sb (by kernel_rfl)) ?_
  obtain ⟨cap0A, rfl, h⟩ := h
  obtain ⟨x, q6, h⟩ := h
  refine N_val (some 6) (loadN 24 (.pointer (some cap0A))) (.pointer x) (fun _=>by kernel_rfl) (loadN_run (loadOK_one (fun _=>by kernel_rfl) q6)) [(0, yield), (1, .pointer (some cap0A)), (2, .pointer cap1), (4, .int .i64 s4), (6, .pointer x)] (ps (by kernel_rfl)) ?_
  obtain ⟨cap1A, rfl, h⟩ := h
  obtain ⟨x_2, q7, h⟩ := h
  refine N_val (some 7) (loadN 26 (.pointer (some cap1A))) (.int .u64 x_2) (fun _=>by kernel_rfl) (loadN_run (loadOK_one (fun _=>by kernel_rfl) q7)) [(0, yield), (1, .pointer (some cap0A)), (2, .pointer (some cap1A)), (4, .int .i64 s4), (6, .pointer x), (7, .int .u64 x_2)] (ps (by kernel_rfl)) ?_
  refine N_call (some 8) 40 #[.pointer x, .int .u64 x_2] (fun _=>by kernel_rfl) h ?_; clear h
  rintro v H2 ⟨x_3, rfl, h⟩
  refine ⟨[(0, yield), (1, .pointer (some cap0A)), (2, .pointer (some cap1A)), (4, .int .i64 s4), (8, .bool x_3)], ps (by kernel_rfl), ?_⟩
  refine N_run 1 [(0, yield), (1, .pointer (some cap0A)), (2, .pointer (some cap1A)), (4, .int .i64 s4), (9, .bool (!x_3))] (fun _=>by kernel_rfl) ?_
  refine T_e ?_
  by_cases c8 : x_3 = true
  ·rw [if_pos c8] at h
   have b9 : (!x_3) = false := congrArg Bool.not (c8)
   have b92 : x_3 = true := c8
   refine S_env [(0, yield), (1, .pointer (some cap0A)), (2, .pointer (some cap1A)), (4, .int .i64 s4), (9, .bool false)] (by simp only [b9, b92, Bool.not_true, Bool.not_false]) ?_
   clear b9 b92
   refine S_condF (.tmp 9) kk20 kk21 (by kernel_rfl) (by kernel_rfl) ?_
   refine S_skip (by kernel_rfl) ?_
   refine S_then ?_
   refine S_seq kk22 kk23 (by kernel_rfl) ?_
   refine T_sr 3 kk24 kk25 ?_
   refine N_run 1 [(0, yield), (1, .pointer (some cap0A)), (2, .pointer (some cap1A)), (4, .int .i64 s4), (10, yield)] (fun _=>by kernel_rfl) ?_
   obtain ⟨x_4, q10, h⟩ := h
   refine N_val (some 11) (loadN 26 (.pointer (some cap1A))) (.int .u64 x_4) (fun _=>by kernel_rfl) (loadN_run (loadOK_one (fun _=>by kernel_rfl) q10)) [(0, yield), (1, .pointer (some cap0A)), (2, .pointer (some cap1A)), (4, .int .i64 s4), (10, yield), (11, .int .u64 x_4)] (ps (by kernel_rfl)) ?_
   refine N_callv (some 12) yield #[.int .u64 x_4, .bool false] (fun _=>by kernel_rfl) h ?_; clear h
   rintro v_2 H3 ⟨x_5, rfl, h⟩
   refine ⟨[(0, yield), (1, .pointer (some cap0A)), (2, .pointer (some cap1A)), (4, .int .i64 s4), (12, .bool x_5)], ps (by kernel_rfl), ?_⟩
   refine N_run 1 [(0, yield), (1, .pointer (some cap0A)), (2, .pointer (some cap1A)), (4, .int .i64 s4), (13, .bool (!x_5))] (fun _=>by kernel_rfl) ?_
   refine T_e ?_
   by_cases c11 : x_5 = true
   ·rw [if_pos c11] at h
    have b12 : (!x_5) = false := congrArg Bool.not (c11)
    have b122 : x_5 = true := c11
    refine S_env [(0, yield), (1, .pointer (some cap0A)), (2, .pointer (some cap1A)), (4, .int .i64 s4), (13, .bool false)] (by simp only [b12, b122, Bool.not_true, Bool.not_false]) ?_
    clear b12 b122
    refine S_condF (.tmp 13) kk26 kk27 (by kernel_rfl) (by kernel_rfl) ?_
    refine S_skip (by kernel_rfl) ?_
    refine S_then ?_
    refine S_region 4 (Code.ops kk23) (by kernel_rfl) ?_
    refine N_sub [(0, yield), (1, .pointer (some cap0A)), (2, .pointer (some cap1A)), (4, .int .i64 s4)] (sb (by kernel_rfl)) ?_
    obtain ⟨x_6, q13, h⟩ := h
    refine N_val (some 15) (loadN 24 (.pointer (some cap0A))) (.pointer x_6) (fun _=>by kernel_rfl) (loadN_run (loadOK_one (fun _=>by kernel_rfl) q13)) [(0, yield), (1, .pointer (some cap0A)), (2, .pointer (some cap1A)), (4, .int .i64 s4), (15, .pointer x_6)] (ps (by kernel_rfl)) ?_
    obtain ⟨x_7, q14, h⟩ := h
    refine N_val (some 16) (loadN 26 (.pointer (some cap1A))) (.int .u64 x_7) (fun _=>by kernel_rfl) (loadN_run (loadOK_one (fun _=>by kernel_rfl) q14)) [(0, yield), (1, .pointer (some cap0A)), (2, .pointer (some cap1A)), (4, .int .i64 s4), (15, .pointer x_6), (16, .int .u64 x_7)] (ps (by kernel_rfl)) ?_
    refine N_call (some 17) 12 #[.pointer x_6, .int .u64 x_7] (fun _=>by kernel_rfl) h ?_; clear h
    rintro v_3 H4 ⟨ra, rb, rfl, h⟩
    refine ⟨[(0, yield), (1, .pointer (some cap0A)), (2, .pointer (some cap1A)), (4, .int .i64 s4), (17, .tuple #[.int .u64 ra, .int .i64 rb])], ps (by kernel_rfl), ?_⟩
    refine N_run 3 [(0, yield), (1, .pointer (some cap0A)), (2, .pointer (some cap1A)), (4, .int .i64 s4), (18, .int .u64 ra)] (fun _=>by kernel_rfl) ?_
    obtain ⟨q16, h⟩ := h
    refine N_skipop none (storeN 26 (.pointer (some cap1A)) (.int .u64 ra)) (fun Hz => Hz = hputs H4 cap1A [.int .u64 ra] 0) (fun _=>by kernel_rfl) (ss_store [.int .u64 ra] 1 (by kernel_rfl) (by kernel_rfl) (fun _=>by kernel_rfl) (by kernel_rfl) q16) ?_
    intro H5 e15
    replace h := h H5 e15
    refine ⟨[(0, yield), (1, .pointer (some cap0A)), (2, .pointer (some cap1A)), (4, .int .i64 s4)], ps (by kernel_rfl), ?_⟩
    refine N_end (by kernel_rfl) ?_
    refine S_blockEnd ?_
    refine S_then ?_
    refine S_region 5 (Code.ops kk14) (by kernel_rfl) ?_
    refine N_run 2 [(0, yield), (1, .pointer (some cap0A)), (2, .pointer (some cap1A)), (4, .int .i64 (IntKind.wrap .i64 (s4 + 1)))] (fun _=>by kernel_rfl) ?_
    refine T_e ?_
    exact S_round ((IntKind.wrap .i64 (s4 + 1)) : Int) (sb (by kernel_rfl)) h
   ·rw [if_neg c11] at h
    have b12 : (!x_5) = true := congrArg Bool.not (eq_false_of_ne_true c11)
    have b122 : x_5 = false := eq_false_of_ne_true c11
    refine S_env [(0, yield), (1, .pointer (some cap0A)), (2, .pointer (some cap1A)), (4, .int .i64 s4), (13, .bool true)] (by simp only [b12, b122, Bool.not_true, Bool.not_false]) ?_
    clear b12 b122
    refine S_condT (.tmp 13) kk26 kk27 (by kernel_rfl) (by kernel_rfl) ?_
    refine S_ret (by kernel_rfl) ?_
    show At _ _ _ _ _ (Q .ret)
    exact S_done (fn := Tryz.f59) [] hQ (show ResOK _ _ _ [] _ from .nil) h
  ·rw [if_neg c8] at h
   have b9 : (!x_3) = true := congrArg Bool.not (eq_false_of_ne_true c8)
   have b92 : x_3 = false := eq_false_of_ne_true c8
   refine S_env [(0, yield), (1, .pointer (some cap0A)), (2, .pointer (some cap1A)), (4, .int .i64 s4), (9, .bool true)] (by simp only [b9, b92, Bool.not_true, Bool.not_false]) ?_
   clear b9 b92
   refine S_condT (.tmp 9) kk20 kk21 (by kernel_rfl) (by kernel_rfl) ?_
   refine S_exit 0 (by kernel_rfl) ?_
   refine S_exitThen ?_
   refine S_exitPast (by kernel_rfl) ?_
   refine S_exitThen ?_
   refine S_exitThen ?_
   refine S_exitHere ?_
   refine S_then ?_
   refine S_region 6 (Code.ops kk2) (by kernel_rfl) ?_
   refine N_run 1 [(2, .pointer (some cap1A)), (21, yield)] (fun _=>by kernel_rfl) ?_
   obtain ⟨x_8, q17, h⟩ := h
   refine N_val (some 22) (loadN 26 (.pointer (some cap1A))) (.int .u64 x_8) (fun _=>by kernel_rfl) (loadN_run (loadOK_one (fun _=>by kernel_rfl) q17)) [(21, yield), (22, .int .u64 x_8)] (ps (by kernel_rfl)) ?_
   refine N_callv (some 23) yield #[.int .u64 x_8, .bool true] (fun _=>by kernel_rfl) h ?_; clear h
   rintro v_4 H6 ⟨x_9, rfl, h⟩
   refine ⟨[], ps (by kernel_rfl), ?_⟩
   refine N_end (by kernel_rfl) ?_
   exact S_doneN (fn := Tryz.f59) [] hQ (show ResOK _ _ _ [] _ from .nil) h
 ·rw [if_neg c4] at h
  have b5 : (decide (s4 < 32768)) = false := decide_eq_false c4
  refine S_env [(0, yield), (1, .pointer cap0), (2, .pointer cap1), (4, .int .i64 s4), (5, .bool false)] (by simp only [b5, Bool.not_true, Bool.not_false]) ?_
  clear b5
  refine S_condF (.tmp 5) kk11 kk12 (by kernel_rfl) (by kernel_rfl) ?_
  refine S_exit 0 (by kernel_rfl) ?_
  refine S_exitThen ?_
  refine S_exitThen ?_
  refine S_exitHere ?_
  refine S_then ?_
  refine S_region 6 (Code.ops kk2) (by kernel_rfl) ?_
  refine N_run 1 [(2, .pointer cap1), (21, yield)] (fun _=>by kernel_rfl) ?_
  obtain ⟨cap1A_2, rfl, h⟩ := h
  obtain ⟨x_10, q18, h⟩ := h
  refine N_val (some 22) (loadN 26 (.pointer (some cap1A_2))) (.int .u64 x_10) (fun _=>by kernel_rfl) (loadN_run (loadOK_one (fun _=>by kernel_rfl) q18)) [(21, yield), (22, .int .u64 x_10)] (ps (by kernel_rfl)) ?_
  refine N_callv (some 23) yield #[.int .u64 x_10, .bool true] (fun _=>by kernel_rfl) h ?_; clear h
  rintro v_5 H7 ⟨x_11, rfl, h⟩
  refine ⟨[], ps (by kernel_rfl), ?_⟩
  refine N_end (by kernel_rfl) ?_
  exact S_doneN (fn := Tryz.f59) [] hQ (show ResOK _ _ _ [] _ from .nil) h
end lists_pairs_1

/-! (*moraine/lists.judge).equal.1 -/
end Go.Proofs.YthlohokmnajpoaaGreat
