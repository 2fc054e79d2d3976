/-
  Written by a program of mine (gen.py): for functions of this translation a predicate transformer over heaps (.pt), and the proof that it is sound for the call (.link).
-/
import Derived.Test.YtfohlkiikppefaaFnsC
set_option linter.unusedSimpArgs false
set_option linter.unusedVariables false
set_option maxHeartbeats 1000000
noncomputable section
namespace Go.Proofs.Ytfohlkiikppefaa
open Go
/-! (*moraine/card.Cards).Gen -/
namespace card_Cards_Gen
def kk0 := Func.code Try.f52
def kk1 := Code.fa kk0
def kk2 := Code.fb kk0
def kk3 := Code.fa kk2
def kk4 := Code.fb kk2
def kk5 := Code.fa kk4
def kk6 := Code.fb kk4
def kk7 := Code.fa kk5
def kk8 := Code.fb kk5
def kk9 := Code.fa kk8
def kk10 := Code.fb kk8
def kk11 := Code.fa kk9
def kk12 := Code.fb kk9
def kk13 := Code.fa kk6
def kk14 := Code.fb kk6
def kk15 := Code.fa kk14
def kk16 := Code.fb kk14
end card_Cards_Gen
def card_Cards_Gen.pt (c : Option Addr) (wv : Int) (H : Array Obj) (R : Value → Array Obj → Prop) : Prop :=
 word_Addr.C wv H (fun v H1 => ∃ ra : Int, ∃ rb : Bool, v = .tuple #[.int .i64 ra, .bool rb] ∧ 
  card_Cards_none.C c H1 (fun v_2 H2 => ∃ x : Bool, v_2 = .bool x ∧ 
   if x = true then (
    R (.tuple #[.int .i64 0, .bool false]) H2)
   else
   if rb = true then (
    word_Tag.C wv H2 (fun v_3 H3 => ∃ x_2 : Int, v_3 = .int .i64 x_2 ∧ 
     if x_2 = 6 then (
      R (.tuple #[.int .i64 0, .bool false]) H3)
     else
     ∃ cA : Addr, c = some cA ∧
     ∃ x_3 : Option Addr, hat H3 cA = some (.pointer x_3) ∧
     ∃ x3A : Addr, x_3 = some x3A ∧
     ∃ x_4 : Option Addr, hat H3 x3A = some (.pointer x_4) ∧
     seg_Mem_Seg.C x_4 (IntKind.wrap .i64 (Int.tdiv ra 64)) H3 (fun v_4 H4 => ∃ raGen : Int, ∃ raKind : Int, ∃ raN : Int, ∃ raCardsi0 : Int, ∃ raCardsi1 : Int, ∃ raCardsi2 : Int, ∃ raCardsi3 : Int, ∃ rb_2 : Bool, v_4 = .tuple #[.agg #[.int .i64 raGen, .int .i64 raKind, .int .i64 raN, .int .i64 raCardsi0, .int .i64 raCardsi1, .int .i64 raCardsi2, .int .i64 raCardsi3], .bool rb_2] ∧ 
      ∀ (b : Nat) (H5 : Array Obj), b = H4.size → H5 = H4.push (.cells #[.int .i64 0, .int .i64 0, .int .i64 0, .int .i64 0, .int .i64 0, .int .i64 0, .int .i64 0] 144) →
      (CanPuts H5 (Addr.mk b 0 none) 0 7) ∧ ∀ H6 : Array Obj, H6 = hputs H5 (Addr.mk b 0 none) [.int .i64 raGen, .int .i64 raKind, .int .i64 raN, .int .i64 raCardsi0, .int .i64 raCardsi1, .int .i64 raCardsi2, .int .i64 raCardsi3] 0 →
      ∃ x_5 : Int, hat H6 (Addr.mk b 0 none) = some (.int .i64 x_5) ∧
      R (.tuple #[.int .i64 x_5, .bool rb_2]) H6)))
   else
   R (.tuple #[.int .i64 0, .bool false]) H2))
namespace card_Cards_Gen
set_option maxRecDepth 100000 in
theorem link {c : Option Addr} {wv : Int} {H : Array Obj} {R : Value → Array Obj → Prop} (h : pt c wv H R) : C c wv H R := by
  refine S_enter (fn := Try.f52) (c := kk0) 41 Try.func52 (by kernel_rfl) (by kernel_rfl) (Nat.le_of_ble_eq_true (by kernel_rfl)) ?_
  intro w0 Q hQ
  unfold pt at h
  refine S_sub [(0, .pointer c), (1, .int .u64 wv)] (sb (by kernel_rfl)) ?_
  refine S_seq kk1 kk2 (by kernel_rfl) ?_
  refine S_region 0 (Code.ops kk1) (by kernel_rfl) ?_
  refine N_run 2 [(0, .pointer c), (1, .int .u64 wv)] (fun w => by kernel_rfl) ?_
  refine N_end (by kernel_rfl) ?_
  refine S_then ?_
  refine S_seq kk3 kk4 (by kernel_rfl) ?_
  refine S_region 1 (Code.ops kk3) (by kernel_rfl) ?_
  refine N_run 1 [(0, .pointer c), (1, .int .u64 wv), (10, .int .u64 wv)] (fun w => by kernel_rfl) ?_
  refine N_call (some 11) 81 #[.int .u64 wv] (fun w => by kernel_rfl) h ?_; clear h
  rintro v H1 ⟨ra, rb, rfl, h⟩
  refine ⟨[(0, .pointer c), (1, .int .u64 wv), (11, .tuple #[.int .i64 ra, .bool rb])], ps (by kernel_rfl), ?_⟩
  refine N_run 5 [(0, .pointer c), (1, .int .u64 wv), (6, .int .i64 ra), (7, .bool rb)] (fun w => by kernel_rfl) ?_
  refine N_end (by kernel_rfl) ?_
  refine S_then ?_
  refine S_seq kk5 kk6 (by kernel_rfl) ?_
  refine S_seq kk7 kk8 (by kernel_rfl) ?_
  refine S_region 2 (Code.ops kk7) (by kernel_rfl) ?_
  refine N_run 1 [(0, .pointer c), (1, .int .u64 wv), (6, .int .i64 ra), (7, .bool rb), (14, .pointer c)] (fun w => by kernel_rfl) ?_
  refine N_call (some 15) 82 #[.pointer c] (fun w => by kernel_rfl) h ?_; clear h
  rintro v_2 H2 ⟨x, rfl, h⟩
  refine ⟨[(0, .pointer c), (1, .int .u64 wv), (6, .int .i64 ra), (7, .bool rb), (15, .bool x)], ps (by kernel_rfl), ?_⟩
  refine N_run 1 [(0, .pointer c), (1, .int .u64 wv), (6, .int .i64 ra), (7, .bool rb), (16, .bool x)] (fun w => by kernel_rfl) ?_
  by_cases c1 : x = true
  · rw [if_pos c1] at h
    have b2 : x = true := c1
    refine N_env [(0, .pointer c), (1, .int .u64 wv), (6, .int .i64 ra), (7, .bool rb), (16, .bool true)] (by simp only [b2, Bool.not_true, Bool.not_false]) ?_
    clear b2
    refine N_run 8 [(0, .pointer c), (6, .int .i64 ra), (24, .bool true)] (fun w => by kernel_rfl) ?_
    refine N_end (by kernel_rfl) ?_
    refine S_then ?_
    refine S_condT (.tmp 24) kk9 kk10 (by kernel_rfl) (by kernel_rfl) ?_
    refine S_seq kk11 kk12 (by kernel_rfl) ?_
    refine S_region 3 (Code.ops kk11) (by kernel_rfl) ?_
    refine N_run 2 [(4, .int .i64 0), (5, .bool false)] (fun w => by kernel_rfl) ?_
    refine N_end (by kernel_rfl) ?_
    refine S_then ?_
    refine S_ret (by kernel_rfl) ?_
    show At _ _ _ _ _ (Q .ret)
    exact S_done (fn := Try.f52) [.int .i64 0, .bool false] hQ (show ResOK _ _ _ [.tmp 4, .tmp 5] _ from .tmp (by kernel_rfl) (.tmp (by kernel_rfl) (.nil))) h
  · rw [if_neg c1] at h
    have b2 : x = false := eq_false_of_ne_true c1
    refine N_env [(0, .pointer c), (1, .int .u64 wv), (6, .int .i64 ra), (7, .bool rb), (16, .bool false)] (by simp only [b2, Bool.not_true, Bool.not_false]) ?_
    clear b2
    refine N_run 4 [(0, .pointer c), (1, .int .u64 wv), (6, .int .i64 ra), (20, .bool (!rb))] (fun w => by kernel_rfl) ?_
    by_cases c3 : rb = true
    · rw [if_pos c3] at h
      have b4 : (!rb) = false := congrArg Bool.not (c3)
      have b42 : rb = true := c3
      refine N_env [(0, .pointer c), (1, .int .u64 wv), (6, .int .i64 ra), (20, .bool false)] (by simp only [b4, b42, Bool.not_true, Bool.not_false]) ?_
      clear b4 b42
      refine N_run 1 [(0, .pointer c), (6, .int .i64 ra), (20, .bool false), (21, .int .u64 wv)] (fun w => by kernel_rfl) ?_
      refine N_call (some 22) 83 #[.int .u64 wv] (fun w => by kernel_rfl) h ?_; clear h
      rintro v_3 H3 ⟨x_2, rfl, h⟩
      refine ⟨[(0, .pointer c), (6, .int .i64 ra), (20, .bool false), (22, .int .i64 x_2)], ps (by kernel_rfl), ?_⟩
      refine N_run 2 [(0, .pointer c), (6, .int .i64 ra), (24, .bool (x_2 == 6))] (fun w => by kernel_rfl) ?_
      refine N_end (by kernel_rfl) ?_
      refine S_then ?_
      by_cases c5 : x_2 = 6
      · rw [if_pos c5] at h
        have b6 : (x_2 == 6) = true := beq_iff_eq.mpr c5
        refine S_env [(0, .pointer c), (6, .int .i64 ra), (24, .bool true)] (by simp only [b6, Bool.not_true, Bool.not_false]) ?_
        clear b6
        refine S_condT (.tmp 24) kk9 kk10 (by kernel_rfl) (by kernel_rfl) ?_
        refine S_seq kk11 kk12 (by kernel_rfl) ?_
        refine S_region 3 (Code.ops kk11) (by kernel_rfl) ?_
        refine N_run 2 [(4, .int .i64 0), (5, .bool false)] (fun w => by kernel_rfl) ?_
        refine N_end (by kernel_rfl) ?_
        refine S_then ?_
        refine S_ret (by kernel_rfl) ?_
        show At _ _ _ _ _ (Q .ret)
        exact S_done (fn := Try.f52) [.int .i64 0, .bool false] hQ (show ResOK _ _ _ [.tmp 4, .tmp 5] _ from .tmp (by kernel_rfl) (.tmp (by kernel_rfl) (.nil))) h
      · rw [if_neg c5] at h
        have b6 : (x_2 == 6) = false := beq_eq_false_iff_ne.mpr c5
        refine S_env [(0, .pointer c), (6, .int .i64 ra), (24, .bool false)] (by simp only [b6, Bool.not_true, Bool.not_false]) ?_
        clear b6
        refine S_condF (.tmp 24) kk9 kk10 (by kernel_rfl) (by kernel_rfl) ?_
        refine S_skip (by kernel_rfl) ?_
        refine S_then ?_
        refine S_seq kk13 kk14 (by kernel_rfl) ?_
        refine S_region 4 (Code.ops kk13) (by kernel_rfl) ?_
        refine N_run 1 [(6, .int .i64 ra), (26, .pointer c)] (fun w => by kernel_rfl) ?_
        obtain ⟨cA, rfl, h⟩ := h
        refine N_run 2 [(6, .int .i64 ra), (28, .pointer (some cA))] (fun w => by kernel_rfl) ?_
        obtain ⟨x_3, q7, h⟩ := h
        refine N_val (some 29) (loadN 107 (.pointer (some cA))) (.pointer x_3) (fun w => by kernel_rfl) (loadN_run (loadOK_one (fun w => by kernel_rfl) q7)) [(6, .int .i64 ra), (29, .pointer x_3)] (ps (by kernel_rfl)) ?_
        obtain ⟨x3A, rfl, h⟩ := h
        refine N_run 2 [(6, .int .i64 ra), (31, .pointer (some x3A))] (fun w => by kernel_rfl) ?_
        obtain ⟨x_4, q8, h⟩ := h
        refine N_val (some 32) (loadN 124 (.pointer (some x3A))) (.pointer x_4) (fun w => by kernel_rfl) (loadN_run (loadOK_one (fun w => by kernel_rfl) q8)) [(6, .int .i64 ra), (32, .pointer x_4)] (ps (by kernel_rfl)) ?_
        refine N_run 2 [(32, .pointer x_4), (34, .int .i64 (IntKind.wrap .i64 (Int.tdiv ra 64)))] (fun w => by kernel_rfl) ?_
        refine N_call (some 35) 84 #[.pointer x_4, .int .i64 (IntKind.wrap .i64 (Int.tdiv ra 64))] (fun w => by kernel_rfl) h ?_; clear h
        rintro v_4 H4 ⟨raGen, raKind, raN, raCardsi0, raCardsi1, raCardsi2, raCardsi3, rb_2, rfl, h⟩
        refine ⟨[(35, .tuple #[.agg #[.int .i64 raGen, .int .i64 raKind, .int .i64 raN, .int .i64 raCardsi0, .int .i64 raCardsi1, .int .i64 raCardsi2, .int .i64 raCardsi3], .bool rb_2])], ps (by kernel_rfl), ?_⟩
        refine N_run 3 [(36, .agg #[.int .i64 raGen, .int .i64 raKind, .int .i64 raN, .int .i64 raCardsi0, .int .i64 raCardsi1, .int .i64 raCardsi2, .int .i64 raCardsi3]), (37, .bool rb_2)] (fun w => by kernel_rfl) ?_
        refine N_new (some 8) (fun b => .pointer (some (Addr.mk b 0 none))) (.cells #[.int .i64 0, .int .i64 0, .int .i64 0, .int .i64 0, .int .i64 0, .int .i64 0, .int .i64 0] 144) (fun w => by kernel_rfl) ?_
        intro b H5 e9 e10
        replace h := h b H5 e9 e10
        refine ⟨[(8, .pointer (some (Addr.mk b 0 none))), (36, .agg #[.int .i64 raGen, .int .i64 raKind, .int .i64 raN, .int .i64 raCardsi0, .int .i64 raCardsi1, .int .i64 raCardsi2, .int .i64 raCardsi3]), (37, .bool rb_2)], ps (by kernel_rfl), ?_⟩
        obtain ⟨q12, h⟩ := h
        refine N_skipop none (storeN 144 (.pointer (some (Addr.mk b 0 none))) (.agg #[.int .i64 raGen, .int .i64 raKind, .int .i64 raN, .int .i64 raCardsi0, .int .i64 raCardsi1, .int .i64 raCardsi2, .int .i64 raCardsi3])) (fun Hz => Hz = hputs H5 (Addr.mk b 0 none) [.int .i64 raGen, .int .i64 raKind, .int .i64 raN, .int .i64 raCardsi0, .int .i64 raCardsi1, .int .i64 raCardsi2, .int .i64 raCardsi3] 0) (fun w => by kernel_rfl) (ss_store [.int .i64 raGen, .int .i64 raKind, .int .i64 raN, .int .i64 raCardsi0, .int .i64 raCardsi1, .int .i64 raCardsi2, .int .i64 raCardsi3] 7 (by kernel_rfl) (by kernel_rfl) (fun w => by kernel_rfl) (by kernel_rfl) q12) ?_
        intro H6 e11
        replace h := h H6 e11
        refine ⟨[(8, .pointer (some (Addr.mk b 0 none))), (37, .bool rb_2)], ps (by kernel_rfl), ?_⟩
        refine N_run 1 [(7, .bool rb_2), (8, .pointer (some (Addr.mk b 0 none)))] (fun w => by kernel_rfl) ?_
        refine N_end (by kernel_rfl) ?_
        refine S_then ?_
        refine S_seq kk15 kk16 (by kernel_rfl) ?_
        refine S_region 5 (Code.ops kk15) (by kernel_rfl) ?_
        refine N_run 1 [(7, .bool rb_2), (38, .pointer (some (Addr.mk b 0 none)))] (fun w => by kernel_rfl) ?_
        obtain ⟨x_5, q13, h⟩ := h
        refine N_val (some 39) (loadN 3 (.pointer (some (Addr.mk b 0 none)))) (.int .i64 x_5) (fun w => by kernel_rfl) (loadN_run (loadOK_one (fun w => by kernel_rfl) q13)) [(7, .bool rb_2), (39, .int .i64 x_5)] (ps (by kernel_rfl)) ?_
        refine N_run 3 [(4, .int .i64 x_5), (5, .bool rb_2)] (fun w => by kernel_rfl) ?_
        refine N_end (by kernel_rfl) ?_
        refine S_then ?_
        refine S_ret (by kernel_rfl) ?_
        show At _ _ _ _ _ (Q .ret)
        exact S_done (fn := Try.f52) [.int .i64 x_5, .bool rb_2] hQ (show ResOK _ _ _ [.tmp 4, .tmp 5] _ from .tmp (by kernel_rfl) (.tmp (by kernel_rfl) (.nil))) h
    · rw [if_neg c3] at h
      have b4 : (!rb) = true := congrArg Bool.not (eq_false_of_ne_true c3)
      have b42 : rb = false := eq_false_of_ne_true c3
      refine N_env [(0, .pointer c), (1, .int .u64 wv), (6, .int .i64 ra), (20, .bool true)] (by simp only [b4, b42, Bool.not_true, Bool.not_false]) ?_
      clear b4 b42
      refine N_run 4 [(0, .pointer c), (6, .int .i64 ra), (24, .bool true)] (fun w => by kernel_rfl) ?_
      refine N_end (by kernel_rfl) ?_
      refine S_then ?_
      refine S_condT (.tmp 24) kk9 kk10 (by kernel_rfl) (by kernel_rfl) ?_
      refine S_seq kk11 kk12 (by kernel_rfl) ?_
      refine S_region 3 (Code.ops kk11) (by kernel_rfl) ?_
      refine N_run 2 [(4, .int .i64 0), (5, .bool false)] (fun w => by kernel_rfl) ?_
      refine N_end (by kernel_rfl) ?_
      refine S_then ?_
      refine S_ret (by kernel_rfl) ?_
      show At _ _ _ _ _ (Q .ret)
      exact S_done (fn := Try.f52) [.int .i64 0, .bool false] hQ (show ResOK _ _ _ [.tmp 4, .tmp 5] _ from .tmp (by kernel_rfl) (.tmp (by kernel_rfl) (.nil))) h
end card_Cards_Gen

/-! moraine/card.New -/
namespace card_New
def kk0 := Func.code Try.f54
def kk1 := Code.fa kk0
def kk2 := Code.fb kk0
def kk3 := Code.fa kk2
def kk4 := Code.fb kk2
def kk5 := Code.fa kk4
def kk6 := Code.fb kk4
def kk7 := Code.fa kk5
def kk8 := Code.fb kk5
def kk9 := Code.fa kk8
def kk10 := Code.fb kk8
def kk11 := Code.fa kk6
def kk12 := Code.fb kk6
def kk13 := Code.fa kk9
def kk14 := Code.fb kk9
end card_New
def card_New.pt (limit : Int) (H : Array Obj) (R : Value → Array Obj → Prop) : Prop :=
 space_New.C limit H (fun v H1 => ∃ ra : Option Addr, ∃ rb : Int, v = .tuple #[.pointer ra, .int .i64 rb] ∧ 
  if rb = 0 then (
   ∀ (b : Nat) (H2 : Array Obj), b = H1.size → H2 = H1.push (.cells #[.pointer ra] 109) →
   R (.tuple #[.pointer (some (Addr.mk b 0 none)), .int .i64 0]) H2)
  else
  R (.tuple #[.pointer none, .int .i64 rb]) H1)
namespace card_New
set_option maxRecDepth 100000 in
theorem link {limit : Int} {H : Array Obj} {R : Value → Array Obj → Prop} (h : pt limit H R) : C limit H R := by
  refine S_enter (fn := Try.f54) (c := kk0) 17 Try.func54 (by kernel_rfl) (by kernel_rfl) (Nat.le_of_ble_eq_true (by kernel_rfl)) ?_
  intro w0 Q hQ
  unfold pt at h
  refine S_sub [(0, .int .i64 limit)] (sb (by kernel_rfl)) ?_
  refine S_seq kk1 kk2 (by kernel_rfl) ?_
  refine S_region 0 (Code.ops kk1) (by kernel_rfl) ?_
  refine N_run 2 [(0, .int .i64 limit)] (fun w => by kernel_rfl) ?_
  refine N_end (by kernel_rfl) ?_
  refine S_then ?_
  refine S_seq kk3 kk4 (by kernel_rfl) ?_
  refine S_region 1 (Code.ops kk3) (by kernel_rfl) ?_
  refine N_run 1 [(7, .int .i64 limit)] (fun w => by kernel_rfl) ?_
  refine N_call (some 8) 87 #[.int .i64 limit] (fun w => by kernel_rfl) h ?_; clear h
  rintro v H1 ⟨ra, rb, rfl, h⟩
  refine ⟨[(8, .tuple #[.pointer ra, .int .i64 rb])], ps (by kernel_rfl), ?_⟩
  refine N_run 5 [(4, .pointer ra), (5, .int .i64 rb)] (fun w => by kernel_rfl) ?_
  refine N_end (by kernel_rfl) ?_
  refine S_then ?_
  refine S_seq kk5 kk6 (by kernel_rfl) ?_
  refine S_seq kk7 kk8 (by kernel_rfl) ?_
  refine S_region 2 (Code.ops kk7) (by kernel_rfl) ?_
  refine N_run 2 [(4, .pointer ra), (5, .int .i64 rb), (12, .bool (rb != 0))] (fun w => by kernel_rfl) ?_
  refine N_end (by kernel_rfl) ?_
  refine S_then ?_
  by_cases c1 : rb = 0
  · rw [if_pos c1] at h
    have b2 : (rb != 0) = false := bne_eq_false_iff_eq.mpr c1
    refine S_env [(4, .pointer ra), (5, .int .i64 rb), (12, .bool false)] (by simp only [b2, Bool.not_true, Bool.not_false]) ?_
    clear b2
    refine S_condF (.tmp 12) kk9 kk10 (by kernel_rfl) (by kernel_rfl) ?_
    refine S_skip (by kernel_rfl) ?_
    refine S_then ?_
    refine S_seq kk11 kk12 (by kernel_rfl) ?_
    refine S_region 4 (Code.ops kk11) (by kernel_rfl) ?_
    refine N_run 2 [(15, .agg #[.pointer ra])] (fun w => by kernel_rfl) ?_
    refine N_new (some 16) (fun b => .pointer (some (Addr.mk b 0 none))) (.cells #[.pointer ra] 109) (fun w => by kernel_rfl) ?_
    intro b H2 e3 e4
    replace h := h b H2 e3 e4
    refine ⟨[(16, .pointer (some (Addr.mk b 0 none)))], ps (by kernel_rfl), ?_⟩
    refine N_run 2 [(2, .pointer (some (Addr.mk b 0 none))), (3, .int .i64 0)] (fun w => by kernel_rfl) ?_
    refine N_end (by kernel_rfl) ?_
    refine S_then ?_
    refine S_ret (by kernel_rfl) ?_
    show At _ _ _ _ _ (Q .ret)
    exact S_done (fn := Try.f54) [.pointer (some (Addr.mk b 0 none)), .int .i64 0] hQ (show ResOK _ _ _ [.tmp 2, .tmp 3] _ from .tmp (by kernel_rfl) (.tmp (by kernel_rfl) (.nil))) h
  · rw [if_neg c1] at h
    have b2 : (rb != 0) = true := bne_iff_ne.mpr c1
    refine S_env [(4, .pointer ra), (5, .int .i64 rb), (12, .bool true)] (by simp only [b2, Bool.not_true, Bool.not_false]) ?_
    clear b2
    refine S_condT (.tmp 12) kk9 kk10 (by kernel_rfl) (by kernel_rfl) ?_
    refine S_seq kk13 kk14 (by kernel_rfl) ?_
    refine S_region 3 (Code.ops kk13) (by kernel_rfl) ?_
    refine N_run 3 [(2, .pointer none), (3, .int .i64 rb)] (fun w => by kernel_rfl) ?_
    refine N_end (by kernel_rfl) ?_
    refine S_then ?_
    refine S_ret (by kernel_rfl) ?_
    show At _ _ _ _ _ (Q .ret)
    exact S_done (fn := Try.f54) [.pointer none, .int .i64 rb] hQ (show ResOK _ _ _ [.tmp 2, .tmp 3] _ from .tmp (by kernel_rfl) (.tmp (by kernel_rfl) (.nil))) h
end card_New

/-! (*moraine/card.Cards).Store -/
namespace card_Cards_Store
def kk0 := Func.code Try.f64
def kk1 := Code.fa kk0
def kk2 := Code.fb kk0
def kk3 := Code.fa kk2
def kk4 := Code.fb kk2
def kk5 := Code.fa kk3
def kk6 := Code.fb kk3
def kk7 := Code.fa kk6
def kk8 := Code.fb kk6
def kk9 := Code.fa kk7
def kk10 := Code.fb kk7
def kk11 := Code.fa kk4
def kk12 := Code.fb kk4
def kk13 := Code.fa kk11
def kk14 := Code.fb kk11
def kk15 := Code.fa kk14
def kk16 := Code.fb kk14
def kk17 := Code.fa kk16
def kk18 := Code.fb kk16
def kk19 := Code.fa kk12
def kk20 := Code.fb kk12
def kk21 := Code.fa kk20
def kk22 := Code.fb kk20
def kk23 := Code.fa kk22
def kk24 := Code.fb kk22
def kk25 := Code.fa kk17
def kk26 := Code.fb kk17
end card_Cards_Store
def card_Cards_Store.pt (c : Option Addr) (addr : Int) (wv : Int) (H : Array Obj) (R : Value → Array Obj → Prop) : Prop :=
 card_Cards_none.C c H (fun v H1 => ∃ x : Bool, v = .bool x ∧ 
  if x = true then (
   R (.int .i64 18) H1)
  else
  ∃ cA : Addr, c = some cA ∧
  ∃ x_2 : Option Addr, hat H1 cA = some (.pointer x_2) ∧
  ∃ x2A : Addr, x_2 = some x2A ∧
  ∃ x_3 : Option Addr, hat H1 x2A = some (.pointer x_3) ∧
  seg_Mem_Write.C x_3 addr wv H1 (fun v_2 H2 => ∃ x_4 : Int, v_2 = .int .i64 x_4 ∧ 
   if x_4 = 0 then (
    ∃ x_5 : Option Addr, hat H2 cA = some (.pointer x_5) ∧
    ∃ x5A : Addr, x_5 = some x5A ∧
    ∃ x_6 : Option Addr, hat H2 x5A = some (.pointer x_6) ∧
    seg_Mem_Seg.C x_6 (IntKind.wrap .i64 (Int.tdiv addr 64)) H2 (fun v_3 H3 => ∃ raGen : Int, ∃ raKind : Int, ∃ raN : Int, ∃ raCardsi0 : Int, ∃ raCardsi1 : Int, ∃ raCardsi2 : Int, ∃ raCardsi3 : Int, ∃ rb : Bool, v_3 = .tuple #[.agg #[.int .i64 raGen, .int .i64 raKind, .int .i64 raN, .int .i64 raCardsi0, .int .i64 raCardsi1, .int .i64 raCardsi2, .int .i64 raCardsi3], .bool rb] ∧ 
     ∀ (b : Nat) (H4 : Array Obj), b = H3.size → H4 = H3.push (.cells #[.int .i64 0, .int .i64 0, .int .i64 0, .int .i64 0, .int .i64 0, .int .i64 0, .int .i64 0] 144) →
     (CanPuts H4 (Addr.mk b 0 none) 0 7) ∧ ∀ H5 : Array Obj, H5 = hputs H4 (Addr.mk b 0 none) [.int .i64 raGen, .int .i64 raKind, .int .i64 raN, .int .i64 raCardsi0, .int .i64 raCardsi1, .int .i64 raCardsi2, .int .i64 raCardsi3] 0 →
     ∃ x_7 : Option Addr, hat H5 cA = some (.pointer x_7) ∧
     ∃ x7A : Addr, x_7 = some x7A ∧
     ∃ x_8 : Option Addr, hat H5 x7A = some (.pointer x_8) ∧
     ∃ xGen : Int, ∃ xKind : Int, ∃ xN : Int, ∃ xCardsi0 : Int, ∃ xCardsi1 : Int, ∃ xCardsi2 : Int, ∃ xCardsi3 : Int, RowAt H5 (Addr.mk b 0 none) 0 [.int .i64 xGen, .int .i64 xKind, .int .i64 xN, .int .i64 xCardsi0, .int .i64 xCardsi1, .int .i64 xCardsi2, .int .i64 xCardsi3] ∧
     ((0 : Int) ≤ (IntKind.wrap .i64 (Int.tdiv (Int.tmod addr 64) 16)) ∧ (IntKind.wrap .i64 (Int.tdiv (Int.tmod addr 64) 16)) < (4 : Int)) ∧
     ∃ x_9 : Int, hat H5 (((Addr.mk b 0 none).add 3).add (Int.toNat (IntKind.wrap .i64 (Int.tdiv (Int.tmod addr 64) 16)) * 1)) = some (.int .i64 x_9) ∧
     card_Cards_younger.C (some cA) xGen xKind xN xCardsi0 xCardsi1 xCardsi2 xCardsi3 wv x_9 H5 (fun v_4 H6 => ∃ x_10 : Int, v_4 = .int .i64 x_10 ∧ RowAt H6 cA 0 [.pointer (some x7A)] ∧ RowAt H6 x7A 0 [.pointer x_8] ∧ 
      seg_Mem_Mark.C x_8 (IntKind.wrap .i64 (Int.tdiv addr 64)) (IntKind.wrap .i64 (Int.tdiv (Int.tmod addr 64) 16)) x_10 H6 (fun v_5 H7 => ∃ x_11 : Int, v_5 = .int .i64 x_11 ∧ 
       R (.int .i64 x_11) H7))))
   else
   R (.int .i64 x_4) H2))
namespace card_Cards_Store
set_option maxRecDepth 100000 in
theorem link {c : Option Addr} {addr : Int} {wv : Int} {H : Array Obj} {R : Value → Array Obj → Prop} (h : pt c addr wv H R) : C c addr wv H R := by
  refine S_enter (fn := Try.f64) (c := kk0) 62 Try.func64 (by kernel_rfl) (by kernel_rfl) (Nat.le_of_ble_eq_true (by kernel_rfl)) ?_
  intro w0 Q hQ
  unfold pt at h
  refine S_sub [(0, .pointer c), (1, .int .i64 addr), (2, .int .u64 wv)] (sb (by kernel_rfl)) ?_
  refine S_seq kk1 kk2 (by kernel_rfl) ?_
  refine S_region 0 (Code.ops kk1) (by kernel_rfl) ?_
  refine N_run 1 [(0, .pointer c), (1, .int .i64 addr), (2, .int .u64 wv)] (fun w => by kernel_rfl) ?_
  refine N_end (by kernel_rfl) ?_
  refine S_then ?_
  refine S_seq kk3 kk4 (by kernel_rfl) ?_
  refine S_seq kk5 kk6 (by kernel_rfl) ?_
  refine S_region 1 (Code.ops kk5) (by kernel_rfl) ?_
  refine N_run 1 [(0, .pointer c), (1, .int .i64 addr), (2, .int .u64 wv), (12, .pointer c)] (fun w => by kernel_rfl) ?_
  refine N_call (some 13) 82 #[.pointer c] (fun w => by kernel_rfl) h ?_; clear h
  rintro v H1 ⟨x, rfl, h⟩
  refine ⟨[(0, .pointer c), (1, .int .i64 addr), (2, .int .u64 wv), (13, .bool x)], ps (by kernel_rfl), ?_⟩
  refine N_end (by kernel_rfl) ?_
  refine S_then ?_
  by_cases c1 : x = true
  · rw [if_pos c1] at h
    have b2 : x = true := c1
    refine S_env [(0, .pointer c), (1, .int .i64 addr), (2, .int .u64 wv), (13, .bool true)] (by simp only [b2, Bool.not_true, Bool.not_false]) ?_
    clear b2
    refine S_condT (.tmp 13) kk7 kk8 (by kernel_rfl) (by kernel_rfl) ?_
    refine S_seq kk9 kk10 (by kernel_rfl) ?_
    refine S_region 2 (Code.ops kk9) (by kernel_rfl) ?_
    refine N_run 1 [(6, .int .i64 18)] (fun w => by kernel_rfl) ?_
    refine N_end (by kernel_rfl) ?_
    refine S_then ?_
    refine S_ret (by kernel_rfl) ?_
    show At _ _ _ _ _ (Q .ret)
    exact S_done (fn := Try.f64) [.int .i64 18] hQ (show ResOK _ _ _ [.tmp 6] _ from .tmp (by kernel_rfl) (.nil)) h
  · rw [if_neg c1] at h
    have b2 : x = false := eq_false_of_ne_true c1
    refine S_env [(0, .pointer c), (1, .int .i64 addr), (2, .int .u64 wv), (13, .bool false)] (by simp only [b2, Bool.not_true, Bool.not_false]) ?_
    clear b2
    refine S_condF (.tmp 13) kk7 kk8 (by kernel_rfl) (by kernel_rfl) ?_
    refine S_skip (by kernel_rfl) ?_
    refine S_then ?_
    refine S_seq kk11 kk12 (by kernel_rfl) ?_
    refine S_seq kk13 kk14 (by kernel_rfl) ?_
    refine S_region 3 (Code.ops kk13) (by kernel_rfl) ?_
    refine N_run 1 [(0, .pointer c), (1, .int .i64 addr), (2, .int .u64 wv), (14, .pointer c)] (fun w => by kernel_rfl) ?_
    obtain ⟨cA, rfl, h⟩ := h
    refine N_run 2 [(0, .pointer (some cA)), (1, .int .i64 addr), (2, .int .u64 wv), (16, .pointer (some cA))] (fun w => by kernel_rfl) ?_
    obtain ⟨x_2, q3, h⟩ := h
    refine N_val (some 17) (loadN 107 (.pointer (some cA))) (.pointer x_2) (fun w => by kernel_rfl) (loadN_run (loadOK_one (fun w => by kernel_rfl) q3)) [(0, .pointer (some cA)), (1, .int .i64 addr), (2, .int .u64 wv), (17, .pointer x_2)] (ps (by kernel_rfl)) ?_
    obtain ⟨x2A, rfl, h⟩ := h
    refine N_run 2 [(0, .pointer (some cA)), (1, .int .i64 addr), (2, .int .u64 wv), (19, .pointer (some x2A))] (fun w => by kernel_rfl) ?_
    obtain ⟨x_3, q4, h⟩ := h
    refine N_val (some 20) (loadN 124 (.pointer (some x2A))) (.pointer x_3) (fun w => by kernel_rfl) (loadN_run (loadOK_one (fun w => by kernel_rfl) q4)) [(0, .pointer (some cA)), (1, .int .i64 addr), (2, .int .u64 wv), (20, .pointer x_3)] (ps (by kernel_rfl)) ?_
    refine N_run 2 [(0, .pointer (some cA)), (1, .int .i64 addr), (2, .int .u64 wv), (20, .pointer x_3), (21, .int .i64 addr), (22, .int .u64 wv)] (fun w => by kernel_rfl) ?_
    refine N_call (some 23) 89 #[.pointer x_3, .int .i64 addr, .int .u64 wv] (fun w => by kernel_rfl) h ?_; clear h
    rintro v_2 H2 ⟨x_4, rfl, h⟩
    refine ⟨[(0, .pointer (some cA)), (1, .int .i64 addr), (2, .int .u64 wv), (23, .int .i64 x_4)], ps (by kernel_rfl), ?_⟩
    refine N_run 1 [(0, .pointer (some cA)), (1, .int .i64 addr), (2, .int .u64 wv), (7, .int .i64 x_4)] (fun w => by kernel_rfl) ?_
    refine N_end (by kernel_rfl) ?_
    refine S_then ?_
    refine S_seq kk15 kk16 (by kernel_rfl) ?_
    refine S_region 4 (Code.ops kk15) (by kernel_rfl) ?_
    refine N_run 2 [(0, .pointer (some cA)), (1, .int .i64 addr), (2, .int .u64 wv), (7, .int .i64 x_4), (25, .bool (x_4 != 0))] (fun w => by kernel_rfl) ?_
    refine N_end (by kernel_rfl) ?_
    refine S_then ?_
    by_cases c5 : x_4 = 0
    · rw [if_pos c5] at h
      have b6 : (x_4 != 0) = false := bne_eq_false_iff_eq.mpr c5
      refine S_env [(0, .pointer (some cA)), (1, .int .i64 addr), (2, .int .u64 wv), (7, .int .i64 x_4), (25, .bool false)] (by simp only [b6, Bool.not_true, Bool.not_false]) ?_
      clear b6
      refine S_condF (.tmp 25) kk17 kk18 (by kernel_rfl) (by kernel_rfl) ?_
      refine S_skip (by kernel_rfl) ?_
      refine S_then ?_
      refine S_seq kk19 kk20 (by kernel_rfl) ?_
      refine S_region 6 (Code.ops kk19) (by kernel_rfl) ?_
      refine N_run 7 [(0, .pointer (some cA)), (2, .int .u64 wv), (8, .int .i64 (IntKind.wrap .i64 (Int.tdiv addr 64))), (9, .int .i64 (IntKind.wrap .i64 (Int.tdiv (Int.tmod addr 64) 16)))] (fun w => by kernel_rfl) ?_
      refine N_end (by kernel_rfl) ?_
      refine S_then ?_
      refine S_seq kk21 kk22 (by kernel_rfl) ?_
      refine S_region 7 (Code.ops kk21) (by kernel_rfl) ?_
      refine N_run 3 [(0, .pointer (some cA)), (2, .int .u64 wv), (8, .int .i64 (IntKind.wrap .i64 (Int.tdiv addr 64))), (9, .int .i64 (IntKind.wrap .i64 (Int.tdiv (Int.tmod addr 64) 16))), (35, .pointer (some cA))] (fun w => by kernel_rfl) ?_
      obtain ⟨x_5, q7, h⟩ := h
      refine N_val (some 36) (loadN 107 (.pointer (some cA))) (.pointer x_5) (fun w => by kernel_rfl) (loadN_run (loadOK_one (fun w => by kernel_rfl) q7)) [(0, .pointer (some cA)), (2, .int .u64 wv), (8, .int .i64 (IntKind.wrap .i64 (Int.tdiv addr 64))), (9, .int .i64 (IntKind.wrap .i64 (Int.tdiv (Int.tmod addr 64) 16))), (36, .pointer x_5)] (ps (by kernel_rfl)) ?_
      obtain ⟨x5A, rfl, h⟩ := h
      refine N_run 2 [(0, .pointer (some cA)), (2, .int .u64 wv), (8, .int .i64 (IntKind.wrap .i64 (Int.tdiv addr 64))), (9, .int .i64 (IntKind.wrap .i64 (Int.tdiv (Int.tmod addr 64) 16))), (38, .pointer (some x5A))] (fun w => by kernel_rfl) ?_
      obtain ⟨x_6, q8, h⟩ := h
      refine N_val (some 39) (loadN 124 (.pointer (some x5A))) (.pointer x_6) (fun w => by kernel_rfl) (loadN_run (loadOK_one (fun w => by kernel_rfl) q8)) [(0, .pointer (some cA)), (2, .int .u64 wv), (8, .int .i64 (IntKind.wrap .i64 (Int.tdiv addr 64))), (9, .int .i64 (IntKind.wrap .i64 (Int.tdiv (Int.tmod addr 64) 16))), (39, .pointer x_6)] (ps (by kernel_rfl)) ?_
      refine N_run 1 [(0, .pointer (some cA)), (2, .int .u64 wv), (8, .int .i64 (IntKind.wrap .i64 (Int.tdiv addr 64))), (9, .int .i64 (IntKind.wrap .i64 (Int.tdiv (Int.tmod addr 64) 16))), (39, .pointer x_6), (40, .int .i64 (IntKind.wrap .i64 (Int.tdiv addr 64)))] (fun w => by kernel_rfl) ?_
      refine N_call (some 41) 84 #[.pointer x_6, .int .i64 (IntKind.wrap .i64 (Int.tdiv addr 64))] (fun w => by kernel_rfl) h ?_; clear h
      rintro v_3 H3 ⟨raGen, raKind, raN, raCardsi0, raCardsi1, raCardsi2, raCardsi3, rb, rfl, h⟩
      refine ⟨[(0, .pointer (some cA)), (2, .int .u64 wv), (8, .int .i64 (IntKind.wrap .i64 (Int.tdiv addr 64))), (9, .int .i64 (IntKind.wrap .i64 (Int.tdiv (Int.tmod addr 64) 16))), (41, .tuple #[.agg #[.int .i64 raGen, .int .i64 raKind, .int .i64 raN, .int .i64 raCardsi0, .int .i64 raCardsi1, .int .i64 raCardsi2, .int .i64 raCardsi3], .bool rb])], ps (by kernel_rfl), ?_⟩
      refine N_run 3 [(0, .pointer (some cA)), (2, .int .u64 wv), (8, .int .i64 (IntKind.wrap .i64 (Int.tdiv addr 64))), (9, .int .i64 (IntKind.wrap .i64 (Int.tdiv (Int.tmod addr 64) 16))), (42, .agg #[.int .i64 raGen, .int .i64 raKind, .int .i64 raN, .int .i64 raCardsi0, .int .i64 raCardsi1, .int .i64 raCardsi2, .int .i64 raCardsi3]), (43, .bool rb)] (fun w => by kernel_rfl) ?_
      refine N_new (some 10) (fun b => .pointer (some (Addr.mk b 0 none))) (.cells #[.int .i64 0, .int .i64 0, .int .i64 0, .int .i64 0, .int .i64 0, .int .i64 0, .int .i64 0] 144) (fun w => by kernel_rfl) ?_
      intro b H4 e9 e10
      replace h := h b H4 e9 e10
      refine ⟨[(0, .pointer (some cA)), (2, .int .u64 wv), (8, .int .i64 (IntKind.wrap .i64 (Int.tdiv addr 64))), (9, .int .i64 (IntKind.wrap .i64 (Int.tdiv (Int.tmod addr 64) 16))), (10, .pointer (some (Addr.mk b 0 none))), (42, .agg #[.int .i64 raGen, .int .i64 raKind, .int .i64 raN, .int .i64 raCardsi0, .int .i64 raCardsi1, .int .i64 raCardsi2, .int .i64 raCardsi3]), (43, .bool rb)], ps (by kernel_rfl), ?_⟩
      obtain ⟨q12, h⟩ := h
      refine N_skipop none (storeN 144 (.pointer (some (Addr.mk b 0 none))) (.agg #[.int .i64 raGen, .int .i64 raKind, .int .i64 raN, .int .i64 raCardsi0, .int .i64 raCardsi1, .int .i64 raCardsi2, .int .i64 raCardsi3])) (fun Hz => Hz = hputs H4 (Addr.mk b 0 none) [.int .i64 raGen, .int .i64 raKind, .int .i64 raN, .int .i64 raCardsi0, .int .i64 raCardsi1, .int .i64 raCardsi2, .int .i64 raCardsi3] 0) (fun w => by kernel_rfl) (ss_store [.int .i64 raGen, .int .i64 raKind, .int .i64 raN, .int .i64 raCardsi0, .int .i64 raCardsi1, .int .i64 raCardsi2, .int .i64 raCardsi3] 7 (by kernel_rfl) (by kernel_rfl) (fun w => by kernel_rfl) (by kernel_rfl) q12) ?_
      intro H5 e11
      replace h := h H5 e11
      refine ⟨[(0, .pointer (some cA)), (2, .int .u64 wv), (8, .int .i64 (IntKind.wrap .i64 (Int.tdiv addr 64))), (9, .int .i64 (IntKind.wrap .i64 (Int.tdiv (Int.tmod addr 64) 16))), (10, .pointer (some (Addr.mk b 0 none))), (43, .bool rb)], ps (by kernel_rfl), ?_⟩
      refine N_run 1 [(0, .pointer (some cA)), (2, .int .u64 wv), (8, .int .i64 (IntKind.wrap .i64 (Int.tdiv addr 64))), (9, .int .i64 (IntKind.wrap .i64 (Int.tdiv (Int.tmod addr 64) 16))), (10, .pointer (some (Addr.mk b 0 none)))] (fun w => by kernel_rfl) ?_
      refine N_end (by kernel_rfl) ?_
      refine S_then ?_
      refine S_seq kk23 kk24 (by kernel_rfl) ?_
      obtain ⟨x_7, q13, h⟩ := h
      obtain ⟨x7A, rfl, h⟩ := h
      obtain ⟨x_8, q14, h⟩ := h
      obtain ⟨xGen, xKind, xN, xCardsi0, xCardsi1, xCardsi2, xCardsi3, q15, h⟩ := h
      obtain ⟨q16, h⟩ := h
      obtain ⟨x_9, q17, h⟩ := h
      refine S_regionG 8 (Code.ops kk23) [(17, cA, [.pointer (some x7A)]), (17, x7A, [.pointer x_8]), (16, (Addr.mk b 0 none), [.int .i64 xGen, .int .i64 xKind, .int .i64 xN, .int .i64 xCardsi0, .int .i64 xCardsi1, .int .i64 xCardsi2, .int .i64 xCardsi3]), (16, (((Addr.mk b 0 none).add 3).add (Int.toNat (IntKind.wrap .i64 (Int.tdiv (Int.tmod addr 64) 16)) * 1)), [.int .i64 x_9])] 19 #[false, false, false, false, false, false, false, false, false, false, false, false, false, false, false, false, false, false, false] (by kernel_rfl) (by kernel_rfl) (by kernel_rfl) (by kernel_rfl) (by kernel_rfl) (show FactsAt _ _ _ from ⟨⟨q13, trivial⟩, ⟨q14, trivial⟩, q15, ⟨q17, trivial⟩, trivial⟩) ?_
      refine G_take 0 (some 44) (.pointer (some cA)) #[true, false, false, false, false, false, false, false, false, false, false, false, false, false, false, false, false, false, false] [(0, .pointer (some cA)), (2, .int .u64 wv), (8, .int .i64 (IntKind.wrap .i64 (Int.tdiv addr 64))), (9, .int .i64 (IntKind.wrap .i64 (Int.tdiv (Int.tmod addr 64) 16))), (10, .pointer (some (Addr.mk b 0 none))), (44, .pointer (some cA))] ((pure (.value (.pointer (some cA))) : Sem Next)) (fun w => by kernel_rfl) (fun _ _ _ _ _ => rfl) (by kernel_rfl) (by kernel_rfl) (by kernel_rfl) (by kernel_rfl) (by kernel_rfl) (by kernel_rfl) (ps (by kernel_rfl)) ?_
      refine G_take 1 (some 45) (.pointer (some cA)) #[true, true, false, false, false, false, false, false, false, false, false, false, false, false, false, false, false, false, false] [(0, .pointer (some cA)), (2, .int .u64 wv), (8, .int .i64 (IntKind.wrap .i64 (Int.tdiv addr 64))), (9, .int .i64 (IntKind.wrap .i64 (Int.tdiv (Int.tmod addr 64) 16))), (10, .pointer (some (Addr.mk b 0 none))), (45, .pointer (some cA))] ((pure (.value (.pointer (some cA))) : Sem Next)) (fun w => by kernel_rfl) (fun _ _ _ _ _ => rfl) (by kernel_rfl) (by kernel_rfl) (by kernel_rfl) (by kernel_rfl) (by kernel_rfl) (by kernel_rfl) (ps (by kernel_rfl)) ?_
      refine G_take 2 (some 46) (.pointer (some cA)) #[true, true, true, false, false, false, false, false, false, false, false, false, false, false, false, false, false, false, false] [(0, .pointer (some cA)), (2, .int .u64 wv), (8, .int .i64 (IntKind.wrap .i64 (Int.tdiv addr 64))), (9, .int .i64 (IntKind.wrap .i64 (Int.tdiv (Int.tmod addr 64) 16))), (10, .pointer (some (Addr.mk b 0 none))), (46, .pointer (some cA))] ((pure (.value (.pointer (some cA))) : Sem Next)) (fun w => by kernel_rfl) (fun _ _ _ _ _ => rfl) (by kernel_rfl) (by kernel_rfl) (by kernel_rfl) (by kernel_rfl) (by kernel_rfl) (by kernel_rfl) (ps (by kernel_rfl)) ?_
      refine G_take 3 (some 47) (.pointer (some x7A)) #[true, true, true, true, false, false, false, false, false, false, false, false, false, false, false, false, false, false, false] [(0, .pointer (some cA)), (2, .int .u64 wv), (8, .int .i64 (IntKind.wrap .i64 (Int.tdiv addr 64))), (9, .int .i64 (IntKind.wrap .i64 (Int.tdiv (Int.tmod addr 64) 16))), (10, .pointer (some (Addr.mk b 0 none))), (47, .pointer (some x7A))] (loadN 107 (.pointer (some cA))) (fun w => by kernel_rfl) (held_one 17 (fun w => by kernel_rfl) (List.Mem.head _) (.inl (by kernel_rfl))) (by kernel_rfl) (by kernel_rfl) (by kernel_rfl) (by kernel_rfl) (by kernel_rfl) (by kernel_rfl) (ps (by kernel_rfl)) ?_
      refine G_take 4 (some 48) (.pointer (some x7A)) #[true, true, true, true, true, false, false, false, false, false, false, false, false, false, false, false, false, false, false] [(0, .pointer (some cA)), (2, .int .u64 wv), (8, .int .i64 (IntKind.wrap .i64 (Int.tdiv addr 64))), (9, .int .i64 (IntKind.wrap .i64 (Int.tdiv (Int.tmod addr 64) 16))), (10, .pointer (some (Addr.mk b 0 none))), (48, .pointer (some x7A))] ((pure (.value (.pointer (some x7A))) : Sem Next)) (fun w => by kernel_rfl) (fun _ _ _ _ _ => rfl) (by kernel_rfl) (by kernel_rfl) (by kernel_rfl) (by kernel_rfl) (by kernel_rfl) (by kernel_rfl) (ps (by kernel_rfl)) ?_
      refine G_take 5 (some 49) (.pointer (some x7A)) #[true, true, true, true, true, true, false, false, false, false, false, false, false, false, false, false, false, false, false] [(0, .pointer (some cA)), (2, .int .u64 wv), (8, .int .i64 (IntKind.wrap .i64 (Int.tdiv addr 64))), (9, .int .i64 (IntKind.wrap .i64 (Int.tdiv (Int.tmod addr 64) 16))), (10, .pointer (some (Addr.mk b 0 none))), (49, .pointer (some x7A))] ((pure (.value (.pointer (some x7A))) : Sem Next)) (fun w => by kernel_rfl) (fun _ _ _ _ _ => rfl) (by kernel_rfl) (by kernel_rfl) (by kernel_rfl) (by kernel_rfl) (by kernel_rfl) (by kernel_rfl) (ps (by kernel_rfl)) ?_
      refine G_take 6 (some 50) (.pointer x_8) #[true, true, true, true, true, true, true, false, false, false, false, false, false, false, false, false, false, false, false] [(0, .pointer (some cA)), (2, .int .u64 wv), (8, .int .i64 (IntKind.wrap .i64 (Int.tdiv addr 64))), (9, .int .i64 (IntKind.wrap .i64 (Int.tdiv (Int.tmod addr 64) 16))), (10, .pointer (some (Addr.mk b 0 none))), (50, .pointer x_8)] (loadN 124 (.pointer (some x7A))) (fun w => by kernel_rfl) (held_one 17 (fun w => by kernel_rfl) (List.Mem.tail _ (List.Mem.head _)) (.inl (by kernel_rfl))) (by kernel_rfl) (by kernel_rfl) (by kernel_rfl) (by kernel_rfl) (by kernel_rfl) (by kernel_rfl) (ps (by kernel_rfl)) ?_
      refine G_take 7 (some 51) (.int .i64 (IntKind.wrap .i64 (Int.tdiv addr 64))) #[true, true, true, true, true, true, true, true, false, false, false, false, false, false, false, false, false, false, false] [(0, .pointer (some cA)), (2, .int .u64 wv), (9, .int .i64 (IntKind.wrap .i64 (Int.tdiv (Int.tmod addr 64) 16))), (10, .pointer (some (Addr.mk b 0 none))), (50, .pointer x_8), (51, .int .i64 (IntKind.wrap .i64 (Int.tdiv addr 64)))] ((pure (.value (.int .i64 (IntKind.wrap .i64 (Int.tdiv addr 64)))) : Sem Next)) (fun w => by kernel_rfl) (fun _ _ _ _ _ => rfl) (by kernel_rfl) (by kernel_rfl) (by kernel_rfl) (by kernel_rfl) (by kernel_rfl) (by kernel_rfl) (ps (by kernel_rfl)) ?_
      refine G_take 8 (some 52) (.int .i64 (IntKind.wrap .i64 (Int.tdiv (Int.tmod addr 64) 16))) #[true, true, true, true, true, true, true, true, true, false, false, false, false, false, false, false, false, false, false] [(0, .pointer (some cA)), (2, .int .u64 wv), (9, .int .i64 (IntKind.wrap .i64 (Int.tdiv (Int.tmod addr 64) 16))), (10, .pointer (some (Addr.mk b 0 none))), (50, .pointer x_8), (51, .int .i64 (IntKind.wrap .i64 (Int.tdiv addr 64))), (52, .int .i64 (IntKind.wrap .i64 (Int.tdiv (Int.tmod addr 64) 16)))] ((pure (.value (.int .i64 (IntKind.wrap .i64 (Int.tdiv (Int.tmod addr 64) 16)))) : Sem Next)) (fun w => by kernel_rfl) (fun _ _ _ _ _ => rfl) (by kernel_rfl) (by kernel_rfl) (by kernel_rfl) (by kernel_rfl) (by kernel_rfl) (by kernel_rfl) (ps (by kernel_rfl)) ?_
      refine G_take 9 (some 53) (.pointer (some cA)) #[true, true, true, true, true, true, true, true, true, true, false, false, false, false, false, false, false, false, false] [(2, .int .u64 wv), (9, .int .i64 (IntKind.wrap .i64 (Int.tdiv (Int.tmod addr 64) 16))), (10, .pointer (some (Addr.mk b 0 none))), (50, .pointer x_8), (51, .int .i64 (IntKind.wrap .i64 (Int.tdiv addr 64))), (52, .int .i64 (IntKind.wrap .i64 (Int.tdiv (Int.tmod addr 64) 16))), (53, .pointer (some cA))] ((pure (.value (.pointer (some cA))) : Sem Next)) (fun w => by kernel_rfl) (fun _ _ _ _ _ => rfl) (by kernel_rfl) (by kernel_rfl) (by kernel_rfl) (by kernel_rfl) (by kernel_rfl) (by kernel_rfl) (ps (by kernel_rfl)) ?_
      refine G_take 10 (some 54) (.agg #[.int .i64 xGen, .int .i64 xKind, .int .i64 xN, .int .i64 xCardsi0, .int .i64 xCardsi1, .int .i64 xCardsi2, .int .i64 xCardsi3]) #[true, true, true, true, true, true, true, true, true, true, true, false, false, false, false, false, false, false, false] [(2, .int .u64 wv), (9, .int .i64 (IntKind.wrap .i64 (Int.tdiv (Int.tmod addr 64) 16))), (10, .pointer (some (Addr.mk b 0 none))), (50, .pointer x_8), (51, .int .i64 (IntKind.wrap .i64 (Int.tdiv addr 64))), (52, .int .i64 (IntKind.wrap .i64 (Int.tdiv (Int.tmod addr 64) 16))), (53, .pointer (some cA)), (54, .agg #[.int .i64 xGen, .int .i64 xKind, .int .i64 xN, .int .i64 xCardsi0, .int .i64 xCardsi1, .int .i64 xCardsi2, .int .i64 xCardsi3])] (loadN 144 (.pointer (some (Addr.mk b 0 none)))) (fun w => by kernel_rfl) (held_row 16 (fun w => by kernel_rfl) (fun w => by kernel_rfl) (List.Mem.tail _ (List.Mem.tail _ (List.Mem.head _))) (.inl (by kernel_rfl))) (by kernel_rfl) (by kernel_rfl) (by kernel_rfl) (by kernel_rfl) (by kernel_rfl) (by kernel_rfl) (ps (by kernel_rfl)) ?_
      refine G_take 11 (some 55) (.int .u64 wv) #[true, true, true, true, true, true, true, true, true, true, true, true, false, false, false, false, false, false, false] [(9, .int .i64 (IntKind.wrap .i64 (Int.tdiv (Int.tmod addr 64) 16))), (10, .pointer (some (Addr.mk b 0 none))), (50, .pointer x_8), (51, .int .i64 (IntKind.wrap .i64 (Int.tdiv addr 64))), (52, .int .i64 (IntKind.wrap .i64 (Int.tdiv (Int.tmod addr 64) 16))), (53, .pointer (some cA)), (54, .agg #[.int .i64 xGen, .int .i64 xKind, .int .i64 xN, .int .i64 xCardsi0, .int .i64 xCardsi1, .int .i64 xCardsi2, .int .i64 xCardsi3]), (55, .int .u64 wv)] ((pure (.value (.int .u64 wv)) : Sem Next)) (fun w => by kernel_rfl) (fun _ _ _ _ _ => rfl) (by kernel_rfl) (by kernel_rfl) (by kernel_rfl) (by kernel_rfl) (by kernel_rfl) (by kernel_rfl) (ps (by kernel_rfl)) ?_
      refine G_take 12 (some 56) (.int .i64 (IntKind.wrap .i64 (Int.tdiv (Int.tmod addr 64) 16))) #[true, true, true, true, true, true, true, true, true, true, true, true, true, false, false, false, false, false, false] [(10, .pointer (some (Addr.mk b 0 none))), (50, .pointer x_8), (51, .int .i64 (IntKind.wrap .i64 (Int.tdiv addr 64))), (52, .int .i64 (IntKind.wrap .i64 (Int.tdiv (Int.tmod addr 64) 16))), (53, .pointer (some cA)), (54, .agg #[.int .i64 xGen, .int .i64 xKind, .int .i64 xN, .int .i64 xCardsi0, .int .i64 xCardsi1, .int .i64 xCardsi2, .int .i64 xCardsi3]), (55, .int .u64 wv), (56, .int .i64 (IntKind.wrap .i64 (Int.tdiv (Int.tmod addr 64) 16)))] ((pure (.value (.int .i64 (IntKind.wrap .i64 (Int.tdiv (Int.tmod addr 64) 16)))) : Sem Next)) (fun w => by kernel_rfl) (fun _ _ _ _ _ => rfl) (by kernel_rfl) (by kernel_rfl) (by kernel_rfl) (by kernel_rfl) (by kernel_rfl) (by kernel_rfl) (ps (by kernel_rfl)) ?_
      refine G_take 13 (some 57) (.pointer (some ((Addr.mk b 0 none).add 3))) #[true, true, true, true, true, true, true, true, true, true, true, true, true, true, false, false, false, false, false] [(50, .pointer x_8), (51, .int .i64 (IntKind.wrap .i64 (Int.tdiv addr 64))), (52, .int .i64 (IntKind.wrap .i64 (Int.tdiv (Int.tmod addr 64) 16))), (53, .pointer (some cA)), (54, .agg #[.int .i64 xGen, .int .i64 xKind, .int .i64 xN, .int .i64 xCardsi0, .int .i64 xCardsi1, .int .i64 xCardsi2, .int .i64 xCardsi3]), (55, .int .u64 wv), (56, .int .i64 (IntKind.wrap .i64 (Int.tdiv (Int.tmod addr 64) 16))), (57, .pointer (some ((Addr.mk b 0 none).add 3)))] ((pure (.value (.pointer (some ((Addr.mk b 0 none).add 3)))) : Sem Next)) (fun w => by kernel_rfl) (fun _ _ _ _ _ => rfl) (by kernel_rfl) (by kernel_rfl) (by kernel_rfl) (by kernel_rfl) (by kernel_rfl) (by kernel_rfl) (ps (by kernel_rfl)) ?_
      refine G_take 14 (some 58) (.pointer (some (((Addr.mk b 0 none).add 3).add (Int.toNat (IntKind.wrap .i64 (Int.tdiv (Int.tmod addr 64) 16)) * 1)))) #[true, true, true, true, true, true, true, true, true, true, true, true, true, true, true, false, false, false, false] [(50, .pointer x_8), (51, .int .i64 (IntKind.wrap .i64 (Int.tdiv addr 64))), (52, .int .i64 (IntKind.wrap .i64 (Int.tdiv (Int.tmod addr 64) 16))), (53, .pointer (some cA)), (54, .agg #[.int .i64 xGen, .int .i64 xKind, .int .i64 xN, .int .i64 xCardsi0, .int .i64 xCardsi1, .int .i64 xCardsi2, .int .i64 xCardsi3]), (55, .int .u64 wv), (58, .pointer (some (((Addr.mk b 0 none).add 3).add (Int.toNat (IntKind.wrap .i64 (Int.tdiv (Int.tmod addr 64) 16)) * 1))))] (indexAtN 125 (.pointer (some ((Addr.mk b 0 none).add 3))) (.int .i64 (IntKind.wrap .i64 (Int.tdiv (Int.tmod addr 64) 16)))) (fun w => by kernel_rfl) (fun _ w _ _ _ => indexArr_run (P := Try.prog) (t := 125) (elem := 3) (sz := 1) (n := 4) (a := ((Addr.mk b 0 none).add 3)) (k := .i64) (i := (IntKind.wrap .i64 (Int.tdiv (Int.tmod addr 64) 16))) Try.underlying125 (fun w => by kernel_rfl) q16.1 q16.2 w) (by kernel_rfl) (by kernel_rfl) (by kernel_rfl) (by kernel_rfl) (by kernel_rfl) (by kernel_rfl) (ps (by kernel_rfl)) ?_
      refine G_take 15 (some 59) (.int .i64 x_9) #[true, true, true, true, true, true, true, true, true, true, true, true, true, true, true, true, false, false, false] [(50, .pointer x_8), (51, .int .i64 (IntKind.wrap .i64 (Int.tdiv addr 64))), (52, .int .i64 (IntKind.wrap .i64 (Int.tdiv (Int.tmod addr 64) 16))), (53, .pointer (some cA)), (54, .agg #[.int .i64 xGen, .int .i64 xKind, .int .i64 xN, .int .i64 xCardsi0, .int .i64 xCardsi1, .int .i64 xCardsi2, .int .i64 xCardsi3]), (55, .int .u64 wv), (59, .int .i64 x_9)] (loadN 3 (.pointer (some (((Addr.mk b 0 none).add 3).add (Int.toNat (IntKind.wrap .i64 (Int.tdiv (Int.tmod addr 64) 16)) * 1))))) (fun w => by kernel_rfl) (held_one 16 (fun w => by kernel_rfl) (List.Mem.tail _ (List.Mem.tail _ (List.Mem.tail _ (List.Mem.head _)))) (.inl (by kernel_rfl))) (by kernel_rfl) (by kernel_rfl) (by kernel_rfl) (by kernel_rfl) (by kernel_rfl) (by kernel_rfl) (ps (by kernel_rfl)) ?_
      refine G_call 16 (some 60) #[true, true, true, true, true, true, true, true, true, true, true, true, true, true, true, true, true, false, false] 92 #[.pointer (some cA), .agg #[.int .i64 xGen, .int .i64 xKind, .int .i64 xN, .int .i64 xCardsi0, .int .i64 xCardsi1, .int .i64 xCardsi2, .int .i64 xCardsi3], .int .u64 wv, .int .i64 x_9] (by kernel_rfl) (fun w => by kernel_rfl) h (by kernel_rfl) ?_; clear h
      rintro v_4 H6 ⟨x_10, rfl, h⟩
      obtain ⟨f18, f19, h⟩ := h
      refine ⟨[(50, .pointer x_8), (51, .int .i64 (IntKind.wrap .i64 (Int.tdiv addr 64))), (52, .int .i64 (IntKind.wrap .i64 (Int.tdiv (Int.tmod addr 64) 16))), (60, .int .i64 x_10)], ps (by kernel_rfl), (show FactsAt _ _ _ from ⟨f18, f19, trivial, trivial, trivial⟩), ?_⟩
      refine G_call 17 (some 61) #[true, true, true, true, true, true, true, true, true, true, true, true, true, true, true, true, true, true, false] 91 #[.pointer x_8, .int .i64 (IntKind.wrap .i64 (Int.tdiv addr 64)), .int .i64 (IntKind.wrap .i64 (Int.tdiv (Int.tmod addr 64) 16)), .int .i64 x_10] (by kernel_rfl) (fun w => by kernel_rfl) h (by kernel_rfl) ?_; clear h
      rintro v_5 H7 ⟨x_11, rfl, h⟩
      refine ⟨[(61, .int .i64 x_11)], ps (by kernel_rfl), (show FactsAt _ _ _ from ⟨trivial, trivial, trivial, trivial, trivial⟩), ?_⟩
      refine G_take 18 (some 6) (.int .i64 x_11) #[true, true, true, true, true, true, true, true, true, true, true, true, true, true, true, true, true, true, true] [(6, .int .i64 x_11)] (pure (.value (.int .i64 x_11)) : Sem Next) (fun w => by kernel_rfl) (fun _ _ _ _ _ => rfl) (by kernel_rfl) (by kernel_rfl) (by kernel_rfl) (by kernel_rfl) (by kernel_rfl) (by kernel_rfl) (ps (by kernel_rfl)) ?_
      refine G_sub [(6, .int .i64 x_11)] (sb (by kernel_rfl)) ?_
      refine G_end (by kernel_rfl) ?_
      refine S_then ?_
      refine S_ret (by kernel_rfl) ?_
      show At _ _ _ _ _ (Q .ret)
      exact S_done (fn := Try.f64) [.int .i64 x_11] hQ (show ResOK _ _ _ [.tmp 6] _ from .tmp (by kernel_rfl) (.nil)) h
    · rw [if_neg c5] at h
      have b6 : (x_4 != 0) = true := bne_iff_ne.mpr c5
      refine S_env [(0, .pointer (some cA)), (1, .int .i64 addr), (2, .int .u64 wv), (7, .int .i64 x_4), (25, .bool true)] (by simp only [b6, Bool.not_true, Bool.not_false]) ?_
      clear b6
      refine S_condT (.tmp 25) kk17 kk18 (by kernel_rfl) (by kernel_rfl) ?_
      refine S_seq kk25 kk26 (by kernel_rfl) ?_
      refine S_region 5 (Code.ops kk25) (by kernel_rfl) ?_
      refine N_run 2 [(6, .int .i64 x_4)] (fun w => by kernel_rfl) ?_
      refine N_end (by kernel_rfl) ?_
      refine S_then ?_
      refine S_ret (by kernel_rfl) ?_
      show At _ _ _ _ _ (Q .ret)
      exact S_done (fn := Try.f64) [.int .i64 x_4] hQ (show ResOK _ _ _ [.tmp 6] _ from .tmp (by kernel_rfl) (.nil)) h
end card_Cards_Store

/-! (*moraine/card.Cards).none -/
namespace card_Cards_none
def kk0 := Func.code Try.f82
def kk1 := Code.fa kk0
def kk2 := Code.fb kk0
def kk3 := Code.fa kk2
def kk4 := Code.fb kk2
end card_Cards_none
def card_Cards_none.pt (c : Option Addr) (H : Array Obj) (R : Value → Array Obj → Prop) : Prop :=
 onPtr c (
  R (.bool true) H) (fun cA =>
  ∃ x : Option Addr, hat H cA = some (.pointer x) ∧
  onPtr x (
   R (.bool true) H) (fun xA =>
   ∃ x_2 : Option Addr, hat H cA = some (.pointer x_2) ∧
   ∃ x2A : Addr, x_2 = some x2A ∧
   ∃ x_3 : Option Addr, hat H x2A = some (.pointer x_3) ∧
   onPtr x_3 (
    R (.bool true) H) (fun x3A =>
    R (.bool false) H)))
namespace card_Cards_none
set_option maxRecDepth 100000 in
theorem link {c : Option Addr} {H : Array Obj} {R : Value → Array Obj → Prop} (h : pt c H R) : C c H R := by
  refine S_enter (fn := Try.f82) (c := kk0) 22 Try.func82 (by kernel_rfl) (by kernel_rfl) (Nat.le_of_ble_eq_true (by kernel_rfl)) ?_
  intro w0 Q hQ
  unfold pt at h
  refine S_sub [(0, .pointer c)] (sb (by kernel_rfl)) ?_
  refine S_seq kk1 kk2 (by kernel_rfl) ?_
  refine S_region 0 (Code.ops kk1) (by kernel_rfl) ?_
  refine N_run 1 [(0, .pointer c)] (fun w => by kernel_rfl) ?_
  refine N_end (by kernel_rfl) ?_
  refine S_then ?_
  refine S_seq kk3 kk4 (by kernel_rfl) ?_
  refine S_region 1 (Code.ops kk3) (by kernel_rfl) ?_
  refine N_run 1 [(0, .pointer c), (3, .pointer c)] (fun w => by kernel_rfl) ?_
  rcases c with _ | cA
  · rw [onPtr_none] at h
    refine N_run 19 [(2, .bool true)] (fun w => by kernel_rfl) ?_
    refine N_end (by kernel_rfl) ?_
    refine S_then ?_
    refine S_ret (by kernel_rfl) ?_
    show At _ _ _ _ _ (Q .ret)
    exact S_done (fn := Try.f82) [.bool true] hQ (show ResOK _ _ _ [.tmp 2] _ from .tmp (by kernel_rfl) (.nil)) h
  · rw [onPtr_some] at h
    refine N_run 5 [(0, .pointer (some cA)), (5, .bool false), (8, .pointer (some cA))] (fun w => by kernel_rfl) ?_
    obtain ⟨x, q1, h⟩ := h
    refine N_val (some 9) (loadN 107 (.pointer (some cA))) (.pointer x) (fun w => by kernel_rfl) (loadN_run (loadOK_one (fun w => by kernel_rfl) q1)) [(0, .pointer (some cA)), (5, .bool false), (9, .pointer x)] (ps (by kernel_rfl)) ?_
    rcases x with _ | xA
    · rw [onPtr_none] at h
      refine N_run 13 [(2, .bool true)] (fun w => by kernel_rfl) ?_
      refine N_end (by kernel_rfl) ?_
      refine S_then ?_
      refine S_ret (by kernel_rfl) ?_
      show At _ _ _ _ _ (Q .ret)
      exact S_done (fn := Try.f82) [.bool true] hQ (show ResOK _ _ _ [.tmp 2] _ from .tmp (by kernel_rfl) (.nil)) h
    · rw [onPtr_some] at h
      refine N_run 6 [(12, .bool false), (15, .pointer (some cA))] (fun w => by kernel_rfl) ?_
      obtain ⟨x_2, q2, h⟩ := h
      refine N_val (some 16) (loadN 107 (.pointer (some cA))) (.pointer x_2) (fun w => by kernel_rfl) (loadN_run (loadOK_one (fun w => by kernel_rfl) q2)) [(12, .bool false), (16, .pointer x_2)] (ps (by kernel_rfl)) ?_
      obtain ⟨x2A, rfl, h⟩ := h
      refine N_run 2 [(12, .bool false), (18, .pointer (some x2A))] (fun w => by kernel_rfl) ?_
      obtain ⟨x_3, q3, h⟩ := h
      refine N_val (some 19) (loadN 124 (.pointer (some x2A))) (.pointer x_3) (fun w => by kernel_rfl) (loadN_run (loadOK_one (fun w => by kernel_rfl) q3)) [(12, .bool false), (19, .pointer x_3)] (ps (by kernel_rfl)) ?_
      rcases x_3 with _ | x3A
      · rw [onPtr_none] at h
        refine N_run 3 [(2, .bool true)] (fun w => by kernel_rfl) ?_
        refine N_end (by kernel_rfl) ?_
        refine S_then ?_
        refine S_ret (by kernel_rfl) ?_
        show At _ _ _ _ _ (Q .ret)
        exact S_done (fn := Try.f82) [.bool true] hQ (show ResOK _ _ _ [.tmp 2] _ from .tmp (by kernel_rfl) (.nil)) h
      · rw [onPtr_some] at h
        refine N_run 3 [(2, .bool false)] (fun w => by kernel_rfl) ?_
        refine N_end (by kernel_rfl) ?_
        refine S_then ?_
        refine S_ret (by kernel_rfl) ?_
        show At _ _ _ _ _ (Q .ret)
        exact S_done (fn := Try.f82) [.bool false] hQ (show ResOK _ _ _ [.tmp 2] _ from .tmp (by kernel_rfl) (.nil)) h
end card_Cards_none

/-! (*moraine/card.Cards).younger -/
namespace card_Cards_younger
def kk0 := Func.code Try.f92
def kk1 := Code.fa kk0
def kk2 := Code.fb kk0
def kk3 := Code.fa kk2
def kk4 := Code.fb kk2
def kk5 := Code.fa kk3
def kk6 := Code.fb kk3
def kk7 := Code.fa kk6
def kk8 := Code.fb kk6
def kk9 := Code.fa kk8
def kk10 := Code.fb kk8
def kk11 := Code.fa kk4
def kk12 := Code.fb kk4
def kk13 := Code.fa kk9
def kk14 := Code.fb kk9
end card_Cards_younger
def card_Cards_younger.pt (c : Option Addr) (sGen : Int) (sKind : Int) (sN : Int) (sCardsi0 : Int) (sCardsi1 : Int) (sCardsi2 : Int) (sCardsi3 : Int) (wv : Int) (mark : Int) (H : Array Obj) (R : Value → Array Obj → Prop) : Prop :=
 ∀ (b : Nat) (H1 : Array Obj), b = H.size → H1 = H.push (.cells #[.int .i64 sGen, .int .i64 sKind, .int .i64 sN, .int .i64 sCardsi0, .int .i64 sCardsi1, .int .i64 sCardsi2, .int .i64 sCardsi3] 144) →
 card_Cards_Gen.C c wv H1 (fun v H2 => ∃ ra : Int, ∃ rb : Bool, v = .tuple #[.int .i64 ra, .bool rb] ∧ 
  if rb = true then (
   ∃ x : Int, hat H2 ((Addr.mk b 0 none).add 1) = some (.int .i64 x) ∧
   if x = 3 then (
    R (.int .i64 mark) H2)
   else
   ∃ x_2 : Int, hat H2 (Addr.mk b 0 none) = some (.int .i64 x_2) ∧
   if ra < x_2 then (
    R (.int .i64 (if ra < mark then ra else mark)) H2)
   else
   R (.int .i64 mark) H2)
  else
  R (.int .i64 mark) H2)
namespace card_Cards_younger
set_option maxRecDepth 100000 in
theorem link {c : Option Addr} {sGen : Int} {sKind : Int} {sN : Int} {sCardsi0 : Int} {sCardsi1 : Int} {sCardsi2 : Int} {sCardsi3 : Int} {wv : Int} {mark : Int} {H : Array Obj} {R : Value → Array Obj → Prop} (h : pt c sGen sKind sN sCardsi0 sCardsi1 sCardsi2 sCardsi3 wv mark H R) : C c sGen sKind sN sCardsi0 sCardsi1 sCardsi2 sCardsi3 wv mark H R := by
  refine S_enter (fn := Try.f92) (c := kk0) 33 Try.func92 (by kernel_rfl) (by kernel_rfl) (Nat.le_of_ble_eq_true (by kernel_rfl)) ?_
  intro w0 Q hQ
  unfold pt at h
  refine S_sub [(0, .pointer c), (1, .agg #[.int .i64 sGen, .int .i64 sKind, .int .i64 sN, .int .i64 sCardsi0, .int .i64 sCardsi1, .int .i64 sCardsi2, .int .i64 sCardsi3]), (2, .int .u64 wv), (3, .int .i64 mark)] (sb (by kernel_rfl)) ?_
  refine S_seq kk1 kk2 (by kernel_rfl) ?_
  refine S_region 0 (Code.ops kk1) (by kernel_rfl) ?_
  refine N_new (some 5) (fun b => .pointer (some (Addr.mk b 0 none))) (.cells #[.int .i64 sGen, .int .i64 sKind, .int .i64 sN, .int .i64 sCardsi0, .int .i64 sCardsi1, .int .i64 sCardsi2, .int .i64 sCardsi3] 144) (fun w => by kernel_rfl) ?_
  intro b H1 e1 e2
  replace h := h b H1 e1 e2
  refine ⟨[(0, .pointer c), (2, .int .u64 wv), (3, .int .i64 mark), (5, .pointer (some (Addr.mk b 0 none)))], ps (by kernel_rfl), ?_⟩
  refine N_run 1 [(0, .pointer c), (2, .int .u64 wv), (3, .int .i64 mark), (5, .pointer (some (Addr.mk b 0 none)))] (fun w => by kernel_rfl) ?_
  refine N_end (by kernel_rfl) ?_
  refine S_then ?_
  refine S_seq kk3 kk4 (by kernel_rfl) ?_
  refine S_seq kk5 kk6 (by kernel_rfl) ?_
  refine S_region 1 (Code.ops kk5) (by kernel_rfl) ?_
  refine N_run 2 [(3, .int .i64 mark), (5, .pointer (some (Addr.mk b 0 none))), (12, .pointer c), (13, .int .u64 wv)] (fun w => by kernel_rfl) ?_
  refine N_call (some 14) 52 #[.pointer c, .int .u64 wv] (fun w => by kernel_rfl) h ?_; clear h
  rintro v H2 ⟨ra, rb, rfl, h⟩
  refine ⟨[(3, .int .i64 mark), (5, .pointer (some (Addr.mk b 0 none))), (14, .tuple #[.int .i64 ra, .bool rb])], ps (by kernel_rfl), ?_⟩
  refine N_run 5 [(3, .int .i64 mark), (5, .pointer (some (Addr.mk b 0 none))), (9, .int .i64 ra), (10, .bool rb)] (fun w => by kernel_rfl) ?_
  refine N_end (by kernel_rfl) ?_
  refine S_then ?_
  refine S_seq kk7 kk8 (by kernel_rfl) ?_
  refine S_region 2 (Code.ops kk7) (by kernel_rfl) ?_
  refine N_run 2 [(3, .int .i64 mark), (5, .pointer (some (Addr.mk b 0 none))), (9, .int .i64 ra), (18, .bool rb)] (fun w => by kernel_rfl) ?_
  by_cases c3 : rb = true
  · rw [if_pos c3] at h
    have b4 : rb = true := c3
    refine N_env [(3, .int .i64 mark), (5, .pointer (some (Addr.mk b 0 none))), (9, .int .i64 ra), (18, .bool true)] (by simp only [b4, Bool.not_true, Bool.not_false]) ?_
    clear b4
    refine N_run 1 [(3, .int .i64 mark), (5, .pointer (some (Addr.mk b 0 none))), (9, .int .i64 ra), (18, .bool true), (19, .pointer (some ((Addr.mk b 0 none).add 1)))] (fun w => by kernel_rfl) ?_
    obtain ⟨x, q5, h⟩ := h
    refine N_val (some 20) (loadN 3 (.pointer (some ((Addr.mk b 0 none).add 1)))) (.int .i64 x) (fun w => by kernel_rfl) (loadN_run (loadOK_one (fun w => by kernel_rfl) q5)) [(3, .int .i64 mark), (5, .pointer (some (Addr.mk b 0 none))), (9, .int .i64 ra), (18, .bool true), (20, .int .i64 x)] (ps (by kernel_rfl)) ?_
    refine N_run 3 [(3, .int .i64 mark), (5, .pointer (some (Addr.mk b 0 none))), (9, .int .i64 ra), (23, .bool (x != 3))] (fun w => by kernel_rfl) ?_
    by_cases c6 : x = 3
    · rw [if_pos c6] at h
      have b7 : (x != 3) = false := bne_eq_false_iff_eq.mpr c6
      refine N_env [(3, .int .i64 mark), (5, .pointer (some (Addr.mk b 0 none))), (9, .int .i64 ra), (23, .bool false)] (by simp only [b7, Bool.not_true, Bool.not_false]) ?_
      clear b7
      refine N_run 5 [(3, .int .i64 mark), (9, .int .i64 ra), (28, .bool false)] (fun w => by kernel_rfl) ?_
      refine N_end (by kernel_rfl) ?_
      refine S_then ?_
      refine S_condF (.tmp 28) kk9 kk10 (by kernel_rfl) (by kernel_rfl) ?_
      refine S_skip (by kernel_rfl) ?_
      refine S_then ?_
      refine S_seq kk11 kk12 (by kernel_rfl) ?_
      refine S_region 4 (Code.ops kk11) (by kernel_rfl) ?_
      refine N_run 2 [(8, .int .i64 mark)] (fun w => by kernel_rfl) ?_
      refine N_end (by kernel_rfl) ?_
      refine S_then ?_
      refine S_ret (by kernel_rfl) ?_
      show At _ _ _ _ _ (Q .ret)
      exact S_done (fn := Try.f92) [.int .i64 mark] hQ (show ResOK _ _ _ [.tmp 8] _ from .tmp (by kernel_rfl) (.nil)) h
    · rw [if_neg c6] at h
      have b7 : (x != 3) = true := bne_iff_ne.mpr c6
      refine N_env [(3, .int .i64 mark), (5, .pointer (some (Addr.mk b 0 none))), (9, .int .i64 ra), (23, .bool true)] (by simp only [b7, Bool.not_true, Bool.not_false]) ?_
      clear b7
      refine N_run 2 [(3, .int .i64 mark), (9, .int .i64 ra), (23, .bool true), (24, .int .i64 ra), (25, .pointer (some (Addr.mk b 0 none)))] (fun w => by kernel_rfl) ?_
      obtain ⟨x_2, q8, h⟩ := h
      refine N_val (some 26) (loadN 3 (.pointer (some (Addr.mk b 0 none)))) (.int .i64 x_2) (fun w => by kernel_rfl) (loadN_run (loadOK_one (fun w => by kernel_rfl) q8)) [(3, .int .i64 mark), (9, .int .i64 ra), (23, .bool true), (24, .int .i64 ra), (26, .int .i64 x_2)] (ps (by kernel_rfl)) ?_
      refine N_run 2 [(3, .int .i64 mark), (9, .int .i64 ra), (28, .bool (decide (ra < x_2)))] (fun w => by kernel_rfl) ?_
      refine N_end (by kernel_rfl) ?_
      refine S_then ?_
      by_cases c9 : ra < x_2
      · rw [if_pos c9] at h
        have b10 : (decide (ra < x_2)) = true := decide_eq_true c9
        refine S_env [(3, .int .i64 mark), (9, .int .i64 ra), (28, .bool true)] (by simp only [b10, Bool.not_true, Bool.not_false]) ?_
        clear b10
        refine S_condT (.tmp 28) kk9 kk10 (by kernel_rfl) (by kernel_rfl) ?_
        refine S_seq kk13 kk14 (by kernel_rfl) ?_
        refine S_region 3 (Code.ops kk13) (by kernel_rfl) ?_
        refine N_run 4 [(8, .int .i64 (if ra < mark then ra else mark))] (fun w => by kernel_rfl) ?_
        refine N_end (by kernel_rfl) ?_
        refine S_then ?_
        refine S_ret (by kernel_rfl) ?_
        show At _ _ _ _ _ (Q .ret)
        exact S_done (fn := Try.f92) [.int .i64 (if ra < mark then ra else mark)] hQ (show ResOK _ _ _ [.tmp 8] _ from .tmp (by kernel_rfl) (.nil)) h
      · rw [if_neg c9] at h
        have b10 : (decide (ra < x_2)) = false := decide_eq_false c9
        refine S_env [(3, .int .i64 mark), (9, .int .i64 ra), (28, .bool false)] (by simp only [b10, Bool.not_true, Bool.not_false]) ?_
        clear b10
        refine S_condF (.tmp 28) kk9 kk10 (by kernel_rfl) (by kernel_rfl) ?_
        refine S_skip (by kernel_rfl) ?_
        refine S_then ?_
        refine S_seq kk11 kk12 (by kernel_rfl) ?_
        refine S_region 4 (Code.ops kk11) (by kernel_rfl) ?_
        refine N_run 2 [(8, .int .i64 mark)] (fun w => by kernel_rfl) ?_
        refine N_end (by kernel_rfl) ?_
        refine S_then ?_
        refine S_ret (by kernel_rfl) ?_
        show At _ _ _ _ _ (Q .ret)
        exact S_done (fn := Try.f92) [.int .i64 mark] hQ (show ResOK _ _ _ [.tmp 8] _ from .tmp (by kernel_rfl) (.nil)) h
  · rw [if_neg c3] at h
    have b4 : rb = false := eq_false_of_ne_true c3
    refine N_env [(3, .int .i64 mark), (5, .pointer (some (Addr.mk b 0 none))), (9, .int .i64 ra), (18, .bool false)] (by simp only [b4, Bool.not_true, Bool.not_false]) ?_
    clear b4
    refine N_run 10 [(3, .int .i64 mark), (9, .int .i64 ra), (28, .bool false)] (fun w => by kernel_rfl) ?_
    refine N_end (by kernel_rfl) ?_
    refine S_then ?_
    refine S_condF (.tmp 28) kk9 kk10 (by kernel_rfl) (by kernel_rfl) ?_
    refine S_skip (by kernel_rfl) ?_
    refine S_then ?_
    refine S_seq kk11 kk12 (by kernel_rfl) ?_
    refine S_region 4 (Code.ops kk11) (by kernel_rfl) ?_
    refine N_run 2 [(8, .int .i64 mark)] (fun w => by kernel_rfl) ?_
    refine N_end (by kernel_rfl) ?_
    refine S_then ?_
    refine S_ret (by kernel_rfl) ?_
    show At _ _ _ _ _ (Q .ret)
    exact S_done (fn := Try.f92) [.int .i64 mark] hQ (show ResOK _ _ _ [.tmp 8] _ from .tmp (by kernel_rfl) (.nil)) h
end card_Cards_younger

end Go.Proofs.Ytfohlkiikppefaa
