/-
 Written by a program of mine (gen.py): for functions of this translation a predicate transformer over heaps (.pt), and the proof that it is sound for the call (.link).
-/
import Derived.Test.YtillpfaabdlaiaaFnsC
set_option linter.unusedSimpArgs false
set_option linter.unusedVariables false
set_option maxHeartbeats 1000000
noncomputable section
namespace Go.Proofs.Ytillpfaabdlaiaa
open Go
/-! (*moraine/card.Cards).Gen -/
namespace card_Cards_Gen
def kk0 := Func.code Try.f16
def kk1 := Code.fa kk0
def kk2 := Code.fb kk0
def kk3 := Code.fa kk2
def kk4 := Code.fb kk2
def kk5 := Code.fa kk4
def kk6 := Code.fb kk4
def kk7 := Code.fa kk5
def kk8 := Code.fb kk5
def kk9 := Code.fa kk8
def kk10 := Code.fb kk8
def kk11 := Code.fa kk9
def kk12 := Code.fb kk9
def kk13 := Code.fa kk6
def kk14 := Code.fb kk6
def kk15 := Code.fa kk14
def kk16 := Code.fb kk14
end card_Cards_Gen
def card_Cards_Gen.pt (c : Option Addr) (wv : Int) (H : Array Obj) (R : Value → Array Obj → Prop) : Prop :=
 word_Addr.C wv H (fun v H1 => ∃ ra : Int, ∃ rb : Bool, v = .tuple #[.int .i64 ra, .bool rb] ∧ 
 card_Cards_none.C c H1 (fun r H2 => ∃ x : Bool, r = .bool x ∧ 
 if x = true then (
 R (.tuple #[.int .i64 0, .bool false]) H2)
 else
 if rb = true then (
 word_Tag.C wv H2 (fun s H3 => ∃ l : Int, s = .int .i64 l ∧ 
 if l = 6 then (
 R (.tuple #[.int .i64 0, .bool false]) H3)
 else
 ∃ cA : Addr, c = some cA ∧
 ∃ o : Option Addr, hat H3 cA = some (.pointer o) ∧
 ∃ p : Addr, o = some p ∧
 ∃ n : Option Addr, hat H3 p = some (.pointer n) ∧
 seg_Mem_Seg.C n (IntKind.wrap .i64 (Int.tdiv ra 64)) H3 (fun q H4 => ∃ j : Int, ∃ g : Int, ∃ k : Int, ∃ d : Int, ∃ a : Int, ∃ e : Int, ∃ f : Int, ∃ i : Bool, q = .tuple #[.agg #[.int .i64 j, .int .i64 g, .int .i64 k, .int .i64 d, .int .i64 a, .int .i64 e, .int .i64 f], .bool i] ∧ 
 ∀ (b : Nat) (H5 : Array Obj), b = H4.size → H5 = H4.push (.cells #[.int .i64 0, .int .i64 0, .int .i64 0, .int .i64 0, .int .i64 0, .int .i64 0, .int .i64 0] 83) →
 (CanPuts H5 (Addr.mk b 0 none) 0 7) ∧ ∀ H6 : Array Obj, H6 = hputs H5 (Addr.mk b 0 none) [.int .i64 j, .int .i64 g, .int .i64 k, .int .i64 d, .int .i64 a, .int .i64 e, .int .i64 f] 0 →
 ∃ m : Int, hat H6 (Addr.mk b 0 none) = some (.int .i64 m) ∧
 R (.tuple #[.int .i64 m, .bool i]) H6)))
 else
 R (.tuple #[.int .i64 0, .bool false]) H2))
namespace card_Cards_Gen
set_option maxRecDepth 100000 in
theorem link {c : Option Addr} {wv : Int} {H : Array Obj} {R : Value → Array Obj → Prop} (h : pt c wv H R) : C c wv H R := by
 refine S_enter (fn := Try.f16) (c := kk0) 41 Try.func16 (by kernel_rfl) (by kernel_rfl) (Nat.le_of_ble_eq_true (by kernel_rfl)) ?_
 intro w0 Q hQ
 unfold pt at h
 refine T_su [(0, vp c), (1, vu wv)] ?_
 refine T_sr 0 kk1 kk2 ?_
 refine T_ne 2 [(0, vp c), (1, vu wv)] ?_
 refine T_sr 1 kk3 kk4 ?_
 refine T_n 1 [(0, vp c), (1, vu wv), (10, vu wv)] ?_
 refine N_call (some 11) 33 #[vu wv] (fun _=>by kernel_rfl) h ?_; clear h
 rintro v H1 ⟨ra, rb, rfl, h⟩
 refine ⟨[(0, vp c), (1, vu wv), (11, .tuple #[vi ra, .bool rb])], pk, ?_⟩
 refine T_ne 5 [(0, vp c), (1, vu wv), (6, vi ra), (7, .bool rb)] ?_
 refine T_s kk5 kk6 ?_
 refine T_sr 2 kk7 kk8 ?_
 refine T_n 1 [(0, vp c), (1, vu wv), (6, vi ra), (7, .bool rb), (14, vp c)] ?_
 refine N_call (some 15) 34 #[vp c] (fun _=>by kernel_rfl) h ?_; clear h
 rintro r H2 ⟨x, rfl, h⟩
 refine ⟨[(0, vp c), (1, vu wv), (6, vi ra), (7, .bool rb), (15, .bool x)], pk, ?_⟩
 refine T_n 1 [(0, vp c), (1, vu wv), (6, vi ra), (7, .bool rb), (16, .bool x)] ?_
 by_cases c1 : x = true
 ·rw [if_pos c1] at h
  have b2 : x = true := c1
  refine N_env [(0, vp c), (1, vu wv), (6, vi ra), (7, .bool rb), (16, .bool true)] (by simp only [b2, Bool.not_true, Bool.not_false]) ?_
  clear b2
  refine T_ne 8 [(0, vp c), (6, vi ra), (24, .bool true)] ?_
  refine T_t 24 kk9 kk10 ?_
  refine T_sr 3 kk11 kk12 ?_
  refine T_ne 2 [(4, vi 0), (5, .bool false)] ?_
  refine S_ret (by kernel_rfl) ?_
  show At _ _ _ _ _ (Q .ret)
  exact S_done (fn := Try.f16) [vi 0, .bool false] hQ (show ResOK _ _ _ [.tmp 4, .tmp 5] _ from .tmp (by kernel_rfl) (.tmp (by kernel_rfl) (.nil))) h
 ·rw [if_neg c1] at h
  have b2 : x = false := eq_false_of_ne_true c1
  refine N_env [(0, vp c), (1, vu wv), (6, vi ra), (7, .bool rb), (16, .bool false)] (by simp only [b2, Bool.not_true, Bool.not_false]) ?_
  clear b2
  refine T_n 4 [(0, vp c), (1, vu wv), (6, vi ra), (20, .bool (!rb))] ?_
  by_cases c3 : rb = true
  ·rw [if_pos c3] at h
   have b4 : (!rb) = false := congrArg Bool.not (c3)
   have b42 : rb = true := c3
   refine N_env [(0, vp c), (1, vu wv), (6, vi ra), (20, .bool false)] (by simp only [b4, b42, Bool.not_true, Bool.not_false]) ?_
   clear b4 b42
   refine T_n 1 [(0, vp c), (6, vi ra), (20, .bool false), (21, vu wv)] ?_
   refine N_call (some 22) 35 #[vu wv] (fun _=>by kernel_rfl) h ?_; clear h
   rintro s H3 ⟨l, rfl, h⟩
   refine ⟨[(0, vp c), (6, vi ra), (20, .bool false), (22, vi l)], pk, ?_⟩
   refine T_ne 2 [(0, vp c), (6, vi ra), (24, .bool (l == 6))] ?_
   by_cases c5 : l = 6
   ·rw [if_pos c5] at h
    have b6 : (l == 6) = true := beq_iff_eq.mpr c5
    refine S_env [(0, vp c), (6, vi ra), (24, .bool true)] (by simp only [b6, Bool.not_true, Bool.not_false]) ?_
    clear b6
    refine T_t 24 kk9 kk10 ?_
    refine T_sr 3 kk11 kk12 ?_
    refine T_ne 2 [(4, vi 0), (5, .bool false)] ?_
    refine S_ret (by kernel_rfl) ?_
    show At _ _ _ _ _ (Q .ret)
    exact S_done (fn := Try.f16) [vi 0, .bool false] hQ (show ResOK _ _ _ [.tmp 4, .tmp 5] _ from .tmp (by kernel_rfl) (.tmp (by kernel_rfl) (.nil))) h
   ·rw [if_neg c5] at h
    have b6 : (l == 6) = false := beq_eq_false_iff_ne.mpr c5
    refine S_env [(0, vp c), (6, vi ra), (24, .bool false)] (by simp only [b6, Bool.not_true, Bool.not_false]) ?_
    clear b6
    refine T_f 24 kk9 kk10 ?_
    refine T_kt ?_
    refine T_sr 4 kk13 kk14 ?_
    refine T_n 1 [(6, vi ra), (26, vp c)] ?_
    obtain ⟨cA, rfl, h⟩ := h
    refine T_n 2 [(6, vi ra), (28, vp (some cA))] ?_
    obtain ⟨o, q7, h⟩ := h
    refine T_l (some 29) 58 q7 [(6, vi ra), (29, vp o)] ?_
    obtain ⟨p, rfl, h⟩ := h
    refine T_n 2 [(6, vi ra), (31, vp (some p))] ?_
    obtain ⟨n, q8, h⟩ := h
    refine T_l (some 32) 86 q8 [(6, vi ra), (32, vp n)] ?_
    refine T_n 2 [(32, vp n), (34, vi (IntKind.wrap .i64 (Int.tdiv ra 64)))] ?_
    refine N_call (some 35) 36 #[vp n, vi (IntKind.wrap .i64 (Int.tdiv ra 64))] (fun _=>by kernel_rfl) h ?_; clear h
    rintro q H4 ⟨j, g, k, d, a, e, f, i, rfl, h⟩
    refine ⟨[(35, .tuple #[.agg #[vi j, vi g, vi k, vi d, vi a, vi e, vi f], .bool i])], pk, ?_⟩
    refine T_n 3 [(36, .agg #[vi j, vi g, vi k, vi d, vi a, vi e, vi f]), (37, .bool i)] ?_
    refine N_new (some 8) (fun b => vp (pa b)) (.cells #[vi 0, vi 0, vi 0, vi 0, vi 0, vi 0, vi 0] 83) (fun _=>by kernel_rfl) ?_
    intro b H5 e9 e10
    replace h := h b H5 e9 e10
    refine ⟨[(8, vp (pa b)), (36, .agg #[vi j, vi g, vi k, vi d, vi a, vi e, vi f]), (37, .bool i)], pk, ?_⟩
    obtain ⟨q12, h⟩ := h
    refine N_skipop none (storeN 83 (vp (pa b)) (.agg #[vi j, vi g, vi k, vi d, vi a, vi e, vi f])) (fun Hz => Hz = hputs H5 (Addr.mk b 0 none) [vi j, vi g, vi k, vi d, vi a, vi e, vi f] 0) (fun _=>by kernel_rfl) (ss_store [vi j, vi g, vi k, vi d, vi a, vi e, vi f] 7 (by kernel_rfl) (by kernel_rfl) (fun _=>by kernel_rfl) (by kernel_rfl) q12) ?_
    intro H6 e11
    replace h := h H6 e11
    refine ⟨[(8, vp (pa b)), (37, .bool i)], pk, ?_⟩
    refine T_ne 1 [(7, .bool i), (8, vp (pa b))] ?_
    refine T_sr 5 kk15 kk16 ?_
    refine T_n 1 [(7, .bool i), (38, vp (pa b))] ?_
    obtain ⟨m, q13, h⟩ := h
    refine T_l (some 39) 3 q13 [(7, .bool i), (39, vi m)] ?_
    refine T_ne 3 [(4, vi m), (5, .bool i)] ?_
    refine S_ret (by kernel_rfl) ?_
    show At _ _ _ _ _ (Q .ret)
    exact S_done (fn := Try.f16) [vi m, .bool i] hQ (show ResOK _ _ _ [.tmp 4, .tmp 5] _ from .tmp (by kernel_rfl) (.tmp (by kernel_rfl) (.nil))) h
  ·rw [if_neg c3] at h
   have b4 : (!rb) = true := congrArg Bool.not (eq_false_of_ne_true c3)
   have b42 : rb = false := eq_false_of_ne_true c3
   refine N_env [(0, vp c), (1, vu wv), (6, vi ra), (20, .bool true)] (by simp only [b4, b42, Bool.not_true, Bool.not_false]) ?_
   clear b4 b42
   refine T_ne 4 [(0, vp c), (6, vi ra), (24, .bool true)] ?_
   refine T_t 24 kk9 kk10 ?_
   refine T_sr 3 kk11 kk12 ?_
   refine T_ne 2 [(4, vi 0), (5, .bool false)] ?_
   refine S_ret (by kernel_rfl) ?_
   show At _ _ _ _ _ (Q .ret)
   exact S_done (fn := Try.f16) [vi 0, .bool false] hQ (show ResOK _ _ _ [.tmp 4, .tmp 5] _ from .tmp (by kernel_rfl) (.tmp (by kernel_rfl) (.nil))) h
end card_Cards_Gen

/-! moraine/card.New -/
namespace card_New
def kk0 := Func.code Try.f18
def kk1 := Code.fa kk0
def kk2 := Code.fb kk0
def kk3 := Code.fa kk2
def kk4 := Code.fb kk2
def kk5 := Code.fa kk4
def kk6 := Code.fb kk4
def kk7 := Code.fa kk5
def kk8 := Code.fb kk5
def kk9 := Code.fa kk8
def kk10 := Code.fb kk8
def kk11 := Code.fa kk6
def kk12 := Code.fb kk6
def kk13 := Code.fa kk9
def kk14 := Code.fb kk9
end card_New
def card_New.pt (limit : Int) (H : Array Obj) (R : Value → Array Obj → Prop) : Prop :=
 space_New.C limit H (fun v H1 => ∃ ra : Option Addr, ∃ rb : Int, v = .tuple #[.pointer ra, .int .i64 rb] ∧ 
 if rb = 0 then (
 ∀ (b : Nat) (H2 : Array Obj), b = H1.size → H2 = H1.push (.cells #[.pointer ra] 60) →
 R (.tuple #[.pointer (some (Addr.mk b 0 none)), .int .i64 0]) H2)
 else
 R (.tuple #[.pointer none, .int .i64 rb]) H1)
namespace card_New
set_option maxRecDepth 100000 in
theorem link {limit : Int} {H : Array Obj} {R : Value → Array Obj → Prop} (h : pt limit H R) : C limit H R := by
 refine S_enter (fn := Try.f18) (c := kk0) 17 Try.func18 (by kernel_rfl) (by kernel_rfl) (Nat.le_of_ble_eq_true (by kernel_rfl)) ?_
 intro w0 Q hQ
 unfold pt at h
 refine T_su [(0, vi limit)] ?_
 refine T_sr 0 kk1 kk2 ?_
 refine T_ne 2 [(0, vi limit)] ?_
 refine T_sr 1 kk3 kk4 ?_
 refine T_n 1 [(7, vi limit)] ?_
 refine N_call (some 8) 39 #[vi limit] (fun _=>by kernel_rfl) h ?_; clear h
 rintro v H1 ⟨ra, rb, rfl, h⟩
 refine ⟨[(8, .tuple #[vp ra, vi rb])], pk, ?_⟩
 refine T_ne 5 [(4, vp ra), (5, vi rb)] ?_
 refine T_s kk5 kk6 ?_
 refine T_sr 2 kk7 kk8 ?_
 refine T_ne 2 [(4, vp ra), (5, vi rb), (12, .bool (rb != 0))] ?_
 by_cases c1 : rb = 0
 ·rw [if_pos c1] at h
  have b2 : (rb != 0) = false := bne_eq_false_iff_eq.mpr c1
  refine S_env [(4, vp ra), (5, vi rb), (12, .bool false)] (by simp only [b2, Bool.not_true, Bool.not_false]) ?_
  clear b2
  refine T_f 12 kk9 kk10 ?_
  refine T_kt ?_
  refine T_sr 4 kk11 kk12 ?_
  refine T_n 2 [(15, .agg #[vp ra])] ?_
  refine N_new (some 16) (fun b => vp (pa b)) (.cells #[vp ra] 60) (fun _=>by kernel_rfl) ?_
  intro b H2 e3 e4
  replace h := h b H2 e3 e4
  refine ⟨[(16, vp (pa b))], pk, ?_⟩
  refine T_ne 2 [(2, vp (pa b)), (3, vi 0)] ?_
  refine S_ret (by kernel_rfl) ?_
  show At _ _ _ _ _ (Q .ret)
  exact S_done (fn := Try.f18) [vp (pa b), vi 0] hQ (show ResOK _ _ _ [.tmp 2, .tmp 3] _ from .tmp (by kernel_rfl) (.tmp (by kernel_rfl) (.nil))) h
 ·rw [if_neg c1] at h
  have b2 : (rb != 0) = true := bne_iff_ne.mpr c1
  refine S_env [(4, vp ra), (5, vi rb), (12, .bool true)] (by simp only [b2, Bool.not_true, Bool.not_false]) ?_
  clear b2
  refine T_t 12 kk9 kk10 ?_
  refine T_sr 3 kk13 kk14 ?_
  refine T_ne 3 [(2, vp none), (3, vi rb)] ?_
  refine S_ret (by kernel_rfl) ?_
  show At _ _ _ _ _ (Q .ret)
  exact S_done (fn := Try.f18) [vp none, vi rb] hQ (show ResOK _ _ _ [.tmp 2, .tmp 3] _ from .tmp (by kernel_rfl) (.tmp (by kernel_rfl) (.nil))) h
end card_New

/-! (*moraine/card.Cards).none -/
namespace card_Cards_none
def kk0 := Func.code Try.f34
def kk1 := Code.fa kk0
def kk2 := Code.fb kk0
def kk3 := Code.fa kk2
def kk4 := Code.fb kk2
end card_Cards_none
def card_Cards_none.pt (c : Option Addr) (H : Array Obj) (R : Value → Array Obj → Prop) : Prop :=
 onPtr c (
 R (.bool true) H) (fun cA =>
 ∃ x : Option Addr, hat H cA = some (.pointer x) ∧
 onPtr x (
 R (.bool true) H) (fun xA =>
 ∃ b : Option Addr, hat H cA = some (.pointer b) ∧
 ∃ d : Addr, b = some d ∧
 ∃ a : Option Addr, hat H d = some (.pointer a) ∧
 onPtr a (
 R (.bool true) H) (fun e =>
 R (.bool false) H)))
namespace card_Cards_none
set_option maxRecDepth 100000 in
theorem link {c : Option Addr} {H : Array Obj} {R : Value → Array Obj → Prop} (h : pt c H R) : C c H R := by
 refine S_enter (fn := Try.f34) (c := kk0) 22 Try.func34 (by kernel_rfl) (by kernel_rfl) (Nat.le_of_ble_eq_true (by kernel_rfl)) ?_
 intro w0 Q hQ
 unfold pt at h
 refine T_su [(0, vp c)] ?_
 refine T_sr 0 kk1 kk2 ?_
 refine T_ne 1 [(0, vp c)] ?_
 refine T_sr 1 kk3 kk4 ?_
 refine T_n 1 [(0, vp c), (3, vp c)] ?_
 rcases c with _ | cA
 ·rw [onPtr_none] at h
  refine T_ne 19 [(2, .bool true)] ?_
  refine S_ret (by kernel_rfl) ?_
  show At _ _ _ _ _ (Q .ret)
  exact S_done (fn := Try.f34) [.bool true] hQ (show ResOK _ _ _ [.tmp 2] _ from .tmp (by kernel_rfl) (.nil)) h
 ·rw [onPtr_some] at h
  refine T_n 5 [(0, vp (some cA)), (5, .bool false), (8, vp (some cA))] ?_
  obtain ⟨x, q1, h⟩ := h
  refine T_l (some 9) 58 q1 [(0, vp (some cA)), (5, .bool false), (9, vp x)] ?_
  rcases x with _ | xA
  ·rw [onPtr_none] at h
   refine T_ne 13 [(2, .bool true)] ?_
   refine S_ret (by kernel_rfl) ?_
   show At _ _ _ _ _ (Q .ret)
   exact S_done (fn := Try.f34) [.bool true] hQ (show ResOK _ _ _ [.tmp 2] _ from .tmp (by kernel_rfl) (.nil)) h
  ·rw [onPtr_some] at h
   refine T_n 6 [(12, .bool false), (15, vp (some cA))] ?_
   obtain ⟨b, q2, h⟩ := h
   refine T_l (some 16) 58 q2 [(12, .bool false), (16, vp b)] ?_
   obtain ⟨d, rfl, h⟩ := h
   refine T_n 2 [(12, .bool false), (18, vp (some d))] ?_
   obtain ⟨a, q3, h⟩ := h
   refine T_l (some 19) 86 q3 [(12, .bool false), (19, vp a)] ?_
   rcases a with _ | e
   ·rw [onPtr_none] at h
    refine T_ne 3 [(2, .bool true)] ?_
    refine S_ret (by kernel_rfl) ?_
    show At _ _ _ _ _ (Q .ret)
    exact S_done (fn := Try.f34) [.bool true] hQ (show ResOK _ _ _ [.tmp 2] _ from .tmp (by kernel_rfl) (.nil)) h
   ·rw [onPtr_some] at h
    refine T_ne 3 [(2, .bool false)] ?_
    refine S_ret (by kernel_rfl) ?_
    show At _ _ _ _ _ (Q .ret)
    exact S_done (fn := Try.f34) [.bool false] hQ (show ResOK _ _ _ [.tmp 2] _ from .tmp (by kernel_rfl) (.nil)) h
end card_Cards_none

end Go.Proofs.Ytillpfaabdlaiaa
