/-
 Written by a program of mine (gen.py): for functions of this translation a predicate transformer over heaps (.pt), and the proof that it is sound for the call (.link).
-/
import Derived.Test.YthlohokmnajpoaaGreatFnsC
set_option linter.unusedSimpArgs false
set_option linter.unusedVariables false
set_option maxHeartbeats 1000000
noncomputable section
namespace Go.Proofs.YthlohokmnajpoaaGreat
open Go
/-! moraine/obj.New -/
namespace obj_New
def kk0 := Func.code Tryz.f6
def kk1 := Code.fa kk0
def kk2 := Code.fb kk0
def kk3 := Code.fa kk2
def kk4 := Code.fb kk2
def kk5 := Code.fa kk4
def kk6 := Code.fb kk4
def kk7 := Code.fa kk5
def kk8 := Code.fb kk5
def kk9 := Code.fa kk8
def kk10 := Code.fb kk8
def kk11 := Code.fa kk6
def kk12 := Code.fb kk6
def kk13 := Code.fa kk9
def kk14 := Code.fb kk9
end obj_New
def obj_New.pt (limit : Int) (H : Array Obj) (R : Value → Array Obj → Prop) : Prop :=
 card_New.C limit H (fun v H1 => ∃ ra : Option Addr, ∃ rb : Int, v = .tuple #[.pointer ra, .int .i64 rb] ∧ 
 if rb = 0 then (
 ∀ (b : Nat) (H2 : Array Obj), b = H1.size → H2 = H1.push (.cells #[.pointer ra, .slice none 0 0, .slice none 0 0, .int .u64 0] 33) →
 R (.tuple #[.pointer (some (Addr.mk b 0 none)), .int .i64 0]) H2)
 else
 R (.tuple #[.pointer none, .int .i64 rb]) H1)
namespace obj_New
set_option maxRecDepth 100000 in
theorem link {limit : Int} {H : Array Obj} {R : Value → Array Obj → Prop} (h : pt limit H R) : C limit H R := by
 refine S_enter (fn := Tryz.f6) (c := kk0) 17 Tryz.func6 (by kernel_rfl) (by kernel_rfl) (Nat.le_of_ble_eq_true (by kernel_rfl)) ?_
 intro w0 Q hQ
 unfold pt at h
 refine S_sub [(0, .int .i64 limit)] (sb (by kernel_rfl)) ?_
 refine T_sr 0 kk1 kk2 ?_
 refine N_run 2 [(0, .int .i64 limit)] (fun _=>by kernel_rfl) ?_
 refine T_e ?_
 refine T_sr 1 kk3 kk4 ?_
 refine N_run 1 [(7, .int .i64 limit)] (fun _=>by kernel_rfl) ?_
 refine N_call (some 8) 25 #[.int .i64 limit] (fun _=>by kernel_rfl) h ?_; clear h
 rintro v H1 ⟨ra, rb, rfl, h⟩
 refine ⟨[(8, .tuple #[.pointer ra, .int .i64 rb])], ps (by kernel_rfl), ?_⟩
 refine N_run 5 [(4, .pointer ra), (5, .int .i64 rb)] (fun _=>by kernel_rfl) ?_
 refine T_e ?_
 refine S_seq kk5 kk6 (by kernel_rfl) ?_
 refine T_sr 2 kk7 kk8 ?_
 refine N_run 2 [(4, .pointer ra), (5, .int .i64 rb), (12, .bool (rb != 0))] (fun _=>by kernel_rfl) ?_
 refine T_e ?_
 by_cases c1 : rb = 0
 ·rw [if_pos c1] at h
  have b2 : (rb != 0) = false := bne_eq_false_iff_eq.mpr c1
  refine S_env [(4, .pointer ra), (5, .int .i64 rb), (12, .bool false)] (by simp only [b2, Bool.not_true, Bool.not_false]) ?_
  clear b2
  refine S_condF (.tmp 12) kk9 kk10 (by kernel_rfl) (by kernel_rfl) ?_
  refine S_skip (by kernel_rfl) ?_
  refine S_then ?_
  refine T_sr 4 kk11 kk12 ?_
  refine N_run 2 [(15, .agg #[.pointer ra, .slice none 0 0, .slice none 0 0, .int .u64 0])] (fun _=>by kernel_rfl) ?_
  refine N_new (some 16) (fun b => .pointer (some (Addr.mk b 0 none))) (.cells #[.pointer ra, .slice none 0 0, .slice none 0 0, .int .u64 0] 33) (fun _=>by kernel_rfl) ?_
  intro b H2 e3 e4
  replace h := h b H2 e3 e4
  refine ⟨[(16, .pointer (some (Addr.mk b 0 none)))], ps (by kernel_rfl), ?_⟩
  refine N_run 2 [(2, .pointer (some (Addr.mk b 0 none))), (3, .int .i64 0)] (fun _=>by kernel_rfl) ?_
  refine T_e ?_
  refine S_ret (by kernel_rfl) ?_
  show At _ _ _ _ _ (Q .ret)
  exact S_done (fn := Tryz.f6) [.pointer (some (Addr.mk b 0 none)), .int .i64 0] hQ (show ResOK _ _ _ [.tmp 2, .tmp 3] _ from .tmp (by kernel_rfl) (.tmp (by kernel_rfl) (.nil))) h
 ·rw [if_neg c1] at h
  have b2 : (rb != 0) = true := bne_iff_ne.mpr c1
  refine S_env [(4, .pointer ra), (5, .int .i64 rb), (12, .bool true)] (by simp only [b2, Bool.not_true, Bool.not_false]) ?_
  clear b2
  refine S_condT (.tmp 12) kk9 kk10 (by kernel_rfl) (by kernel_rfl) ?_
  refine T_sr 3 kk13 kk14 ?_
  refine N_run 3 [(2, .pointer none), (3, .int .i64 rb)] (fun _=>by kernel_rfl) ?_
  refine T_e ?_
  refine S_ret (by kernel_rfl) ?_
  show At _ _ _ _ _ (Q .ret)
  exact S_done (fn := Tryz.f6) [.pointer none, .int .i64 rb] hQ (show ResOK _ _ _ [.tmp 2, .tmp 3] _ from .tmp (by kernel_rfl) (.tmp (by kernel_rfl) (.nil))) h
end obj_New

/-! (*moraine/obj.Heap).put -/
namespace obj_Heap_put
def kk0 := Func.code Tryz.f31
def kk1 := Code.fa kk0
def kk2 := Code.fb kk0
def kk3 := Code.fa kk2
def kk4 := Code.fb kk2
def kk5 := Code.fa kk3
def kk6 := Code.fb kk3
def kk7 := Code.fa kk6
def kk8 := Code.fb kk6
def kk9 := Code.fa kk7
def kk10 := Code.fb kk7
def kk11 := Code.fa kk4
def kk12 := Code.fb kk4
def kk13 := Code.fa kk12
def kk14 := Code.fb kk12
def kk15 := Code.fa kk13
def kk16 := Code.fb kk13
def kk17 := Code.fa kk16
def kk18 := Code.fb kk16
def kk19 := Code.fa kk14
def kk20 := Code.fb kk14
def kk21 := Code.fa kk19
def kk22 := Code.fb kk19
def kk23 := Code.fa kk22
def kk24 := Code.fa kk23
def kk25 := Code.fa kk24
def kk26 := Code.fb kk24
def kk27 := Code.fa kk26
def kk28 := Code.fb kk26
def kk29 := Code.fa kk27
def kk30 := Code.fb kk27
def kk31 := Code.fa kk28
def kk32 := Code.fb kk28
def kk33 := Code.fa kk31
def kk34 := Code.fa kk33
def kk35 := Code.fb kk33
def kk36 := Code.fa kk20
def kk37 := Code.fb kk20
def kk38 := Code.fa kk17
def kk39 := Code.fb kk17
end obj_Heap_put
def obj_Heap_put.pt (hv : Option Addr) (kind : Int) (tag : Int) (lB : Option Addr) (lN : Nat) (lC : Nat) (H : Array Obj) (R : Value → Array Obj → Prop) : Prop :=
 obj_Heap_none.C hv H (fun v H1 => ∃ x : Bool, v = .bool x ∧ 
 if x = true then (
 R (.tuple #[.int .u64 0, .int .i64 2]) H1)
 else
 ∃ hvA : Addr, hv = some hvA ∧
 ∃ x_2 : Option Addr, hat H1 hvA = some (.pointer x_2) ∧
 ∃ x2A : Addr, x_2 = some x2A ∧
 ∃ x_3 : Option Addr, hat H1 x2A = some (.pointer x_3) ∧
 space_Space_Alloc.C x_3 0 kind (lN : Int) H1 (fun v_2 H2 => ∃ ra : Int, ∃ rb : Int, v_2 = .tuple #[.int .i64 ra, .int .i64 rb] ∧ 
 if rb = 0 then (
 ∃ (I25 : Int → Array Obj → Prop) (m25 : Int → Array Obj → Nat), I25 0 H2 ∧ ∀ (s35 : Int) (H3 : Array Obj), I25 s35 H3 →
 if s35 < (lN : Int) then (
 ∃ lBA : Addr, lB = some lBA ∧
 ((0 : Int) ≤ s35 ∧ s35 < (lN : Int)) ∧
 ∃ x_4 : Int, hat H3 (lBA.add (Int.toNat s35 * 1)) = some (.int .u64 x_4) ∧
 ∃ x_5 : Option Addr, hat H3 hvA = some (.pointer x_5) ∧
 ∃ x5A : Addr, x_5 = some x5A ∧
 ∃ x_6 : Option Addr, hat H3 x5A = some (.pointer x_6) ∧
 ∃ x6A : Addr, x_6 = some x6A ∧
 ∃ x_7 : Option Addr, hat H3 x6A = some (.pointer x_7) ∧
 seg_Mem_Write.C x_7 (IntKind.wrap .i64 (ra + s35)) x_4 H3 (fun v_3 H4 => ∃ x_8 : Int, v_3 = .int .i64 x_8 ∧ 
 (I25 (IntKind.wrap .i64 (s35 + 1)) H4 ∧ m25 (IntKind.wrap .i64 (s35 + 1)) H4 < m25 s35 H3)))
 else
 word_At.C tag ra H3 (fun v_4 H5 => ∃ ra_2 : Int, ∃ rb_2 : Int, v_4 = .tuple #[.int .u64 ra_2, .int .i64 rb_2] ∧ 
 R (.tuple #[.int .u64 ra_2, .int .i64 rb_2]) H5))
 else
 R (.tuple #[.int .u64 0, .int .i64 rb]) H2))
namespace obj_Heap_put
set_option maxRecDepth 100000 in
theorem link {hv : Option Addr} {kind : Int} {tag : Int} {lB : Option Addr} {lN : Nat} {lC : Nat} {H : Array Obj} {R : Value → Array Obj → Prop} (h : pt hv kind tag lB lN lC H R) : C hv kind tag lB lN lC H R := by
 refine S_enter (fn := Tryz.f31) (c := kk0) 61 Tryz.func31 (by kernel_rfl) (by kernel_rfl) (Nat.le_of_ble_eq_true (by kernel_rfl)) ?_
 intro w0 Q hQ
 unfold pt at h
 refine S_sub [(0, .pointer hv), (1, .int .i64 kind), (2, .int .i64 tag), (3, .slice lB lN lC)] (sb (by kernel_rfl)) ?_
 refine T_sr 0 kk1 kk2 ?_
 refine N_run 2 [(0, .pointer hv), (1, .int .i64 kind), (2, .int .i64 tag), (3, .slice lB lN lC)] (fun _=>by kernel_rfl) ?_
 refine T_e ?_
 refine S_seq kk3 kk4 (by kernel_rfl) ?_
 refine T_sr 1 kk5 kk6 ?_
 refine N_run 1 [(0, .pointer hv), (1, .int .i64 kind), (2, .int .i64 tag), (3, .slice lB lN lC), (14, .pointer hv)] (fun _=>by kernel_rfl) ?_
 refine N_call (some 15) 52 #[.pointer hv] (fun _=>by kernel_rfl) h ?_; clear h
 rintro v H1 ⟨x, rfl, h⟩
 refine ⟨[(0, .pointer hv), (1, .int .i64 kind), (2, .int .i64 tag), (3, .slice lB lN lC), (15, .bool x)], ps (by kernel_rfl), ?_⟩
 refine T_e ?_
 by_cases c1 : x = true
 ·rw [if_pos c1] at h
  have b2 : x = true := c1
  refine S_env [(0, .pointer hv), (1, .int .i64 kind), (2, .int .i64 tag), (3, .slice lB lN lC), (15, .bool true)] (by simp only [b2, Bool.not_true, Bool.not_false]) ?_
  clear b2
  refine S_condT (.tmp 15) kk7 kk8 (by kernel_rfl) (by kernel_rfl) ?_
  refine T_sr 2 kk9 kk10 ?_
  refine N_run 2 [(8, .int .u64 0), (9, .int .i64 2)] (fun _=>by kernel_rfl) ?_
  refine T_e ?_
  refine S_ret (by kernel_rfl) ?_
  show At _ _ _ _ _ (Q .ret)
  exact S_done (fn := Tryz.f31) [.int .u64 0, .int .i64 2] hQ (show ResOK _ _ _ [.tmp 8, .tmp 9] _ from .tmp (by kernel_rfl) (.tmp (by kernel_rfl) (.nil))) h
 ·rw [if_neg c1] at h
  have b2 : x = false := eq_false_of_ne_true c1
  refine S_env [(0, .pointer hv), (1, .int .i64 kind), (2, .int .i64 tag), (3, .slice lB lN lC), (15, .bool false)] (by simp only [b2, Bool.not_true, Bool.not_false]) ?_
  clear b2
  refine S_condF (.tmp 15) kk7 kk8 (by kernel_rfl) (by kernel_rfl) ?_
  refine S_skip (by kernel_rfl) ?_
  refine S_then ?_
  refine T_sr 3 kk11 kk12 ?_
  refine N_run 1 [(0, .pointer hv), (1, .int .i64 kind), (2, .int .i64 tag), (3, .slice lB lN lC), (17, .pointer hv)] (fun _=>by kernel_rfl) ?_
  obtain ⟨hvA, rfl, h⟩ := h
  refine N_run 2 [(0, .pointer (some hvA)), (1, .int .i64 kind), (2, .int .i64 tag), (3, .slice lB lN lC), (19, .pointer (some hvA))] (fun _=>by kernel_rfl) ?_
  obtain ⟨x_2, q3, h⟩ := h
  refine N_val (some 20) (loadN 30 (.pointer (some hvA))) (.pointer x_2) (fun _=>by kernel_rfl) (loadN_run (loadOK_one (fun _=>by kernel_rfl) q3)) [(0, .pointer (some hvA)), (1, .int .i64 kind), (2, .int .i64 tag), (3, .slice lB lN lC), (20, .pointer x_2)] (ps (by kernel_rfl)) ?_
  obtain ⟨x2A, rfl, h⟩ := h
  refine N_run 2 [(0, .pointer (some hvA)), (1, .int .i64 kind), (2, .int .i64 tag), (3, .slice lB lN lC), (22, .pointer (some x2A))] (fun _=>by kernel_rfl) ?_
  obtain ⟨x_3, q4, h⟩ := h
  refine N_val (some 23) (loadN 39 (.pointer (some x2A))) (.pointer x_3) (fun _=>by kernel_rfl) (loadN_run (loadOK_one (fun _=>by kernel_rfl) q4)) [(0, .pointer (some hvA)), (1, .int .i64 kind), (2, .int .i64 tag), (3, .slice lB lN lC), (23, .pointer x_3)] (ps (by kernel_rfl)) ?_
  refine N_run 3 [(0, .pointer (some hvA)), (2, .int .i64 tag), (3, .slice lB lN lC), (23, .pointer x_3), (24, .int .i64 kind), (26, .int .i64 (lN : Int))] (fun _=>by kernel_rfl) ?_
  refine N_call (some 27) 53 #[.pointer x_3, .int .i64 0, .int .i64 kind, .int .i64 (lN : Int)] (fun _=>by kernel_rfl) h ?_; clear h
  rintro v_2 H2 ⟨ra, rb, rfl, h⟩
  refine ⟨[(0, .pointer (some hvA)), (2, .int .i64 tag), (3, .slice lB lN lC), (27, .tuple #[.int .i64 ra, .int .i64 rb])], ps (by kernel_rfl), ?_⟩
  refine N_run 5 [(0, .pointer (some hvA)), (2, .int .i64 tag), (3, .slice lB lN lC), (10, .int .i64 ra), (11, .int .i64 rb)] (fun _=>by kernel_rfl) ?_
  refine T_e ?_
  refine S_seq kk13 kk14 (by kernel_rfl) ?_
  refine T_sr 4 kk15 kk16 ?_
  refine N_run 2 [(0, .pointer (some hvA)), (2, .int .i64 tag), (3, .slice lB lN lC), (10, .int .i64 ra), (11, .int .i64 rb), (31, .bool (rb != 0))] (fun _=>by kernel_rfl) ?_
  refine T_e ?_
  by_cases c5 : rb = 0
  ·rw [if_pos c5] at h
   have b6 : (rb != 0) = false := bne_eq_false_iff_eq.mpr c5
   refine S_env [(0, .pointer (some hvA)), (2, .int .i64 tag), (3, .slice lB lN lC), (10, .int .i64 ra), (11, .int .i64 rb), (31, .bool false)] (by simp only [b6, Bool.not_true, Bool.not_false]) ?_
   clear b6
   refine S_condF (.tmp 31) kk17 kk18 (by kernel_rfl) (by kernel_rfl) ?_
   refine S_skip (by kernel_rfl) ?_
   refine S_then ?_
   refine S_seq kk19 kk20 (by kernel_rfl) ?_
   refine T_sr 6 kk21 kk22 ?_
   refine N_run 3 [(0, .pointer (some hvA)), (2, .int .i64 tag), (10, .int .i64 ra), (33, .slice lB lN lC), (34, .int .i64 (lN : Int)), (35, .int .i64 0)] (fun _=>by kernel_rfl) ?_
   refine T_e ?_
   refine S_block 0 kk23 (by kernel_rfl) ?_
   obtain ⟨I25, m25, i7, i8⟩ := h
   refine S_loop (x := kk24) (σ := Int) (fun s_ => [(0, .pointer (some hvA)), (2, .int .i64 tag), (10, .int .i64 ra), (33, .slice lB lN lC), (34, .int .i64 (lN : Int)), (35, .int .i64 s_)]) (fun s_ H => I25 s_ H) (fun s_ H => m25 s_ H) (0 : Int) (by kernel_rfl) i7 (sb (by kernel_rfl)) ?_
   rintro s35 H3 i9
   have h := i8 s35 H3 i9
   refine S_sub [(0, .pointer (some hvA)), (2, .int .i64 tag), (10, .int .i64 ra), (33, .slice lB lN lC), (34, .int .i64 (lN : Int)), (35, .int .i64 s35)] (sb (by kernel_rfl)) ?_
   refine T_sr 7 kk25 kk26 ?_
   refine N_run 1 [(0, .pointer (some hvA)), (2, .int .i64 tag), (10, .int .i64 ra), (33, .slice lB lN lC), (34, .int .i64 (lN : Int)), (35, .int .i64 s35), (36, .bool (decide (s35 < (lN : Int))))] (fun _=>by kernel_rfl) ?_
   refine T_e ?_
   refine S_seq kk27 kk28 (by kernel_rfl) ?_
   by_cases c10 : s35 < (lN : Int)
   ·rw [if_pos c10] at h
    have b11 : (decide (s35 < (lN : Int))) = true := decide_eq_true c10
    refine S_env [(0, .pointer (some hvA)), (2, .int .i64 tag), (10, .int .i64 ra), (33, .slice lB lN lC), (34, .int .i64 (lN : Int)), (35, .int .i64 s35), (36, .bool true)] (by simp only [b11, Bool.not_true, Bool.not_false]) ?_
    clear b11
    refine S_condT (.tmp 36) kk29 kk30 (by kernel_rfl) (by kernel_rfl) ?_
    refine S_skip (by kernel_rfl) ?_
    refine S_then ?_
    refine S_seq kk31 kk32 (by kernel_rfl) ?_
    refine S_block 1 kk33 (by kernel_rfl) ?_
    refine T_sr 8 kk34 kk35 ?_
    refine N_run 1 [(0, .pointer (some hvA)), (2, .int .i64 tag), (10, .int .i64 ra), (33, .slice lB lN lC), (34, .int .i64 (lN : Int)), (35, .int .i64 s35), (37, .int .i64 s35)] (fun _=>by kernel_rfl) ?_
    obtain ⟨lBA, rfl, h⟩ := h
    obtain ⟨q12, h⟩ := h
    refine N_val (some 38) (indexAtN 22 (.slice (some lBA) lN lC) (.int .i64 s35)) (.pointer (some (lBA.add (Int.toNat s35 * 1)))) (fun _=>by kernel_rfl) (fun w _ => indexAt_run (P := Tryz.prog) (t := 22) (elem := 26) (sz := 1) (a := lBA) (len := lN) (cap := lC) (k := .i64) (i := s35) Tryz.underlying22 (fun _=>by kernel_rfl) q12.1 q12.2 w) [(0, .pointer (some hvA)), (2, .int .i64 tag), (10, .int .i64 ra), (33, .slice (some lBA) lN lC), (34, .int .i64 (lN : Int)), (35, .int .i64 s35), (37, .int .i64 s35), (38, .pointer (some (lBA.add (Int.toNat s35 * 1))))] (ps (by kernel_rfl)) ?_
    obtain ⟨x_4, q13, h⟩ := h
    refine N_val (some 39) (loadN 26 (.pointer (some (lBA.add (Int.toNat s35 * 1))))) (.int .u64 x_4) (fun _=>by kernel_rfl) (loadN_run (loadOK_one (fun _=>by kernel_rfl) q13)) [(0, .pointer (some hvA)), (2, .int .i64 tag), (10, .int .i64 ra), (33, .slice (some lBA) lN lC), (34, .int .i64 (lN : Int)), (35, .int .i64 s35), (37, .int .i64 s35), (39, .int .u64 x_4)] (ps (by kernel_rfl)) ?_
    refine N_run 2 [(0, .pointer (some hvA)), (2, .int .i64 tag), (10, .int .i64 ra), (12, .int .i64 s35), (13, .int .u64 x_4), (33, .slice (some lBA) lN lC), (34, .int .i64 (lN : Int)), (35, .int .i64 s35)] (fun _=>by kernel_rfl) ?_
    refine T_e ?_
    refine S_region 9 (Code.ops kk35) (by kernel_rfl) ?_
    refine N_run 3 [(0, .pointer (some hvA)), (2, .int .i64 tag), (10, .int .i64 ra), (12, .int .i64 s35), (13, .int .u64 x_4), (33, .slice (some lBA) lN lC), (34, .int .i64 (lN : Int)), (35, .int .i64 s35), (42, .pointer (some hvA))] (fun _=>by kernel_rfl) ?_
    obtain ⟨x_5, q14, h⟩ := h
    refine N_val (some 43) (loadN 30 (.pointer (some hvA))) (.pointer x_5) (fun _=>by kernel_rfl) (loadN_run (loadOK_one (fun _=>by kernel_rfl) q14)) [(0, .pointer (some hvA)), (2, .int .i64 tag), (10, .int .i64 ra), (12, .int .i64 s35), (13, .int .u64 x_4), (33, .slice (some lBA) lN lC), (34, .int .i64 (lN : Int)), (35, .int .i64 s35), (43, .pointer x_5)] (ps (by kernel_rfl)) ?_
    obtain ⟨x5A, rfl, h⟩ := h
    refine N_run 2 [(0, .pointer (some hvA)), (2, .int .i64 tag), (10, .int .i64 ra), (12, .int .i64 s35), (13, .int .u64 x_4), (33, .slice (some lBA) lN lC), (34, .int .i64 (lN : Int)), (35, .int .i64 s35), (45, .pointer (some x5A))] (fun _=>by kernel_rfl) ?_
    obtain ⟨x_6, q15, h⟩ := h
    refine N_val (some 46) (loadN 39 (.pointer (some x5A))) (.pointer x_6) (fun _=>by kernel_rfl) (loadN_run (loadOK_one (fun _=>by kernel_rfl) q15)) [(0, .pointer (some hvA)), (2, .int .i64 tag), (10, .int .i64 ra), (12, .int .i64 s35), (13, .int .u64 x_4), (33, .slice (some lBA) lN lC), (34, .int .i64 (lN : Int)), (35, .int .i64 s35), (46, .pointer x_6)] (ps (by kernel_rfl)) ?_
    obtain ⟨x6A, rfl, h⟩ := h
    refine N_run 2 [(0, .pointer (some hvA)), (2, .int .i64 tag), (10, .int .i64 ra), (12, .int .i64 s35), (13, .int .u64 x_4), (33, .slice (some lBA) lN lC), (34, .int .i64 (lN : Int)), (35, .int .i64 s35), (48, .pointer (some x6A))] (fun _=>by kernel_rfl) ?_
    obtain ⟨x_7, q16, h⟩ := h
    refine N_val (some 49) (loadN 68 (.pointer (some x6A))) (.pointer x_7) (fun _=>by kernel_rfl) (loadN_run (loadOK_one (fun _=>by kernel_rfl) q16)) [(0, .pointer (some hvA)), (2, .int .i64 tag), (10, .int .i64 ra), (12, .int .i64 s35), (13, .int .u64 x_4), (33, .slice (some lBA) lN lC), (34, .int .i64 (lN : Int)), (35, .int .i64 s35), (49, .pointer x_7)] (ps (by kernel_rfl)) ?_
    refine N_run 4 [(0, .pointer (some hvA)), (2, .int .i64 tag), (10, .int .i64 ra), (33, .slice (some lBA) lN lC), (34, .int .i64 (lN : Int)), (35, .int .i64 s35), (49, .pointer x_7), (52, .int .i64 (IntKind.wrap .i64 (ra + s35))), (53, .int .u64 x_4)] (fun _=>by kernel_rfl) ?_
    refine N_call (some 54) 54 #[.pointer x_7, .int .i64 (IntKind.wrap .i64 (ra + s35)), .int .u64 x_4] (fun _=>by kernel_rfl) h ?_; clear h
    rintro v_3 H4 ⟨x_8, rfl, h⟩
    refine ⟨[(0, .pointer (some hvA)), (2, .int .i64 tag), (10, .int .i64 ra), (33, .slice (some lBA) lN lC), (34, .int .i64 (lN : Int)), (35, .int .i64 s35)], ps (by kernel_rfl), ?_⟩
    refine N_end (by kernel_rfl) ?_
    refine S_blockEnd ?_
    refine S_then ?_
    refine S_region 10 (Code.ops kk32) (by kernel_rfl) ?_
    refine N_run 2 [(0, .pointer (some hvA)), (2, .int .i64 tag), (10, .int .i64 ra), (33, .slice (some lBA) lN lC), (34, .int .i64 (lN : Int)), (35, .int .i64 (IntKind.wrap .i64 (s35 + 1)))] (fun _=>by kernel_rfl) ?_
    refine T_e ?_
    exact S_round ((IntKind.wrap .i64 (s35 + 1)) : Int) (sb (by kernel_rfl)) h
   ·rw [if_neg c10] at h
    have b11 : (decide (s35 < (lN : Int))) = false := decide_eq_false c10
    refine S_env [(0, .pointer (some hvA)), (2, .int .i64 tag), (10, .int .i64 ra), (33, .slice lB lN lC), (34, .int .i64 (lN : Int)), (35, .int .i64 s35), (36, .bool false)] (by simp only [b11, Bool.not_true, Bool.not_false]) ?_
    clear b11
    refine S_condF (.tmp 36) kk29 kk30 (by kernel_rfl) (by kernel_rfl) ?_
    refine S_exit 0 (by kernel_rfl) ?_
    refine S_exitThen ?_
    refine S_exitThen ?_
    refine S_exitHere ?_
    refine S_then ?_
    refine T_sr 11 kk36 kk37 ?_
    refine N_run 2 [(56, .int .i64 tag), (57, .int .i64 ra)] (fun _=>by kernel_rfl) ?_
    refine N_call (some 58) 55 #[.int .i64 tag, .int .i64 ra] (fun _=>by kernel_rfl) h ?_; clear h
    rintro v_4 H5 ⟨ra_2, rb_2, rfl, h⟩
    refine ⟨[(58, .tuple #[.int .u64 ra_2, .int .i64 rb_2])], ps (by kernel_rfl), ?_⟩
    refine N_run 4 [(8, .int .u64 ra_2), (9, .int .i64 rb_2)] (fun _=>by kernel_rfl) ?_
    refine T_e ?_
    refine S_ret (by kernel_rfl) ?_
    show At _ _ _ _ _ (Q .ret)
    exact S_done (fn := Tryz.f31) [.int .u64 ra_2, .int .i64 rb_2] hQ (show ResOK _ _ _ [.tmp 8, .tmp 9] _ from .tmp (by kernel_rfl) (.tmp (by kernel_rfl) (.nil))) h
  ·rw [if_neg c5] at h
   have b6 : (rb != 0) = true := bne_iff_ne.mpr c5
   refine S_env [(0, .pointer (some hvA)), (2, .int .i64 tag), (3, .slice lB lN lC), (10, .int .i64 ra), (11, .int .i64 rb), (31, .bool true)] (by simp only [b6, Bool.not_true, Bool.not_false]) ?_
   clear b6
   refine S_condT (.tmp 31) kk17 kk18 (by kernel_rfl) (by kernel_rfl) ?_
   refine T_sr 5 kk38 kk39 ?_
   refine N_run 3 [(8, .int .u64 0), (9, .int .i64 rb)] (fun _=>by kernel_rfl) ?_
   refine T_e ?_
   refine S_ret (by kernel_rfl) ?_
   show At _ _ _ _ _ (Q .ret)
   exact S_done (fn := Tryz.f31) [.int .u64 0, .int .i64 rb] hQ (show ResOK _ _ _ [.tmp 8, .tmp 9] _ from .tmp (by kernel_rfl) (.tmp (by kernel_rfl) (.nil))) h
end obj_Heap_put

/-! (*moraine/obj.Heap).Type -/
namespace obj_Heap_none
def kk0 := Func.code Tryz.f52
def kk1 := Code.fa kk0
def kk2 := Code.fb kk0
def kk3 := Code.fa kk2
def kk4 := Code.fb kk2
end obj_Heap_none
def obj_Heap_none.pt (hv : Option Addr) (H : Array Obj) (R : Value → Array Obj → Prop) : Prop :=
 onPtr hv (
 R (.bool true) H) (fun hvA =>
 ∃ x : Option Addr, hat H hvA = some (.pointer x) ∧
 onPtr x (
 R (.bool true) H) (fun xA =>
 R (.bool false) H))
namespace obj_Heap_none
set_option maxRecDepth 100000 in
theorem link {hv : Option Addr} {H : Array Obj} {R : Value → Array Obj → Prop} (h : pt hv H R) : C hv H R := by
 refine S_enter (fn := Tryz.f52) (c := kk0) 12 Tryz.func52 (by kernel_rfl) (by kernel_rfl) (Nat.le_of_ble_eq_true (by kernel_rfl)) ?_
 intro w0 Q hQ
 unfold pt at h
 refine S_sub [(0, .pointer hv)] (sb (by kernel_rfl)) ?_
 refine T_sr 0 kk1 kk2 ?_
 refine N_run 1 [(0, .pointer hv)] (fun _=>by kernel_rfl) ?_
 refine T_e ?_
 refine T_sr 1 kk3 kk4 ?_
 refine N_run 1 [(0, .pointer hv), (3, .pointer hv)] (fun _=>by kernel_rfl) ?_
 rcases hv with _ | hvA
 ·rw [onPtr_none] at h
  refine N_run 9 [(2, .bool true)] (fun _=>by kernel_rfl) ?_
  refine T_e ?_
  refine S_ret (by kernel_rfl) ?_
  show At _ _ _ _ _ (Q .ret)
  exact S_done (fn := Tryz.f52) [.bool true] hQ (show ResOK _ _ _ [.tmp 2] _ from .tmp (by kernel_rfl) (.nil)) h
 ·rw [onPtr_some] at h
  refine N_run 5 [(5, .bool false), (8, .pointer (some hvA))] (fun _=>by kernel_rfl) ?_
  obtain ⟨x, q1, h⟩ := h
  refine N_val (some 9) (loadN 30 (.pointer (some hvA))) (.pointer x) (fun _=>by kernel_rfl) (loadN_run (loadOK_one (fun _=>by kernel_rfl) q1)) [(5, .bool false), (9, .pointer x)] (ps (by kernel_rfl)) ?_
  rcases x with _ | xA
  ·rw [onPtr_none] at h
   refine N_run 3 [(2, .bool true)] (fun _=>by kernel_rfl) ?_
   refine T_e ?_
   refine S_ret (by kernel_rfl) ?_
   show At _ _ _ _ _ (Q .ret)
   exact S_done (fn := Tryz.f52) [.bool true] hQ (show ResOK _ _ _ [.tmp 2] _ from .tmp (by kernel_rfl) (.nil)) h
  ·rw [onPtr_some] at h
   refine N_run 3 [(2, .bool false)] (fun _=>by kernel_rfl) ?_
   refine T_e ?_
   refine S_ret (by kernel_rfl) ?_
   show At _ _ _ _ _ (Q .ret)
   exact S_done (fn := Tryz.f52) [.bool false] hQ (show ResOK _ _ _ [.tmp 2] _ from .tmp (by kernel_rfl) (.nil)) h
end obj_Heap_none

/-! (*moraine/obj.Heap).Len -/
namespace obj_Heap_at
def kk0 := Func.code Tryz.f72
def kk1 := Code.fa kk0
def kk2 := Code.fb kk0
def kk3 := Code.fa kk2
def kk4 := Code.fb kk2
def kk5 := Code.fa kk4
def kk6 := Code.fb kk4
def kk7 := Code.fa kk5
def kk8 := Code.fb kk5
def kk9 := Code.fa kk8
def kk10 := Code.fb kk8
def kk11 := Code.fa kk9
def kk12 := Code.fb kk9
def kk13 := Code.fa kk6
def kk14 := Code.fb kk6
def kk15 := Code.fa kk14
def kk16 := Code.fb kk14
end obj_Heap_at
def obj_Heap_at.pt (hv : Option Addr) (wv : Int) (tag : Int) (kind : Int) (H : Array Obj) (R : Value → Array Obj → Prop) : Prop :=
 word_Addr.C wv H (fun v H1 => ∃ ra : Int, ∃ rb : Bool, v = .tuple #[.int .i64 ra, .bool rb] ∧ 
 obj_Heap_none.C hv H1 (fun v_2 H2 => ∃ x : Bool, v_2 = .bool x ∧ 
 if x = true then (
 R (.tuple #[.int .i64 0, .bool false]) H2)
 else
 if rb = true then (
 word_Tag.C wv H2 (fun v_3 H3 => ∃ x_2 : Int, v_3 = .int .i64 x_2 ∧ 
 if x_2 = tag then (
 ∃ hvA : Addr, hv = some hvA ∧
 ∃ x_3 : Option Addr, hat H3 hvA = some (.pointer x_3) ∧
 ∃ x3A : Addr, x_3 = some x3A ∧
 ∃ x_4 : Option Addr, hat H3 x3A = some (.pointer x_4) ∧
 ∃ x4A : Addr, x_4 = some x4A ∧
 ∃ x_5 : Option Addr, hat H3 x4A = some (.pointer x_5) ∧
 seg_Mem_Seg.C x_5 (IntKind.wrap .i64 (Int.tdiv ra 64)) H3 (fun v_4 H4 => ∃ raGen : Int, ∃ raKind : Int, ∃ raN : Int, ∃ raCardsi0 : Int, ∃ raCardsi1 : Int, ∃ raCardsi2 : Int, ∃ raCardsi3 : Int, ∃ rb_2 : Bool, v_4 = .tuple #[.agg #[.int .i64 raGen, .int .i64 raKind, .int .i64 raN, .int .i64 raCardsi0, .int .i64 raCardsi1, .int .i64 raCardsi2, .int .i64 raCardsi3], .bool rb_2] ∧ 
 ∀ (b : Nat) (H5 : Array Obj), b = H4.size → H5 = H4.push (.cells #[.int .i64 0, .int .i64 0, .int .i64 0, .int .i64 0, .int .i64 0, .int .i64 0, .int .i64 0] 74) →
 (CanPuts H5 (Addr.mk b 0 none) 0 7) ∧ ∀ H6 : Array Obj, H6 = hputs H5 (Addr.mk b 0 none) [.int .i64 raGen, .int .i64 raKind, .int .i64 raN, .int .i64 raCardsi0, .int .i64 raCardsi1, .int .i64 raCardsi2, .int .i64 raCardsi3] 0 →
 if rb_2 = true then (
 ∃ x_6 : Int, hat H6 ((Addr.mk b 0 none).add 1) = some (.int .i64 x_6) ∧
 if x_6 = kind then (
 ∃ x_7 : Int, hat H6 ((Addr.mk b 0 none).add 2) = some (.int .i64 x_7) ∧
 R (.tuple #[.int .i64 ra, .bool (decide ((Int.tmod ra 64) < x_7))]) H6)
 else
 R (.tuple #[.int .i64 ra, .bool false]) H6)
 else
 R (.tuple #[.int .i64 ra, .bool false]) H6))
 else
 R (.tuple #[.int .i64 0, .bool false]) H3))
 else
 R (.tuple #[.int .i64 0, .bool false]) H2))
namespace obj_Heap_at
set_option maxRecDepth 100000 in
theorem link {hv : Option Addr} {wv : Int} {tag : Int} {kind : Int} {H : Array Obj} {R : Value → Array Obj → Prop} (h : pt hv wv tag kind H R) : C hv wv tag kind H R := by
 refine S_enter (fn := Tryz.f72) (c := kk0) 61 Tryz.func72 (by kernel_rfl) (by kernel_rfl) (Nat.le_of_ble_eq_true (by kernel_rfl)) ?_
 intro w0 Q hQ
 unfold pt at h
 refine S_sub [(0, .pointer hv), (1, .int .u64 wv), (2, .int .i64 tag), (3, .int .i64 kind)] (sb (by kernel_rfl)) ?_
 refine T_sr 0 kk1 kk2 ?_
 refine N_run 2 [(0, .pointer hv), (1, .int .u64 wv), (2, .int .i64 tag), (3, .int .i64 kind)] (fun _=>by kernel_rfl) ?_
 refine T_e ?_
 refine T_sr 1 kk3 kk4 ?_
 refine N_run 1 [(0, .pointer hv), (1, .int .u64 wv), (2, .int .i64 tag), (3, .int .i64 kind), (14, .int .u64 wv)] (fun _=>by kernel_rfl) ?_
 refine N_call (some 15) 102 #[.int .u64 wv] (fun _=>by kernel_rfl) h ?_; clear h
 rintro v H1 ⟨ra, rb, rfl, h⟩
 refine ⟨[(0, .pointer hv), (1, .int .u64 wv), (2, .int .i64 tag), (3, .int .i64 kind), (15, .tuple #[.int .i64 ra, .bool rb])], ps (by kernel_rfl), ?_⟩
 refine N_run 5 [(0, .pointer hv), (1, .int .u64 wv), (2, .int .i64 tag), (3, .int .i64 kind), (10, .int .i64 ra), (11, .bool rb)] (fun _=>by kernel_rfl) ?_
 refine T_e ?_
 refine S_seq kk5 kk6 (by kernel_rfl) ?_
 refine T_sr 2 kk7 kk8 ?_
 refine N_run 1 [(0, .pointer hv), (1, .int .u64 wv), (2, .int .i64 tag), (3, .int .i64 kind), (10, .int .i64 ra), (11, .bool rb), (18, .pointer hv)] (fun _=>by kernel_rfl) ?_
 refine N_call (some 19) 52 #[.pointer hv] (fun _=>by kernel_rfl) h ?_; clear h
 rintro v_2 H2 ⟨x, rfl, h⟩
 refine ⟨[(0, .pointer hv), (1, .int .u64 wv), (2, .int .i64 tag), (3, .int .i64 kind), (10, .int .i64 ra), (11, .bool rb), (19, .bool x)], ps (by kernel_rfl), ?_⟩
 refine N_run 1 [(0, .pointer hv), (1, .int .u64 wv), (2, .int .i64 tag), (3, .int .i64 kind), (10, .int .i64 ra), (11, .bool rb), (20, .bool x)] (fun _=>by kernel_rfl) ?_
 by_cases c1 : x = true
 ·rw [if_pos c1] at h
  have b2 : x = true := c1
  refine N_env [(0, .pointer hv), (1, .int .u64 wv), (2, .int .i64 tag), (3, .int .i64 kind), (10, .int .i64 ra), (11, .bool rb), (20, .bool true)] (by simp only [b2, Bool.not_true, Bool.not_false]) ?_
  clear b2
  refine N_run 9 [(0, .pointer hv), (3, .int .i64 kind), (10, .int .i64 ra), (29, .bool true)] (fun _=>by kernel_rfl) ?_
  refine T_e ?_
  refine S_condT (.tmp 29) kk9 kk10 (by kernel_rfl) (by kernel_rfl) ?_
  refine T_sr 3 kk11 kk12 ?_
  refine N_run 2 [(8, .int .i64 0), (9, .bool false)] (fun _=>by kernel_rfl) ?_
  refine T_e ?_
  refine S_ret (by kernel_rfl) ?_
  show At _ _ _ _ _ (Q .ret)
  exact S_done (fn := Tryz.f72) [.int .i64 0, .bool false] hQ (show ResOK _ _ _ [.tmp 8, .tmp 9] _ from .tmp (by kernel_rfl) (.tmp (by kernel_rfl) (.nil))) h
 ·rw [if_neg c1] at h
  have b2 : x = false := eq_false_of_ne_true c1
  refine N_env [(0, .pointer hv), (1, .int .u64 wv), (2, .int .i64 tag), (3, .int .i64 kind), (10, .int .i64 ra), (11, .bool rb), (20, .bool false)] (by simp only [b2, Bool.not_true, Bool.not_false]) ?_
  clear b2
  refine N_run 4 [(0, .pointer hv), (1, .int .u64 wv), (2, .int .i64 tag), (3, .int .i64 kind), (10, .int .i64 ra), (24, .bool (!rb))] (fun _=>by kernel_rfl) ?_
  by_cases c3 : rb = true
  ·rw [if_pos c3] at h
   have b4 : (!rb) = false := congrArg Bool.not (c3)
   have b42 : rb = true := c3
   refine N_env [(0, .pointer hv), (1, .int .u64 wv), (2, .int .i64 tag), (3, .int .i64 kind), (10, .int .i64 ra), (24, .bool false)] (by simp only [b4, b42, Bool.not_true, Bool.not_false]) ?_
   clear b4 b42
   refine N_run 1 [(0, .pointer hv), (2, .int .i64 tag), (3, .int .i64 kind), (10, .int .i64 ra), (24, .bool false), (25, .int .u64 wv)] (fun _=>by kernel_rfl) ?_
   refine N_call (some 26) 58 #[.int .u64 wv] (fun _=>by kernel_rfl) h ?_; clear h
   rintro v_3 H3 ⟨x_2, rfl, h⟩
   refine ⟨[(0, .pointer hv), (2, .int .i64 tag), (3, .int .i64 kind), (10, .int .i64 ra), (24, .bool false), (26, .int .i64 x_2)], ps (by kernel_rfl), ?_⟩
   refine N_run 3 [(0, .pointer hv), (3, .int .i64 kind), (10, .int .i64 ra), (29, .bool (x_2 != tag))] (fun _=>by kernel_rfl) ?_
   refine T_e ?_
   by_cases c5 : x_2 = tag
   ·rw [if_pos c5] at h
    have b6 : (x_2 != tag) = false := bne_eq_false_iff_eq.mpr c5
    refine S_env [(0, .pointer hv), (3, .int .i64 kind), (10, .int .i64 ra), (29, .bool false)] (by simp only [b6, Bool.not_true, Bool.not_false]) ?_
    clear b6
    refine S_condF (.tmp 29) kk9 kk10 (by kernel_rfl) (by kernel_rfl) ?_
    refine S_skip (by kernel_rfl) ?_
    refine S_then ?_
    refine T_sr 4 kk13 kk14 ?_
    refine N_run 1 [(3, .int .i64 kind), (10, .int .i64 ra), (31, .pointer hv)] (fun _=>by kernel_rfl) ?_
    obtain ⟨hvA, rfl, h⟩ := h
    refine N_run 2 [(3, .int .i64 kind), (10, .int .i64 ra), (33, .pointer (some hvA))] (fun _=>by kernel_rfl) ?_
    obtain ⟨x_3, q7, h⟩ := h
    refine N_val (some 34) (loadN 30 (.pointer (some hvA))) (.pointer x_3) (fun _=>by kernel_rfl) (loadN_run (loadOK_one (fun _=>by kernel_rfl) q7)) [(3, .int .i64 kind), (10, .int .i64 ra), (34, .pointer x_3)] (ps (by kernel_rfl)) ?_
    obtain ⟨x3A, rfl, h⟩ := h
    refine N_run 2 [(3, .int .i64 kind), (10, .int .i64 ra), (36, .pointer (some x3A))] (fun _=>by kernel_rfl) ?_
    obtain ⟨x_4, q8, h⟩ := h
    refine N_val (some 37) (loadN 39 (.pointer (some x3A))) (.pointer x_4) (fun _=>by kernel_rfl) (loadN_run (loadOK_one (fun _=>by kernel_rfl) q8)) [(3, .int .i64 kind), (10, .int .i64 ra), (37, .pointer x_4)] (ps (by kernel_rfl)) ?_
    obtain ⟨x4A, rfl, h⟩ := h
    refine N_run 2 [(3, .int .i64 kind), (10, .int .i64 ra), (39, .pointer (some x4A))] (fun _=>by kernel_rfl) ?_
    obtain ⟨x_5, q9, h⟩ := h
    refine N_val (some 40) (loadN 68 (.pointer (some x4A))) (.pointer x_5) (fun _=>by kernel_rfl) (loadN_run (loadOK_one (fun _=>by kernel_rfl) q9)) [(3, .int .i64 kind), (10, .int .i64 ra), (40, .pointer x_5)] (ps (by kernel_rfl)) ?_
    refine N_run 2 [(3, .int .i64 kind), (10, .int .i64 ra), (40, .pointer x_5), (42, .int .i64 (IntKind.wrap .i64 (Int.tdiv ra 64)))] (fun _=>by kernel_rfl) ?_
    refine N_call (some 43) 28 #[.pointer x_5, .int .i64 (IntKind.wrap .i64 (Int.tdiv ra 64))] (fun _=>by kernel_rfl) h ?_; clear h
    rintro v_4 H4 ⟨raGen, raKind, raN, raCardsi0, raCardsi1, raCardsi2, raCardsi3, rb_2, rfl, h⟩
    refine ⟨[(3, .int .i64 kind), (10, .int .i64 ra), (43, .tuple #[.agg #[.int .i64 raGen, .int .i64 raKind, .int .i64 raN, .int .i64 raCardsi0, .int .i64 raCardsi1, .int .i64 raCardsi2, .int .i64 raCardsi3], .bool rb_2])], ps (by kernel_rfl), ?_⟩
    refine N_run 3 [(3, .int .i64 kind), (10, .int .i64 ra), (44, .agg #[.int .i64 raGen, .int .i64 raKind, .int .i64 raN, .int .i64 raCardsi0, .int .i64 raCardsi1, .int .i64 raCardsi2, .int .i64 raCardsi3]), (45, .bool rb_2)] (fun _=>by kernel_rfl) ?_
    refine N_new (some 12) (fun b => .pointer (some (Addr.mk b 0 none))) (.cells #[.int .i64 0, .int .i64 0, .int .i64 0, .int .i64 0, .int .i64 0, .int .i64 0, .int .i64 0] 74) (fun _=>by kernel_rfl) ?_
    intro b H5 e10 e11
    replace h := h b H5 e10 e11
    refine ⟨[(3, .int .i64 kind), (10, .int .i64 ra), (12, .pointer (some (Addr.mk b 0 none))), (44, .agg #[.int .i64 raGen, .int .i64 raKind, .int .i64 raN, .int .i64 raCardsi0, .int .i64 raCardsi1, .int .i64 raCardsi2, .int .i64 raCardsi3]), (45, .bool rb_2)], ps (by kernel_rfl), ?_⟩
    obtain ⟨q13, h⟩ := h
    refine N_skipop none (storeN 74 (.pointer (some (Addr.mk b 0 none))) (.agg #[.int .i64 raGen, .int .i64 raKind, .int .i64 raN, .int .i64 raCardsi0, .int .i64 raCardsi1, .int .i64 raCardsi2, .int .i64 raCardsi3])) (fun Hz => Hz = hputs H5 (Addr.mk b 0 none) [.int .i64 raGen, .int .i64 raKind, .int .i64 raN, .int .i64 raCardsi0, .int .i64 raCardsi1, .int .i64 raCardsi2, .int .i64 raCardsi3] 0) (fun _=>by kernel_rfl) (ss_store [.int .i64 raGen, .int .i64 raKind, .int .i64 raN, .int .i64 raCardsi0, .int .i64 raCardsi1, .int .i64 raCardsi2, .int .i64 raCardsi3] 7 (by kernel_rfl) (by kernel_rfl) (fun _=>by kernel_rfl) (by kernel_rfl) q13) ?_
    intro H6 e12
    replace h := h H6 e12
    refine ⟨[(3, .int .i64 kind), (10, .int .i64 ra), (12, .pointer (some (Addr.mk b 0 none))), (45, .bool rb_2)], ps (by kernel_rfl), ?_⟩
    refine N_run 1 [(3, .int .i64 kind), (10, .int .i64 ra), (11, .bool rb_2), (12, .pointer (some (Addr.mk b 0 none)))] (fun _=>by kernel_rfl) ?_
    refine T_e ?_
    refine S_seq kk15 kk16 (by kernel_rfl) ?_
    refine S_regionQ 5 (Code.ops kk15) (by kernel_rfl) (by kernel_rfl) (by kernel_rfl) ?_
    refine Q_one (.int .i64 ra) [(3, .int .i64 kind), (10, .int .i64 ra), (11, .bool rb_2), (12, .pointer (some (Addr.mk b 0 none))), (46, .int .i64 ra)] (some 46) (by kernel_rfl) (fun _=>by kernel_rfl) (ps (by kernel_rfl)) ?_
    refine Q_one (.bool rb_2) [(3, .int .i64 kind), (10, .int .i64 ra), (12, .pointer (some (Addr.mk b 0 none))), (46, .int .i64 ra), (47, .bool rb_2)] (some 47) (by kernel_rfl) (fun _=>by kernel_rfl) (ps (by kernel_rfl)) ?_
    refine Q_one (.bool rb_2) [(3, .int .i64 kind), (10, .int .i64 ra), (12, .pointer (some (Addr.mk b 0 none))), (46, .int .i64 ra), (48, .bool rb_2)] (some 48) (by kernel_rfl) (fun _=>by kernel_rfl) (ps (by kernel_rfl)) ?_
    by_cases c14 : rb_2 = true
    ·rw [if_pos c14] at h
     have b15 : rb_2 = true := c14
     refine Q_env [(3, .int .i64 kind), (10, .int .i64 ra), (12, .pointer (some (Addr.mk b 0 none))), (46, .int .i64 ra), (48, .bool true)] (by simp only [b15, Bool.not_true, Bool.not_false]) ?_
     clear b15
     refine Q_one (.pointer (some ((Addr.mk b 0 none).add 1))) [(3, .int .i64 kind), (10, .int .i64 ra), (12, .pointer (some (Addr.mk b 0 none))), (46, .int .i64 ra), (48, .bool true), (49, .pointer (some ((Addr.mk b 0 none).add 1)))] (some 49) (by kernel_rfl) (fun _=>by kernel_rfl) (ps (by kernel_rfl)) ?_
     obtain ⟨x_6, q16, h⟩ := h
     refine Q_op (some 50) (loadN 3 (.pointer (some ((Addr.mk b 0 none).add 1)))) (.int .i64 x_6) (fun _=>by kernel_rfl) (loadN_run (loadOK_one (fun _=>by kernel_rfl) q16)) [(3, .int .i64 kind), (10, .int .i64 ra), (12, .pointer (some (Addr.mk b 0 none))), (46, .int .i64 ra), (48, .bool true), (50, .int .i64 x_6)] (ps (by kernel_rfl)) ?_
     refine Q_one (.int .i64 kind) [(10, .int .i64 ra), (12, .pointer (some (Addr.mk b 0 none))), (46, .int .i64 ra), (48, .bool true), (50, .int .i64 x_6), (51, .int .i64 kind)] (some 51) (by kernel_rfl) (fun _=>by kernel_rfl) (ps (by kernel_rfl)) ?_
     refine Q_one (.bool (x_6 == kind)) [(10, .int .i64 ra), (12, .pointer (some (Addr.mk b 0 none))), (46, .int .i64 ra), (48, .bool true), (52, .bool (x_6 == kind))] (some 52) (by kernel_rfl) (fun _=>by kernel_rfl) (ps (by kernel_rfl)) ?_
     refine Q_one (.bool (x_6 == kind)) [(10, .int .i64 ra), (12, .pointer (some (Addr.mk b 0 none))), (46, .int .i64 ra), (53, .bool (x_6 == kind))] (some 53) (by kernel_rfl) (fun _=>by kernel_rfl) (ps (by kernel_rfl)) ?_
     refine Q_one (.bool (x_6 == kind)) [(10, .int .i64 ra), (12, .pointer (some (Addr.mk b 0 none))), (46, .int .i64 ra), (54, .bool (x_6 == kind))] (some 54) (by kernel_rfl) (fun _=>by kernel_rfl) (ps (by kernel_rfl)) ?_
     by_cases c17 : x_6 = kind
     ·rw [if_pos c17] at h
      have b18 : (x_6 == kind) = true := beq_iff_eq.mpr c17
      refine Q_env [(10, .int .i64 ra), (12, .pointer (some (Addr.mk b 0 none))), (46, .int .i64 ra), (54, .bool true)] (by simp only [b18, Bool.not_true, Bool.not_false]) ?_
      clear b18
      refine Q_one (.int .i64 ra) [(12, .pointer (some (Addr.mk b 0 none))), (46, .int .i64 ra), (54, .bool true), (55, .int .i64 ra)] (some 55) (by kernel_rfl) (fun _=>by kernel_rfl) (ps (by kernel_rfl)) ?_
      refine Q_one (.int .i64 (Int.tmod ra 64)) [(12, .pointer (some (Addr.mk b 0 none))), (46, .int .i64 ra), (54, .bool true), (56, .int .i64 (Int.tmod ra 64))] (some 56) (by kernel_rfl) (fun _=>by kernel_rfl) (ps (by kernel_rfl)) ?_
      refine Q_one (.pointer (some ((Addr.mk b 0 none).add 2))) [(46, .int .i64 ra), (54, .bool true), (56, .int .i64 (Int.tmod ra 64)), (57, .pointer (some ((Addr.mk b 0 none).add 2)))] (some 57) (by kernel_rfl) (fun _=>by kernel_rfl) (ps (by kernel_rfl)) ?_
      obtain ⟨x_7, q19, h⟩ := h
      refine Q_op (some 58) (loadN 3 (.pointer (some ((Addr.mk b 0 none).add 2)))) (.int .i64 x_7) (fun _=>by kernel_rfl) (loadN_run (loadOK_one (fun _=>by kernel_rfl) q19)) [(46, .int .i64 ra), (54, .bool true), (56, .int .i64 (Int.tmod ra 64)), (58, .int .i64 x_7)] (ps (by kernel_rfl)) ?_
      refine Q_one (.bool (decide ((Int.tmod ra 64) < x_7))) [(46, .int .i64 ra), (54, .bool true), (59, .bool (decide ((Int.tmod ra 64) < x_7)))] (some 59) (by kernel_rfl) (fun _=>by kernel_rfl) (ps (by kernel_rfl)) ?_
      refine Q_one (.bool (decide ((Int.tmod ra 64) < x_7))) [(46, .int .i64 ra), (60, .bool (decide ((Int.tmod ra 64) < x_7)))] (some 60) (by kernel_rfl) (fun _=>by kernel_rfl) (ps (by kernel_rfl)) ?_
      refine Q_one (.int .i64 ra) [(8, .int .i64 ra), (60, .bool (decide ((Int.tmod ra 64) < x_7)))] (some 8) (by kernel_rfl) (fun _=>by kernel_rfl) (ps (by kernel_rfl)) ?_
      refine Q_one (.bool (decide ((Int.tmod ra 64) < x_7))) [(8, .int .i64 ra), (9, .bool (decide ((Int.tmod ra 64) < x_7)))] (some 9) (by kernel_rfl) (fun _=>by kernel_rfl) (ps (by kernel_rfl)) ?_
      refine Q_sub [(8, .int .i64 ra), (9, .bool (decide ((Int.tmod ra 64) < x_7)))] (sb (by kernel_rfl)) ?_
      refine Q_end (by kernel_rfl) ?_
      refine S_then ?_
      refine S_ret (by kernel_rfl) ?_
      show At _ _ _ _ _ (Q .ret)
      exact S_done (fn := Tryz.f72) [.int .i64 ra, .bool (decide ((Int.tmod ra 64) < x_7))] hQ (show ResOK _ _ _ [.tmp 8, .tmp 9] _ from .tmp (by kernel_rfl) (.tmp (by kernel_rfl) (.nil))) h
     ·rw [if_neg c17] at h
      have b18 : (x_6 == kind) = false := beq_eq_false_iff_ne.mpr c17
      refine Q_env [(10, .int .i64 ra), (12, .pointer (some (Addr.mk b 0 none))), (46, .int .i64 ra), (54, .bool false)] (by simp only [b18, Bool.not_true, Bool.not_false]) ?_
      clear b18
      refine Q_one (undef) [(12, .pointer (some (Addr.mk b 0 none))), (46, .int .i64 ra), (54, .bool false), (55, undef)] (some 55) (by kernel_rfl) (fun _=>by kernel_rfl) (ps (by kernel_rfl)) ?_
      refine Q_one (undef) [(12, .pointer (some (Addr.mk b 0 none))), (46, .int .i64 ra), (54, .bool false), (56, undef)] (some 56) (by kernel_rfl) (fun _=>by kernel_rfl) (ps (by kernel_rfl)) ?_
      refine Q_one (undef) [(46, .int .i64 ra), (54, .bool false), (56, undef), (57, undef)] (some 57) (by kernel_rfl) (fun _=>by kernel_rfl) (ps (by kernel_rfl)) ?_
      refine Q_one (undef) [(46, .int .i64 ra), (54, .bool false), (56, undef), (58, undef)] (some 58) (by kernel_rfl) (fun _=>by kernel_rfl) (ps (by kernel_rfl)) ?_
      refine Q_one (undef) [(46, .int .i64 ra), (54, .bool false), (59, undef)] (some 59) (by kernel_rfl) (fun _=>by kernel_rfl) (ps (by kernel_rfl)) ?_
      refine Q_one (.bool false) [(46, .int .i64 ra), (60, .bool false)] (some 60) (by kernel_rfl) (fun _=>by kernel_rfl) (ps (by kernel_rfl)) ?_
      refine Q_one (.int .i64 ra) [(8, .int .i64 ra), (60, .bool false)] (some 8) (by kernel_rfl) (fun _=>by kernel_rfl) (ps (by kernel_rfl)) ?_
      refine Q_one (.bool false) [(8, .int .i64 ra), (9, .bool false)] (some 9) (by kernel_rfl) (fun _=>by kernel_rfl) (ps (by kernel_rfl)) ?_
      refine Q_sub [(8, .int .i64 ra), (9, .bool false)] (sb (by kernel_rfl)) ?_
      refine Q_end (by kernel_rfl) ?_
      refine S_then ?_
      refine S_ret (by kernel_rfl) ?_
      show At _ _ _ _ _ (Q .ret)
      exact S_done (fn := Tryz.f72) [.int .i64 ra, .bool false] hQ (show ResOK _ _ _ [.tmp 8, .tmp 9] _ from .tmp (by kernel_rfl) (.tmp (by kernel_rfl) (.nil))) h
    ·rw [if_neg c14] at h
     have b15 : rb_2 = false := eq_false_of_ne_true c14
     refine Q_env [(3, .int .i64 kind), (10, .int .i64 ra), (12, .pointer (some (Addr.mk b 0 none))), (46, .int .i64 ra), (48, .bool false)] (by simp only [b15, Bool.not_true, Bool.not_false]) ?_
     clear b15
     refine Q_one (undef) [(3, .int .i64 kind), (10, .int .i64 ra), (12, .pointer (some (Addr.mk b 0 none))), (46, .int .i64 ra), (48, .bool false), (49, undef)] (some 49) (by kernel_rfl) (fun _=>by kernel_rfl) (ps (by kernel_rfl)) ?_
     refine Q_one (undef) [(3, .int .i64 kind), (10, .int .i64 ra), (12, .pointer (some (Addr.mk b 0 none))), (46, .int .i64 ra), (48, .bool false), (50, undef)] (some 50) (by kernel_rfl) (fun _=>by kernel_rfl) (ps (by kernel_rfl)) ?_
     refine Q_one (undef) [(10, .int .i64 ra), (12, .pointer (some (Addr.mk b 0 none))), (46, .int .i64 ra), (48, .bool false), (50, undef), (51, undef)] (some 51) (by kernel_rfl) (fun _=>by kernel_rfl) (ps (by kernel_rfl)) ?_
     refine Q_one (undef) [(10, .int .i64 ra), (12, .pointer (some (Addr.mk b 0 none))), (46, .int .i64 ra), (48, .bool false), (52, undef)] (some 52) (by kernel_rfl) (fun _=>by kernel_rfl) (ps (by kernel_rfl)) ?_
     refine Q_one (.bool false) [(10, .int .i64 ra), (12, .pointer (some (Addr.mk b 0 none))), (46, .int .i64 ra), (53, .bool false)] (some 53) (by kernel_rfl) (fun _=>by kernel_rfl) (ps (by kernel_rfl)) ?_
     refine Q_one (.bool false) [(10, .int .i64 ra), (12, .pointer (some (Addr.mk b 0 none))), (46, .int .i64 ra), (54, .bool false)] (some 54) (by kernel_rfl) (fun _=>by kernel_rfl) (ps (by kernel_rfl)) ?_
     refine Q_one (undef) [(12, .pointer (some (Addr.mk b 0 none))), (46, .int .i64 ra), (54, .bool false), (55, undef)] (some 55) (by kernel_rfl) (fun _=>by kernel_rfl) (ps (by kernel_rfl)) ?_
     refine Q_one (undef) [(12, .pointer (some (Addr.mk b 0 none))), (46, .int .i64 ra), (54, .bool false), (56, undef)] (some 56) (by kernel_rfl) (fun _=>by kernel_rfl) (ps (by kernel_rfl)) ?_
     refine Q_one (undef) [(46, .int .i64 ra), (54, .bool false), (56, undef), (57, undef)] (some 57) (by kernel_rfl) (fun _=>by kernel_rfl) (ps (by kernel_rfl)) ?_
     refine Q_one (undef) [(46, .int .i64 ra), (54, .bool false), (56, undef), (58, undef)] (some 58) (by kernel_rfl) (fun _=>by kernel_rfl) (ps (by kernel_rfl)) ?_
     refine Q_one (undef) [(46, .int .i64 ra), (54, .bool false), (59, undef)] (some 59) (by kernel_rfl) (fun _=>by kernel_rfl) (ps (by kernel_rfl)) ?_
     refine Q_one (.bool false) [(46, .int .i64 ra), (60, .bool false)] (some 60) (by kernel_rfl) (fun _=>by kernel_rfl) (ps (by kernel_rfl)) ?_
     refine Q_one (.int .i64 ra) [(8, .int .i64 ra), (60, .bool false)] (some 8) (by kernel_rfl) (fun _=>by kernel_rfl) (ps (by kernel_rfl)) ?_
     refine Q_one (.bool false) [(8, .int .i64 ra), (9, .bool false)] (some 9) (by kernel_rfl) (fun _=>by kernel_rfl) (ps (by kernel_rfl)) ?_
     refine Q_sub [(8, .int .i64 ra), (9, .bool false)] (sb (by kernel_rfl)) ?_
     refine Q_end (by kernel_rfl) ?_
     refine S_then ?_
     refine S_ret (by kernel_rfl) ?_
     show At _ _ _ _ _ (Q .ret)
     exact S_done (fn := Tryz.f72) [.int .i64 ra, .bool false] hQ (show ResOK _ _ _ [.tmp 8, .tmp 9] _ from .tmp (by kernel_rfl) (.tmp (by kernel_rfl) (.nil))) h
   ·rw [if_neg c5] at h
    have b6 : (x_2 != tag) = true := bne_iff_ne.mpr c5
    refine S_env [(0, .pointer hv), (3, .int .i64 kind), (10, .int .i64 ra), (29, .bool true)] (by simp only [b6, Bool.not_true, Bool.not_false]) ?_
    clear b6
    refine S_condT (.tmp 29) kk9 kk10 (by kernel_rfl) (by kernel_rfl) ?_
    refine T_sr 3 kk11 kk12 ?_
    refine N_run 2 [(8, .int .i64 0), (9, .bool false)] (fun _=>by kernel_rfl) ?_
    refine T_e ?_
    refine S_ret (by kernel_rfl) ?_
    show At _ _ _ _ _ (Q .ret)
    exact S_done (fn := Tryz.f72) [.int .i64 0, .bool false] hQ (show ResOK _ _ _ [.tmp 8, .tmp 9] _ from .tmp (by kernel_rfl) (.tmp (by kernel_rfl) (.nil))) h
  ·rw [if_neg c3] at h
   have b4 : (!rb) = true := congrArg Bool.not (eq_false_of_ne_true c3)
   have b42 : rb = false := eq_false_of_ne_true c3
   refine N_env [(0, .pointer hv), (1, .int .u64 wv), (2, .int .i64 tag), (3, .int .i64 kind), (10, .int .i64 ra), (24, .bool true)] (by simp only [b4, b42, Bool.not_true, Bool.not_false]) ?_
   clear b4 b42
   refine N_run 5 [(0, .pointer hv), (3, .int .i64 kind), (10, .int .i64 ra), (29, .bool true)] (fun _=>by kernel_rfl) ?_
   refine T_e ?_
   refine S_condT (.tmp 29) kk9 kk10 (by kernel_rfl) (by kernel_rfl) ?_
   refine T_sr 3 kk11 kk12 ?_
   refine N_run 2 [(8, .int .i64 0), (9, .bool false)] (fun _=>by kernel_rfl) ?_
   refine T_e ?_
   refine S_ret (by kernel_rfl) ?_
   show At _ _ _ _ _ (Q .ret)
   exact S_done (fn := Tryz.f72) [.int .i64 0, .bool false] hQ (show ResOK _ _ _ [.tmp 8, .tmp 9] _ from .tmp (by kernel_rfl) (.tmp (by kernel_rfl) (.nil))) h
end obj_Heap_at

/-! (*moraine/obj.Heap).More -/
end Go.Proofs.YthlohokmnajpoaaGreat
