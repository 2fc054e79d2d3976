/-
 Written by a program of mine (gen.py): for functions of this translation a predicate transformer over heaps (.pt), and the proof that it is sound for the call (.link).
-/
import Derived.Test.YthlohokmnajpoaaGreatFnsC
set_option linter.unusedSimpArgs false
set_option linter.unusedVariables false
set_option maxHeartbeats 1000000
noncomputable section
namespace Go.Proofs.YthlohokmnajpoaaGreat
open Go
/-! (*moraine/space.Space).none -/
namespace space_Space_none
def kk0 := Func.code Tryz.f26
def kk1 := Code.fa kk0
def kk2 := Code.fb kk0
def kk3 := Code.fa kk2
def kk4 := Code.fb kk2
end space_Space_none
def space_Space_none.pt (s : Option Addr) (H : Array Obj) (R : Value → Array Obj → Prop) : Prop :=
 onPtr s (
 R (.bool true) H) (fun sA =>
 ∃ x : Option Addr, hat H sA = some (.pointer x) ∧
 onPtr x (
 R (.bool true) H) (fun xA =>
 R (.bool false) H))
namespace space_Space_none
set_option maxRecDepth 100000 in
theorem link {s : Option Addr} {H : Array Obj} {R : Value → Array Obj → Prop} (h : pt s H R) : C s H R := by
 refine S_enter (fn := Tryz.f26) (c := kk0) 12 Tryz.func26 (by kernel_rfl) (by kernel_rfl) (Nat.le_of_ble_eq_true (by kernel_rfl)) ?_
 intro w0 Q hQ
 unfold pt at h
 refine S_sub [(0, .pointer s)] (sb (by kernel_rfl)) ?_
 refine T_sr 0 kk1 kk2 ?_
 refine N_run 1 [(0, .pointer s)] (fun _=>by kernel_rfl) ?_
 refine T_e ?_
 refine T_sr 1 kk3 kk4 ?_
 refine N_run 1 [(0, .pointer s), (3, .pointer s)] (fun _=>by kernel_rfl) ?_
 rcases s with _ | sA
 ·rw [onPtr_none] at h
  refine N_run 9 [(2, .bool true)] (fun _=>by kernel_rfl) ?_
  refine T_e ?_
  refine S_ret (by kernel_rfl) ?_
  show At _ _ _ _ _ (Q .ret)
  exact S_done (fn := Tryz.f26) [.bool true] hQ (show ResOK _ _ _ [.tmp 2] _ from .tmp (by kernel_rfl) (.nil)) h
 ·rw [onPtr_some] at h
  refine N_run 5 [(5, .bool false), (8, .pointer (some sA))] (fun _=>by kernel_rfl) ?_
  obtain ⟨x, q1, h⟩ := h
  refine N_val (some 9) (loadN 68 (.pointer (some sA))) (.pointer x) (fun _=>by kernel_rfl) (loadN_run (loadOK_one (fun _=>by kernel_rfl) q1)) [(5, .bool false), (9, .pointer x)] (ps (by kernel_rfl)) ?_
  rcases x with _ | xA
  ·rw [onPtr_none] at h
   refine N_run 3 [(2, .bool true)] (fun _=>by kernel_rfl) ?_
   refine T_e ?_
   refine S_ret (by kernel_rfl) ?_
   show At _ _ _ _ _ (Q .ret)
   exact S_done (fn := Tryz.f26) [.bool true] hQ (show ResOK _ _ _ [.tmp 2] _ from .tmp (by kernel_rfl) (.nil)) h
  ·rw [onPtr_some] at h
   refine N_run 3 [(2, .bool false)] (fun _=>by kernel_rfl) ?_
   refine T_e ?_
   refine S_ret (by kernel_rfl) ?_
   show At _ _ _ _ _ (Q .ret)
   exact S_done (fn := Tryz.f26) [.bool false] hQ (show ResOK _ _ _ [.tmp 2] _ from .tmp (by kernel_rfl) (.nil)) h
end space_Space_none

/-! moraine/space.New -/
namespace space_New
def kk0 := Func.code Tryz.f45
def kk1 := Code.fa kk0
def kk2 := Code.fb kk0
def kk3 := Code.fa kk2
def kk4 := Code.fb kk2
def kk5 := Code.fa kk4
def kk6 := Code.fb kk4
def kk7 := Code.fa kk5
def kk8 := Code.fb kk5
def kk9 := Code.fa kk8
def kk10 := Code.fb kk8
def kk11 := Code.fa kk6
def kk12 := Code.fb kk6
def kk13 := Code.fa kk9
def kk14 := Code.fb kk9
end space_New
def space_New.pt (limit : Int) (H : Array Obj) (R : Value → Array Obj → Prop) : Prop :=
 seg_New.C limit H (fun v H1 => ∃ ra : Option Addr, ∃ rb : Int, v = .tuple #[.pointer ra, .int .i64 rb] ∧ 
 if rb = 0 then (
 ∀ (b : Nat) (H2 : Array Obj), b = H1.size → H2 = H1.push (.cells #[.pointer ra, .int .i64 0, .int .i64 0, .int .i64 0, .int .i64 0, .int .i64 0, .int .i64 0, .int .i64 0, .int .i64 0, .int .i64 0, .int .i64 0, .int .i64 0, .int .i64 0, .int .i64 0, .int .i64 0, .int .i64 0, .int .i64 0, .int .i64 0, .int .i64 0, .int .i64 0, .int .i64 0] 72) →
 R (.tuple #[.pointer (some (Addr.mk b 0 none)), .int .i64 0]) H2)
 else
 R (.tuple #[.pointer none, .int .i64 rb]) H1)
namespace space_New
set_option maxRecDepth 100000 in
theorem link {limit : Int} {H : Array Obj} {R : Value → Array Obj → Prop} (h : pt limit H R) : C limit H R := by
 refine S_enter (fn := Tryz.f45) (c := kk0) 17 Tryz.func45 (by kernel_rfl) (by kernel_rfl) (Nat.le_of_ble_eq_true (by kernel_rfl)) ?_
 intro w0 Q hQ
 unfold pt at h
 refine S_sub [(0, .int .i64 limit)] (sb (by kernel_rfl)) ?_
 refine T_sr 0 kk1 kk2 ?_
 refine N_run 2 [(0, .int .i64 limit)] (fun _=>by kernel_rfl) ?_
 refine T_e ?_
 refine T_sr 1 kk3 kk4 ?_
 refine N_run 1 [(7, .int .i64 limit)] (fun _=>by kernel_rfl) ?_
 refine N_call (some 8) 68 #[.int .i64 limit] (fun _=>by kernel_rfl) h ?_; clear h
 rintro v H1 ⟨ra, rb, rfl, h⟩
 refine ⟨[(8, .tuple #[.pointer ra, .int .i64 rb])], ps (by kernel_rfl), ?_⟩
 refine N_run 5 [(4, .pointer ra), (5, .int .i64 rb)] (fun _=>by kernel_rfl) ?_
 refine T_e ?_
 refine S_seq kk5 kk6 (by kernel_rfl) ?_
 refine T_sr 2 kk7 kk8 ?_
 refine N_run 2 [(4, .pointer ra), (5, .int .i64 rb), (12, .bool (rb != 0))] (fun _=>by kernel_rfl) ?_
 refine T_e ?_
 by_cases c1 : rb = 0
 ·rw [if_pos c1] at h
  have b2 : (rb != 0) = false := bne_eq_false_iff_eq.mpr c1
  refine S_env [(4, .pointer ra), (5, .int .i64 rb), (12, .bool false)] (by simp only [b2, Bool.not_true, Bool.not_false]) ?_
  clear b2
  refine S_condF (.tmp 12) kk9 kk10 (by kernel_rfl) (by kernel_rfl) ?_
  refine S_skip (by kernel_rfl) ?_
  refine S_then ?_
  refine T_sr 4 kk11 kk12 ?_
  refine N_run 2 [(15, .agg #[.pointer ra, .int .i64 0, .int .i64 0, .int .i64 0, .int .i64 0, .int .i64 0, .int .i64 0, .int .i64 0, .int .i64 0, .int .i64 0, .int .i64 0, .int .i64 0, .int .i64 0, .int .i64 0, .int .i64 0, .int .i64 0, .int .i64 0, .int .i64 0, .int .i64 0, .int .i64 0, .int .i64 0])] (fun _=>by kernel_rfl) ?_
  refine N_new (some 16) (fun b => .pointer (some (Addr.mk b 0 none))) (.cells #[.pointer ra, .int .i64 0, .int .i64 0, .int .i64 0, .int .i64 0, .int .i64 0, .int .i64 0, .int .i64 0, .int .i64 0, .int .i64 0, .int .i64 0, .int .i64 0, .int .i64 0, .int .i64 0, .int .i64 0, .int .i64 0, .int .i64 0, .int .i64 0, .int .i64 0, .int .i64 0, .int .i64 0] 72) (fun _=>by kernel_rfl) ?_
  intro b H2 e3 e4
  replace h := h b H2 e3 e4
  refine ⟨[(16, .pointer (some (Addr.mk b 0 none)))], ps (by kernel_rfl), ?_⟩
  refine N_run 2 [(2, .pointer (some (Addr.mk b 0 none))), (3, .int .i64 0)] (fun _=>by kernel_rfl) ?_
  refine T_e ?_
  refine S_ret (by kernel_rfl) ?_
  show At _ _ _ _ _ (Q .ret)
  exact S_done (fn := Tryz.f45) [.pointer (some (Addr.mk b 0 none)), .int .i64 0] hQ (show ResOK _ _ _ [.tmp 2, .tmp 3] _ from .tmp (by kernel_rfl) (.tmp (by kernel_rfl) (.nil))) h
 ·rw [if_neg c1] at h
  have b2 : (rb != 0) = true := bne_iff_ne.mpr c1
  refine S_env [(4, .pointer ra), (5, .int .i64 rb), (12, .bool true)] (by simp only [b2, Bool.not_true, Bool.not_false]) ?_
  clear b2
  refine S_condT (.tmp 12) kk9 kk10 (by kernel_rfl) (by kernel_rfl) ?_
  refine T_sr 3 kk13 kk14 ?_
  refine N_run 3 [(2, .pointer none), (3, .int .i64 rb)] (fun _=>by kernel_rfl) ?_
  refine T_e ?_
  refine S_ret (by kernel_rfl) ?_
  show At _ _ _ _ _ (Q .ret)
  exact S_done (fn := Tryz.f45) [.pointer none, .int .i64 rb] hQ (show ResOK _ _ _ [.tmp 2, .tmp 3] _ from .tmp (by kernel_rfl) (.tmp (by kernel_rfl) (.nil))) h
end space_New

/-! (*moraine/space.Space).Alloc -/
namespace space_Space_Alloc
def kk0 := Func.code Tryz.f53
def kk1 := Code.fa kk0
def kk2 := Code.fb kk0
def kk3 := Code.fa kk2
def kk4 := Code.fb kk2
def kk5 := Code.fa kk3
def kk6 := Code.fb kk3
def kk7 := Code.fa kk6
def kk8 := Code.fb kk6
def kk9 := Code.fa kk7
def kk10 := Code.fb kk7
def kk11 := Code.fa kk4
def kk12 := Code.fb kk4
def kk13 := Code.fa kk11
def kk14 := Code.fb kk11
def kk15 := Code.fa kk14
def kk16 := Code.fb kk14
def kk17 := Code.fa kk16
def kk18 := Code.fb kk16
def kk19 := Code.fa kk12
def kk20 := Code.fb kk12
def kk21 := Code.fa kk20
def kk22 := Code.fb kk20
def kk23 := Code.fa kk21
def kk24 := Code.fb kk21
def kk25 := Code.fa kk24
def kk26 := Code.fb kk24
def kk27 := Code.fa kk22
def kk28 := Code.fb kk22
def kk29 := Code.fa kk28
def kk30 := Code.fb kk28
def kk31 := Code.fa kk25
def kk32 := Code.fb kk25
def kk33 := Code.fa kk17
def kk34 := Code.fb kk17
def kk35 := Code.fa kk34
def kk36 := Code.fb kk34
def kk37 := Code.fa kk36
def kk38 := Code.fb kk36
def kk39 := Code.fa kk37
def kk40 := Code.fb kk37
end space_Space_Alloc
def space_Space_Alloc.pt (s : Option Addr) (gen : Int) (kind : Int) (nv : Int) (H : Array Obj) (R : Value → Array Obj → Prop) : Prop :=
 space_Space_none.C s H (fun v H1 => ∃ x : Bool, v = .bool x ∧ 
 if x = true then (
 R (.tuple #[.int .i64 0, .int .i64 1]) H1)
 else
 space_may.C gen kind nv H1 (fun v_2 H2 => ∃ x_2 : Bool, v_2 = .bool x_2 ∧ 
 if x_2 = true then (
 space_Space_Current.C s gen kind H2 (fun v_3 H3 => ∃ ra : Int, ∃ rb : Bool, v_3 = .tuple #[.int .i64 ra, .bool rb] ∧ 
 ∃ J : Array Obj → Prop, (
 if rb = true then (
 ∃ sA_2 : Addr, s = some sA_2 ∧
 ∃ x_5 : Option Addr, hat H3 sA_2 = some (.pointer x_5) ∧
 seg_Mem_Bump.C x_5 ra nv H3 (fun v_6 H8 => ∃ ra_4 : Int, ∃ rb_4 : Int, v_6 = .tuple #[.int .i64 ra_4, .int .i64 rb_4] ∧ 
 if rb_4 = 0 then (
 R (.tuple #[.int .i64 ra_4, .int .i64 0]) H8)
 else
 J H8))
 else
 J H3) ∧ ∀ (H4 : Array Obj), J H4 →
 ∃ sA : Addr, s = some sA ∧
 ∃ x_3 : Option Addr, hat H4 sA = some (.pointer x_3) ∧
 seg_Mem_Take.C x_3 gen kind H4 (fun v_4 H5 => ∃ ra_2 : Int, ∃ rb_2 : Int, v_4 = .tuple #[.int .i64 ra_2, .int .i64 rb_2] ∧ 
 if rb_2 = 0 then (
 ((0 : Int) ≤ gen ∧ gen < (5 : Int)) ∧
 ((0 : Int) ≤ kind ∧ kind < (4 : Int)) ∧
 (CanPuts H5 (((sA.add 1).add (Int.toNat gen * 4)).add (Int.toNat kind * 1)) 0 1) ∧ ∀ H6 : Array Obj, H6 = hputs H5 (((sA.add 1).add (Int.toNat gen * 4)).add (Int.toNat kind * 1)) [.int .i64 (IntKind.wrap .i64 (ra_2 + 1))] 0 →
 ∃ x_4 : Option Addr, hat H6 sA = some (.pointer x_4) ∧
 seg_Mem_Bump.C x_4 ra_2 nv H6 (fun v_5 H7 => ∃ ra_3 : Int, ∃ rb_3 : Int, v_5 = .tuple #[.int .i64 ra_3, .int .i64 rb_3] ∧ 
 R (.tuple #[.int .i64 ra_3, .int .i64 rb_3]) H7))
 else
 R (.tuple #[.int .i64 0, .int .i64 rb_2]) H5)))
 else
 R (.tuple #[.int .i64 0, .int .i64 1]) H2))
namespace space_Space_Alloc
set_option maxRecDepth 100000 in
theorem link {s : Option Addr} {gen : Int} {kind : Int} {nv : Int} {H : Array Obj} {R : Value → Array Obj → Prop} (h : pt s gen kind nv H R) : C s gen kind nv H R := by
 refine S_enter (fn := Tryz.f53) (c := kk0) 77 Tryz.func53 (by kernel_rfl) (by kernel_rfl) (Nat.le_of_ble_eq_true (by kernel_rfl)) ?_
 intro w0 Q hQ
 unfold pt at h
 refine S_sub [(0, .pointer s), (1, .int .i64 gen), (2, .int .i64 kind), (3, .int .i64 nv)] (sb (by kernel_rfl)) ?_
 refine T_sr 0 kk1 kk2 ?_
 refine N_run 2 [(0, .pointer s), (1, .int .i64 gen), (2, .int .i64 kind), (3, .int .i64 nv)] (fun _=>by kernel_rfl) ?_
 refine T_e ?_
 refine S_seq kk3 kk4 (by kernel_rfl) ?_
 refine T_sr 1 kk5 kk6 ?_
 refine N_run 1 [(0, .pointer s), (1, .int .i64 gen), (2, .int .i64 kind), (3, .int .i64 nv), (16, .pointer s)] (fun _=>by kernel_rfl) ?_
 refine N_call (some 17) 26 #[.pointer s] (fun _=>by kernel_rfl) h ?_; clear h
 rintro v H1 ⟨x, rfl, h⟩
 refine ⟨[(0, .pointer s), (1, .int .i64 gen), (2, .int .i64 kind), (3, .int .i64 nv), (17, .bool x)], ps (by kernel_rfl), ?_⟩
 refine N_run 1 [(0, .pointer s), (1, .int .i64 gen), (2, .int .i64 kind), (3, .int .i64 nv), (18, .bool x)] (fun _=>by kernel_rfl) ?_
 by_cases c1 : x = true
 ·rw [if_pos c1] at h
  have b2 : x = true := c1
  refine N_env [(0, .pointer s), (1, .int .i64 gen), (2, .int .i64 kind), (3, .int .i64 nv), (18, .bool true)] (by simp only [b2, Bool.not_true, Bool.not_false]) ?_
  clear b2
  refine N_run 6 [(0, .pointer s), (1, .int .i64 gen), (2, .int .i64 kind), (3, .int .i64 nv), (24, .bool true)] (fun _=>by kernel_rfl) ?_
  refine T_e ?_
  refine S_condT (.tmp 24) kk7 kk8 (by kernel_rfl) (by kernel_rfl) ?_
  refine T_sr 2 kk9 kk10 ?_
  refine N_run 2 [(8, .int .i64 0), (9, .int .i64 1)] (fun _=>by kernel_rfl) ?_
  refine T_e ?_
  refine S_ret (by kernel_rfl) ?_
  show At _ _ _ _ _ (Q .ret)
  exact S_done (fn := Tryz.f53) [.int .i64 0, .int .i64 1] hQ (show ResOK _ _ _ [.tmp 8, .tmp 9] _ from .tmp (by kernel_rfl) (.tmp (by kernel_rfl) (.nil))) h
 ·rw [if_neg c1] at h
  have b2 : x = false := eq_false_of_ne_true c1
  refine N_env [(0, .pointer s), (1, .int .i64 gen), (2, .int .i64 kind), (3, .int .i64 nv), (18, .bool false)] (by simp only [b2, Bool.not_true, Bool.not_false]) ?_
  clear b2
  refine N_run 3 [(0, .pointer s), (1, .int .i64 gen), (2, .int .i64 kind), (3, .int .i64 nv), (18, .bool false), (19, .int .i64 gen), (20, .int .i64 kind), (21, .int .i64 nv)] (fun _=>by kernel_rfl) ?_
  refine N_call (some 22) 74 #[.int .i64 gen, .int .i64 kind, .int .i64 nv] (fun _=>by kernel_rfl) h ?_; clear h
  rintro v_2 H2 ⟨x_2, rfl, h⟩
  refine ⟨[(0, .pointer s), (1, .int .i64 gen), (2, .int .i64 kind), (3, .int .i64 nv), (18, .bool false), (22, .bool x_2)], ps (by kernel_rfl), ?_⟩
  refine N_run 2 [(0, .pointer s), (1, .int .i64 gen), (2, .int .i64 kind), (3, .int .i64 nv), (24, .bool (!x_2))] (fun _=>by kernel_rfl) ?_
  refine T_e ?_
  by_cases c3 : x_2 = true
  ·rw [if_pos c3] at h
   have b4 : (!x_2) = false := congrArg Bool.not (c3)
   have b42 : x_2 = true := c3
   refine S_env [(0, .pointer s), (1, .int .i64 gen), (2, .int .i64 kind), (3, .int .i64 nv), (24, .bool false)] (by simp only [b4, b42, Bool.not_true, Bool.not_false]) ?_
   clear b4 b42
   refine S_condF (.tmp 24) kk7 kk8 (by kernel_rfl) (by kernel_rfl) ?_
   refine S_skip (by kernel_rfl) ?_
   refine S_then ?_
   refine S_seq kk11 kk12 (by kernel_rfl) ?_
   refine T_sr 3 kk13 kk14 ?_
   refine N_run 3 [(0, .pointer s), (1, .int .i64 gen), (2, .int .i64 kind), (3, .int .i64 nv), (26, .pointer s), (27, .int .i64 gen), (28, .int .i64 kind)] (fun _=>by kernel_rfl) ?_
   refine N_call (some 29) 75 #[.pointer s, .int .i64 gen, .int .i64 kind] (fun _=>by kernel_rfl) h ?_; clear h
   rintro v_3 H3 ⟨ra, rb, rfl, h⟩
   refine ⟨[(0, .pointer s), (1, .int .i64 gen), (2, .int .i64 kind), (3, .int .i64 nv), (29, .tuple #[.int .i64 ra, .bool rb])], ps (by kernel_rfl), ?_⟩
   refine N_run 5 [(0, .pointer s), (1, .int .i64 gen), (2, .int .i64 kind), (3, .int .i64 nv), (10, .int .i64 ra), (11, .bool rb)] (fun _=>by kernel_rfl) ?_
   refine T_e ?_
   refine T_sr 4 kk15 kk16 ?_
   refine N_run 1 [(0, .pointer s), (1, .int .i64 gen), (2, .int .i64 kind), (3, .int .i64 nv), (10, .int .i64 ra), (32, .bool rb)] (fun _=>by kernel_rfl) ?_
   refine T_e ?_
   obtain ⟨J, h, j6⟩ := h
   refine S_join (σ := Unit) (fun s_ => [(0, .pointer s), (1, .int .i64 gen), (2, .int .i64 kind), (3, .int .i64 nv)]) (fun s_ H => J  H) ?_ ?_
   ·rintro _ H4 j7
    replace h := j6 H4 j7
    refine S_sub [(0, .pointer s), (1, .int .i64 gen), (2, .int .i64 kind), (3, .int .i64 nv)] (sb (by kernel_rfl)) ?_
    refine S_then ?_
    refine T_sr 8 kk19 kk20 ?_
    refine N_run 1 [(0, .pointer s), (1, .int .i64 gen), (2, .int .i64 kind), (3, .int .i64 nv), (47, .pointer s)] (fun _=>by kernel_rfl) ?_
    obtain ⟨sA, rfl, h⟩ := h
    refine N_run 2 [(0, .pointer (some sA)), (1, .int .i64 gen), (2, .int .i64 kind), (3, .int .i64 nv), (49, .pointer (some sA))] (fun _=>by kernel_rfl) ?_
    obtain ⟨x_3, q8, h⟩ := h
    refine N_val (some 50) (loadN 68 (.pointer (some sA))) (.pointer x_3) (fun _=>by kernel_rfl) (loadN_run (loadOK_one (fun _=>by kernel_rfl) q8)) [(0, .pointer (some sA)), (1, .int .i64 gen), (2, .int .i64 kind), (3, .int .i64 nv), (50, .pointer x_3)] (ps (by kernel_rfl)) ?_
    refine N_run 2 [(0, .pointer (some sA)), (1, .int .i64 gen), (2, .int .i64 kind), (3, .int .i64 nv), (50, .pointer x_3), (51, .int .i64 gen), (52, .int .i64 kind)] (fun _=>by kernel_rfl) ?_
    refine N_call (some 53) 77 #[.pointer x_3, .int .i64 gen, .int .i64 kind] (fun _=>by kernel_rfl) h ?_; clear h
    rintro v_4 H5 ⟨ra_2, rb_2, rfl, h⟩
    refine ⟨[(0, .pointer (some sA)), (1, .int .i64 gen), (2, .int .i64 kind), (3, .int .i64 nv), (53, .tuple #[.int .i64 ra_2, .int .i64 rb_2])], ps (by kernel_rfl), ?_⟩
    refine N_run 5 [(0, .pointer (some sA)), (1, .int .i64 gen), (2, .int .i64 kind), (3, .int .i64 nv), (14, .int .i64 ra_2), (15, .int .i64 rb_2)] (fun _=>by kernel_rfl) ?_
    refine T_e ?_
    refine S_seq kk21 kk22 (by kernel_rfl) ?_
    refine T_sr 9 kk23 kk24 ?_
    refine N_run 2 [(0, .pointer (some sA)), (1, .int .i64 gen), (2, .int .i64 kind), (3, .int .i64 nv), (14, .int .i64 ra_2), (15, .int .i64 rb_2), (57, .bool (rb_2 != 0))] (fun _=>by kernel_rfl) ?_
    refine T_e ?_
    by_cases c9 : rb_2 = 0
    ·rw [if_pos c9] at h
     have b10 : (rb_2 != 0) = false := bne_eq_false_iff_eq.mpr c9
     refine S_env [(0, .pointer (some sA)), (1, .int .i64 gen), (2, .int .i64 kind), (3, .int .i64 nv), (14, .int .i64 ra_2), (15, .int .i64 rb_2), (57, .bool false)] (by simp only [b10, Bool.not_true, Bool.not_false]) ?_
     clear b10
     refine S_condF (.tmp 57) kk25 kk26 (by kernel_rfl) (by kernel_rfl) ?_
     refine S_skip (by kernel_rfl) ?_
     refine S_then ?_
     refine T_sr 11 kk27 kk28 ?_
     refine N_run 7 [(0, .pointer (some sA)), (3, .int .i64 nv), (14, .int .i64 ra_2), (60, .int .i64 gen), (61, .int .i64 kind), (63, .int .i64 (IntKind.wrap .i64 (ra_2 + 1))), (65, .pointer (some (sA.add 1)))] (fun _=>by kernel_rfl) ?_
     obtain ⟨q11, h⟩ := h
     refine N_val (some 66) (indexAtN 70 (.pointer (some (sA.add 1))) (.int .i64 gen)) (.pointer (some ((sA.add 1).add (Int.toNat gen * 4)))) (fun _=>by kernel_rfl) (fun w _ => indexArr_run (P := Tryz.prog) (t := 70) (elem := 69) (sz := 4) (n := 5) (a := (sA.add 1)) (k := .i64) (i := gen) Tryz.underlying70 (fun _=>by kernel_rfl) q11.1 q11.2 w) [(0, .pointer (some sA)), (3, .int .i64 nv), (14, .int .i64 ra_2), (61, .int .i64 kind), (63, .int .i64 (IntKind.wrap .i64 (ra_2 + 1))), (66, .pointer (some ((sA.add 1).add (Int.toNat gen * 4))))] (ps (by kernel_rfl)) ?_
     obtain ⟨q12, h⟩ := h
     refine N_val (some 67) (indexAtN 69 (.pointer (some ((sA.add 1).add (Int.toNat gen * 4)))) (.int .i64 kind)) (.pointer (some (((sA.add 1).add (Int.toNat gen * 4)).add (Int.toNat kind * 1)))) (fun _=>by kernel_rfl) (fun w _ => indexArr_run (P := Tryz.prog) (t := 69) (elem := 3) (sz := 1) (n := 4) (a := ((sA.add 1).add (Int.toNat gen * 4))) (k := .i64) (i := kind) Tryz.underlying69 (fun _=>by kernel_rfl) q12.1 q12.2 w) [(0, .pointer (some sA)), (3, .int .i64 nv), (14, .int .i64 ra_2), (63, .int .i64 (IntKind.wrap .i64 (ra_2 + 1))), (67, .pointer (some (((sA.add 1).add (Int.toNat gen * 4)).add (Int.toNat kind * 1))))] (ps (by kernel_rfl)) ?_
     obtain ⟨q14, h⟩ := h
     refine N_skipop none (storeN 3 (.pointer (some (((sA.add 1).add (Int.toNat gen * 4)).add (Int.toNat kind * 1)))) (.int .i64 (IntKind.wrap .i64 (ra_2 + 1)))) (fun Hz => Hz = hputs H5 (((sA.add 1).add (Int.toNat gen * 4)).add (Int.toNat kind * 1)) [.int .i64 (IntKind.wrap .i64 (ra_2 + 1))] 0) (fun _=>by kernel_rfl) (ss_store [.int .i64 (IntKind.wrap .i64 (ra_2 + 1))] 1 (by kernel_rfl) (by kernel_rfl) (fun _=>by kernel_rfl) (by kernel_rfl) q14) ?_
     intro H6 e13
     replace h := h H6 e13
     refine ⟨[(0, .pointer (some sA)), (3, .int .i64 nv), (14, .int .i64 ra_2)], ps (by kernel_rfl), ?_⟩
     refine T_e ?_
     refine T_sr 12 kk29 kk30 ?_
     refine N_run 3 [(3, .int .i64 nv), (14, .int .i64 ra_2), (70, .pointer (some sA))] (fun _=>by kernel_rfl) ?_
     obtain ⟨x_4, q15, h⟩ := h
     refine N_val (some 71) (loadN 68 (.pointer (some sA))) (.pointer x_4) (fun _=>by kernel_rfl) (loadN_run (loadOK_one (fun _=>by kernel_rfl) q15)) [(3, .int .i64 nv), (14, .int .i64 ra_2), (71, .pointer x_4)] (ps (by kernel_rfl)) ?_
     refine N_run 2 [(71, .pointer x_4), (72, .int .i64 ra_2), (73, .int .i64 nv)] (fun _=>by kernel_rfl) ?_
     refine N_call (some 74) 76 #[.pointer x_4, .int .i64 ra_2, .int .i64 nv] (fun _=>by kernel_rfl) h ?_; clear h
     rintro v_5 H7 ⟨ra_3, rb_3, rfl, h⟩
     refine ⟨[(74, .tuple #[.int .i64 ra_3, .int .i64 rb_3])], ps (by kernel_rfl), ?_⟩
     refine N_run 4 [(8, .int .i64 ra_3), (9, .int .i64 rb_3)] (fun _=>by kernel_rfl) ?_
     refine T_e ?_
     refine S_ret (by kernel_rfl) ?_
     show At _ _ _ _ _ (Q .ret)
     exact S_done (fn := Tryz.f53) [.int .i64 ra_3, .int .i64 rb_3] hQ (show ResOK _ _ _ [.tmp 8, .tmp 9] _ from .tmp (by kernel_rfl) (.tmp (by kernel_rfl) (.nil))) h
    ·rw [if_neg c9] at h
     have b10 : (rb_2 != 0) = true := bne_iff_ne.mpr c9
     refine S_env [(0, .pointer (some sA)), (1, .int .i64 gen), (2, .int .i64 kind), (3, .int .i64 nv), (14, .int .i64 ra_2), (15, .int .i64 rb_2), (57, .bool true)] (by simp only [b10, Bool.not_true, Bool.not_false]) ?_
     clear b10
     refine S_condT (.tmp 57) kk25 kk26 (by kernel_rfl) (by kernel_rfl) ?_
     refine T_sr 10 kk31 kk32 ?_
     refine N_run 3 [(8, .int .i64 0), (9, .int .i64 rb_2)] (fun _=>by kernel_rfl) ?_
     refine T_e ?_
     refine S_ret (by kernel_rfl) ?_
     show At _ _ _ _ _ (Q .ret)
     exact S_done (fn := Tryz.f53) [.int .i64 0, .int .i64 rb_2] hQ (show ResOK _ _ _ [.tmp 8, .tmp 9] _ from .tmp (by kernel_rfl) (.tmp (by kernel_rfl) (.nil))) h
   ·by_cases c16 : rb = true
    ·rw [if_pos c16] at h
     have b17 : rb = true := c16
     refine S_env [(0, .pointer s), (1, .int .i64 gen), (2, .int .i64 kind), (3, .int .i64 nv), (10, .int .i64 ra), (32, .bool true)] (by simp only [b17, Bool.not_true, Bool.not_false]) ?_
     clear b17
     refine S_condT (.tmp 32) kk17 kk18 (by kernel_rfl) (by kernel_rfl) ?_
     refine T_sr 5 kk33 kk34 ?_
     refine N_run 1 [(0, .pointer s), (1, .int .i64 gen), (2, .int .i64 kind), (3, .int .i64 nv), (10, .int .i64 ra), (34, .pointer s)] (fun _=>by kernel_rfl) ?_
     obtain ⟨sA_2, rfl, h⟩ := h
     refine N_run 2 [(0, .pointer (some sA_2)), (1, .int .i64 gen), (2, .int .i64 kind), (3, .int .i64 nv), (10, .int .i64 ra), (36, .pointer (some sA_2))] (fun _=>by kernel_rfl) ?_
     obtain ⟨x_5, q18, h⟩ := h
     refine N_val (some 37) (loadN 68 (.pointer (some sA_2))) (.pointer x_5) (fun _=>by kernel_rfl) (loadN_run (loadOK_one (fun _=>by kernel_rfl) q18)) [(0, .pointer (some sA_2)), (1, .int .i64 gen), (2, .int .i64 kind), (3, .int .i64 nv), (10, .int .i64 ra), (37, .pointer x_5)] (ps (by kernel_rfl)) ?_
     refine N_run 2 [(0, .pointer (some sA_2)), (1, .int .i64 gen), (2, .int .i64 kind), (3, .int .i64 nv), (37, .pointer x_5), (38, .int .i64 ra), (39, .int .i64 nv)] (fun _=>by kernel_rfl) ?_
     refine N_call (some 40) 76 #[.pointer x_5, .int .i64 ra, .int .i64 nv] (fun _=>by kernel_rfl) h ?_; clear h
     rintro v_6 H8 ⟨ra_4, rb_4, rfl, h⟩
     refine ⟨[(0, .pointer (some sA_2)), (1, .int .i64 gen), (2, .int .i64 kind), (3, .int .i64 nv), (40, .tuple #[.int .i64 ra_4, .int .i64 rb_4])], ps (by kernel_rfl), ?_⟩
     refine N_run 5 [(0, .pointer (some sA_2)), (1, .int .i64 gen), (2, .int .i64 kind), (3, .int .i64 nv), (12, .int .i64 ra_4), (13, .int .i64 rb_4)] (fun _=>by kernel_rfl) ?_
     refine T_e ?_
     refine T_sr 6 kk35 kk36 ?_
     refine N_run 2 [(0, .pointer (some sA_2)), (1, .int .i64 gen), (2, .int .i64 kind), (3, .int .i64 nv), (12, .int .i64 ra_4), (44, .bool (rb_4 == 0))] (fun _=>by kernel_rfl) ?_
     refine T_e ?_
     by_cases c19 : rb_4 = 0
     ·rw [if_pos c19] at h
      have b20 : (rb_4 == 0) = true := beq_iff_eq.mpr c19
      refine S_env [(0, .pointer (some sA_2)), (1, .int .i64 gen), (2, .int .i64 kind), (3, .int .i64 nv), (12, .int .i64 ra_4), (44, .bool true)] (by simp only [b20, Bool.not_true, Bool.not_false]) ?_
      clear b20
      refine S_condT (.tmp 44) kk37 kk38 (by kernel_rfl) (by kernel_rfl) ?_
      refine T_sr 7 kk39 kk40 ?_
      refine N_run 3 [(8, .int .i64 ra_4), (9, .int .i64 0)] (fun _=>by kernel_rfl) ?_
      refine T_e ?_
      refine S_ret (by kernel_rfl) ?_
      show At _ _ _ _ _ (Q .ret)
      exact S_done (fn := Tryz.f53) [.int .i64 ra_4, .int .i64 0] hQ (show ResOK _ _ _ [.tmp 8, .tmp 9] _ from .tmp (by kernel_rfl) (.tmp (by kernel_rfl) (.nil))) h
     ·rw [if_neg c19] at h
      have b20 : (rb_4 == 0) = false := beq_eq_false_iff_ne.mpr c19
      refine S_env [(0, .pointer (some sA_2)), (1, .int .i64 gen), (2, .int .i64 kind), (3, .int .i64 nv), (12, .int .i64 ra_4), (44, .bool false)] (by simp only [b20, Bool.not_true, Bool.not_false]) ?_
      clear b20
      refine S_condF (.tmp 44) kk37 kk38 (by kernel_rfl) (by kernel_rfl) ?_
      refine S_skip (by kernel_rfl) ?_
      refine S_then ?_
      exact S_meet (() : Unit) (sb (by kernel_rfl)) h
    ·rw [if_neg c16] at h
     have b17 : rb = false := eq_false_of_ne_true c16
     refine S_env [(0, .pointer s), (1, .int .i64 gen), (2, .int .i64 kind), (3, .int .i64 nv), (10, .int .i64 ra), (32, .bool false)] (by simp only [b17, Bool.not_true, Bool.not_false]) ?_
     clear b17
     refine S_condF (.tmp 32) kk17 kk18 (by kernel_rfl) (by kernel_rfl) ?_
     refine S_skip (by kernel_rfl) ?_
     refine S_then ?_
     exact S_meet (() : Unit) (sb (by kernel_rfl)) h
  ·rw [if_neg c3] at h
   have b4 : (!x_2) = true := congrArg Bool.not (eq_false_of_ne_true c3)
   have b42 : x_2 = false := eq_false_of_ne_true c3
   refine S_env [(0, .pointer s), (1, .int .i64 gen), (2, .int .i64 kind), (3, .int .i64 nv), (24, .bool true)] (by simp only [b4, b42, Bool.not_true, Bool.not_false]) ?_
   clear b4 b42
   refine S_condT (.tmp 24) kk7 kk8 (by kernel_rfl) (by kernel_rfl) ?_
   refine T_sr 2 kk9 kk10 ?_
   refine N_run 2 [(8, .int .i64 0), (9, .int .i64 1)] (fun _=>by kernel_rfl) ?_
   refine T_e ?_
   refine S_ret (by kernel_rfl) ?_
   show At _ _ _ _ _ (Q .ret)
   exact S_done (fn := Tryz.f53) [.int .i64 0, .int .i64 1] hQ (show ResOK _ _ _ [.tmp 8, .tmp 9] _ from .tmp (by kernel_rfl) (.tmp (by kernel_rfl) (.nil))) h
end space_Space_Alloc

/-! moraine/space.may -/
namespace space_may
def kk0 := Func.code Tryz.f74
def kk1 := Code.fa kk0
def kk2 := Code.fb kk0
def kk3 := Code.fa kk2
def kk4 := Code.fb kk2
def kk5 := Code.fa kk3
def kk6 := Code.fa kk5
def kk7 := Code.fb kk5
def kk8 := Code.fa kk7
def kk9 := Code.fb kk7
def kk10 := Code.fa kk8
def kk11 := Code.fb kk8
def kk12 := Code.fa kk9
def kk13 := Code.fb kk9
def kk14 := Code.fa kk13
def kk15 := Code.fb kk13
def kk16 := Code.fa kk14
def kk17 := Code.fb kk14
def kk18 := Code.fa kk4
def kk19 := Code.fb kk4
end space_may
def space_may.pt (gen : Int) (kind : Int) (nv : Int) (H : Array Obj) (R : Value → Array Obj → Prop) : Prop :=
 if ((decide (gen < 0)) || (decide (gen > 4))) = true then (
 R (.bool false) H)
 else
 if ((kind == 0) || (kind == 1)) = true then (
 R (.bool (nv == 2)) H)
 else
 R (.bool ((((kind == 2) || (kind == 3)) && (decide (nv ≥ 1))) && (decide (nv ≤ 63)))) H
namespace space_may
set_option maxRecDepth 100000 in
theorem link {gen : Int} {kind : Int} {nv : Int} {H : Array Obj} {R : Value → Array Obj → Prop} (h : pt gen kind nv H R) : C gen kind nv H R := by
 refine S_enter (fn := Tryz.f74) (c := kk0) 37 Tryz.func74 (by kernel_rfl) (by kernel_rfl) (Nat.le_of_ble_eq_true (by kernel_rfl)) ?_
 intro w0 Q hQ
 unfold pt at h
 refine S_sub [(0, .int .i64 gen), (1, .int .i64 kind), (2, .int .i64 nv)] (sb (by kernel_rfl)) ?_
 refine T_sr 0 kk1 kk2 ?_
 refine N_run 1 [(0, .int .i64 gen), (1, .int .i64 kind), (2, .int .i64 nv)] (fun _=>by kernel_rfl) ?_
 refine T_e ?_
 refine S_seq kk3 kk4 (by kernel_rfl) ?_
 refine S_block 0 kk5 (by kernel_rfl) ?_
 refine T_sr 1 kk6 kk7 ?_
 refine N_cut [(1, .int .i64 kind), (2, .int .i64 nv), (7, .bool ((decide (gen < 0)) || (decide (gen > 4))))] ?_ ?_
 ·refine S_then ?_
  by_cases c3 : ((decide (gen < 0)) || (decide (gen > 4))) = true
  ·rw [if_pos c3] at h
   have b4 : ((decide (gen < 0)) || (decide (gen > 4))) = true := c3
   refine S_env [(1, .int .i64 kind), (2, .int .i64 nv), (7, .bool true)] (by simp only [b4, Bool.not_true, Bool.not_false]) ?_
   clear b4
   refine S_condT (.tmp 7) kk8 kk9 (by kernel_rfl) (by kernel_rfl) ?_
   refine T_sr 2 kk10 kk11 ?_
   refine N_run 1 [(6, .bool false)] (fun _=>by kernel_rfl) ?_
   refine T_e ?_
   refine S_ret (by kernel_rfl) ?_
   show At _ _ _ _ _ (Q .ret)
   exact S_done (fn := Tryz.f74) [.bool false] hQ (show ResOK _ _ _ [.tmp 6] _ from .tmp (by kernel_rfl) (.nil)) h
  ·rw [if_neg c3] at h
   have b4 : ((decide (gen < 0)) || (decide (gen > 4))) = false := eq_false_of_ne_true c3
   refine S_env [(1, .int .i64 kind), (2, .int .i64 nv), (7, .bool false)] (by simp only [b4, Bool.not_true, Bool.not_false]) ?_
   clear b4
   refine S_condF (.tmp 7) kk8 kk9 (by kernel_rfl) (by kernel_rfl) ?_
   refine T_sr 3 kk12 kk13 ?_
   refine N_cut [(1, .int .i64 kind), (2, .int .i64 nv), (14, .bool ((kind == 0) || (kind == 1)))] ?_ ?_
   ·refine S_then ?_
    by_cases c7 : ((kind == 0) || (kind == 1)) = true
    ·rw [if_pos c7] at h
     have b8 : ((kind == 0) || (kind == 1)) = true := c7
     refine S_env [(1, .int .i64 kind), (2, .int .i64 nv), (14, .bool true)] (by simp only [b8, Bool.not_true, Bool.not_false]) ?_
     clear b8
     refine S_condT (.tmp 14) kk14 kk15 (by kernel_rfl) (by kernel_rfl) ?_
     refine T_sr 4 kk16 kk17 ?_
     refine N_run 3 [(6, .bool (nv == 2))] (fun _=>by kernel_rfl) ?_
     refine T_e ?_
     refine S_ret (by kernel_rfl) ?_
     show At _ _ _ _ _ (Q .ret)
     exact S_done (fn := Tryz.f74) [.bool (nv == 2)] hQ (show ResOK _ _ _ [.tmp 6] _ from .tmp (by kernel_rfl) (.nil)) h
    ·rw [if_neg c7] at h
     have b8 : ((kind == 0) || (kind == 1)) = false := eq_false_of_ne_true c7
     refine S_env [(1, .int .i64 kind), (2, .int .i64 nv), (14, .bool false)] (by simp only [b8, Bool.not_true, Bool.not_false]) ?_
     clear b8
     refine S_condF (.tmp 14) kk14 kk15 (by kernel_rfl) (by kernel_rfl) ?_
     refine S_skip (by kernel_rfl) ?_
     refine S_blockEnd ?_
     refine S_then ?_
     refine T_sr 5 kk18 kk19 ?_
     refine N_cut [(6, .bool ((((kind == 2) || (kind == 3)) && (decide (nv ≥ 1))) && (decide (nv ≤ 63))))] ?_ ?_
     ·refine S_then ?_
      refine S_ret (by kernel_rfl) ?_
      show At _ _ _ _ _ (Q .ret)
      exact S_done (fn := Tryz.f74) [.bool ((((kind == 2) || (kind == 3)) && (decide (nv ≥ 1))) && (decide (nv ≤ 63)))] hQ (show ResOK _ _ _ [.tmp 6] _ from .tmp (by kernel_rfl) (.nil)) h
     ·intro hk
      refine N_run 3 [(1, .int .i64 kind), (2, .int .i64 nv), (25, .bool (kind == 2))] (fun _=>by kernel_rfl) ?_
      by_cases c9 : kind = 2
      ·have b10 : (kind == 2) = true := beq_iff_eq.mpr c9
       refine N_env [(1, .int .i64 kind), (2, .int .i64 nv), (25, .bool true)] (by simp only [b10, Bool.not_true, Bool.not_false]) ?_
       refine N_run 8 [(2, .int .i64 nv), (33, .bool (decide (nv ≥ 1)))] (fun _=>by kernel_rfl) ?_
       by_cases c11 : nv ≥ 1
       ·have b12 : (decide (nv ≥ 1)) = true := decide_eq_true c11
        refine N_env [(2, .int .i64 nv), (33, .bool true)] (by simp only [b12, Bool.not_true, Bool.not_false]) ?_
        refine N_run 4 [(6, .bool (decide (nv ≤ 63)))] (fun _=>by kernel_rfl) ?_
        refine N_end (by kernel_rfl) ?_
        refine S_env [(6, .bool ((((kind == 2) || (kind == 3)) && (decide (nv ≥ 1))) && (decide (nv ≤ 63))))] (by simp only [b10, b12, Bool.true_or, Bool.false_or, Bool.or_true, Bool.or_false, Bool.true_and, Bool.false_and, Bool.and_true, Bool.and_false, Bool.not_true, Bool.not_false, cond_true, cond_false]) ?_
        exact hk
       ·have b12 : (decide (nv ≥ 1)) = false := decide_eq_false c11
        refine N_env [(2, .int .i64 nv), (33, .bool false)] (by simp only [b12, Bool.not_true, Bool.not_false]) ?_
        refine N_run 4 [(6, .bool false)] (fun _=>by kernel_rfl) ?_
        refine N_end (by kernel_rfl) ?_
        refine S_env [(6, .bool ((((kind == 2) || (kind == 3)) && (decide (nv ≥ 1))) && (decide (nv ≤ 63))))] (by simp only [b10, b12, Bool.true_or, Bool.false_or, Bool.or_true, Bool.or_false, Bool.true_and, Bool.false_and, Bool.and_true, Bool.and_false, Bool.not_true, Bool.not_false, cond_true, cond_false]) ?_
        exact hk
      ·have b10 : (kind == 2) = false := beq_eq_false_iff_ne.mpr c9
       refine N_env [(1, .int .i64 kind), (2, .int .i64 nv), (25, .bool false)] (by simp only [b10, Bool.not_true, Bool.not_false]) ?_
       refine N_run 4 [(2, .int .i64 nv), (29, .bool (kind == 3))] (fun _=>by kernel_rfl) ?_
       by_cases c13 : kind = 3
       ·have b14 : (kind == 3) = true := beq_iff_eq.mpr c13
        refine N_env [(2, .int .i64 nv), (29, .bool true)] (by simp only [b14, Bool.not_true, Bool.not_false]) ?_
        refine N_run 4 [(2, .int .i64 nv), (33, .bool (decide (nv ≥ 1)))] (fun _=>by kernel_rfl) ?_
        by_cases c15 : nv ≥ 1
        ·have b16 : (decide (nv ≥ 1)) = true := decide_eq_true c15
         refine N_env [(2, .int .i64 nv), (33, .bool true)] (by simp only [b16, Bool.not_true, Bool.not_false]) ?_
         refine N_run 4 [(6, .bool (decide (nv ≤ 63)))] (fun _=>by kernel_rfl) ?_
         refine N_end (by kernel_rfl) ?_
         refine S_env [(6, .bool ((((kind == 2) || (kind == 3)) && (decide (nv ≥ 1))) && (decide (nv ≤ 63))))] (by simp only [b10, b14, b16, Bool.true_or, Bool.false_or, Bool.or_true, Bool.or_false, Bool.true_and, Bool.false_and, Bool.and_true, Bool.and_false, Bool.not_true, Bool.not_false, cond_true, cond_false]) ?_
         exact hk
        ·have b16 : (decide (nv ≥ 1)) = false := decide_eq_false c15
         refine N_env [(2, .int .i64 nv), (33, .bool false)] (by simp only [b16, Bool.not_true, Bool.not_false]) ?_
         refine N_run 4 [(6, .bool false)] (fun _=>by kernel_rfl) ?_
         refine N_end (by kernel_rfl) ?_
         refine S_env [(6, .bool ((((kind == 2) || (kind == 3)) && (decide (nv ≥ 1))) && (decide (nv ≤ 63))))] (by simp only [b10, b14, b16, Bool.true_or, Bool.false_or, Bool.or_true, Bool.or_false, Bool.true_and, Bool.false_and, Bool.and_true, Bool.and_false, Bool.not_true, Bool.not_false, cond_true, cond_false]) ?_
         exact hk
       ·have b14 : (kind == 3) = false := beq_eq_false_iff_ne.mpr c13
        refine N_env [(2, .int .i64 nv), (29, .bool false)] (by simp only [b14, Bool.not_true, Bool.not_false]) ?_
        refine N_run 8 [(6, .bool false)] (fun _=>by kernel_rfl) ?_
        refine N_end (by kernel_rfl) ?_
        refine S_env [(6, .bool ((((kind == 2) || (kind == 3)) && (decide (nv ≥ 1))) && (decide (nv ≤ 63))))] (by simp only [b10, b14, Bool.true_or, Bool.false_or, Bool.or_true, Bool.or_false, Bool.true_and, Bool.false_and, Bool.and_true, Bool.and_false, Bool.not_true, Bool.not_false, cond_true, cond_false]) ?_
        exact hk
   ·intro hk
    refine N_run 3 [(1, .int .i64 kind), (2, .int .i64 nv), (17, .bool (kind == 0))] (fun _=>by kernel_rfl) ?_
    by_cases c5 : kind = 0
    ·have b6 : (kind == 0) = true := beq_iff_eq.mpr c5
     refine N_env [(1, .int .i64 kind), (2, .int .i64 nv), (17, .bool true)] (by simp only [b6, Bool.not_true, Bool.not_false]) ?_
     refine N_run 4 [(1, .int .i64 kind), (2, .int .i64 nv), (14, .bool true)] (fun _=>by kernel_rfl) ?_
     refine N_end (by kernel_rfl) ?_
     refine S_env [(1, .int .i64 kind), (2, .int .i64 nv), (14, .bool ((kind == 0) || (kind == 1)))] (by simp only [b6, Bool.true_or, Bool.false_or, Bool.or_true, Bool.or_false, Bool.true_and, Bool.false_and, Bool.and_true, Bool.and_false, Bool.not_true, Bool.not_false, cond_true, cond_false]) ?_
     exact hk
    ·have b6 : (kind == 0) = false := beq_eq_false_iff_ne.mpr c5
     refine N_env [(1, .int .i64 kind), (2, .int .i64 nv), (17, .bool false)] (by simp only [b6, Bool.not_true, Bool.not_false]) ?_
     refine N_run 4 [(1, .int .i64 kind), (2, .int .i64 nv), (14, .bool (kind == 1))] (fun _=>by kernel_rfl) ?_
     refine N_end (by kernel_rfl) ?_
     refine S_env [(1, .int .i64 kind), (2, .int .i64 nv), (14, .bool ((kind == 0) || (kind == 1)))] (by simp only [b6, Bool.true_or, Bool.false_or, Bool.or_true, Bool.or_false, Bool.true_and, Bool.false_and, Bool.and_true, Bool.and_false, Bool.not_true, Bool.not_false, cond_true, cond_false]) ?_
     exact hk
 ·intro hk
  refine N_run 3 [(0, .int .i64 gen), (1, .int .i64 kind), (2, .int .i64 nv), (10, .bool (decide (gen < 0)))] (fun _=>by kernel_rfl) ?_
  by_cases c1 : gen < 0
  ·have b2 : (decide (gen < 0)) = true := decide_eq_true c1
   refine N_env [(0, .int .i64 gen), (1, .int .i64 kind), (2, .int .i64 nv), (10, .bool true)] (by simp only [b2, Bool.not_true, Bool.not_false]) ?_
   refine N_run 4 [(1, .int .i64 kind), (2, .int .i64 nv), (7, .bool true)] (fun _=>by kernel_rfl) ?_
   refine N_end (by kernel_rfl) ?_
   refine S_env [(1, .int .i64 kind), (2, .int .i64 nv), (7, .bool ((decide (gen < 0)) || (decide (gen > 4))))] (by simp only [b2, Bool.true_or, Bool.false_or, Bool.or_true, Bool.or_false, Bool.true_and, Bool.false_and, Bool.and_true, Bool.and_false, Bool.not_true, Bool.not_false, cond_true, cond_false]) ?_
   exact hk
  ·have b2 : (decide (gen < 0)) = false := decide_eq_false c1
   refine N_env [(0, .int .i64 gen), (1, .int .i64 kind), (2, .int .i64 nv), (10, .bool false)] (by simp only [b2, Bool.not_true, Bool.not_false]) ?_
   refine N_run 4 [(1, .int .i64 kind), (2, .int .i64 nv), (7, .bool (decide (gen > 4)))] (fun _=>by kernel_rfl) ?_
   refine N_end (by kernel_rfl) ?_
   refine S_env [(1, .int .i64 kind), (2, .int .i64 nv), (7, .bool ((decide (gen < 0)) || (decide (gen > 4))))] (by simp only [b2, Bool.true_or, Bool.false_or, Bool.or_true, Bool.or_false, Bool.true_and, Bool.false_and, Bool.and_true, Bool.and_false, Bool.not_true, Bool.not_false, cond_true, cond_false]) ?_
   exact hk
end space_may

/-! (*moraine/space.Space).Current -/
namespace space_Space_Current
def kk0 := Func.code Tryz.f75
def kk1 := Code.fa kk0
def kk2 := Code.fb kk0
def kk3 := Code.fa kk2
def kk4 := Code.fb kk2
def kk5 := Code.fa kk3
def kk6 := Code.fb kk3
def kk7 := Code.fa kk6
def kk8 := Code.fb kk6
def kk9 := Code.fa kk7
def kk10 := Code.fb kk7
def kk11 := Code.fa kk4
def kk12 := Code.fb kk4
end space_Space_Current
def space_Space_Current.pt (s : Option Addr) (gen : Int) (kind : Int) (H : Array Obj) (R : Value → Array Obj → Prop) : Prop :=
 onPtr s (
 R (.tuple #[.int .i64 0, .bool false]) H) (fun sA =>
 if gen < 0 then (
 R (.tuple #[.int .i64 0, .bool false]) H)
 else
 if gen > 4 then (
 R (.tuple #[.int .i64 0, .bool false]) H)
 else
 if kind < 0 then (
 R (.tuple #[.int .i64 0, .bool false]) H)
 else
 if kind > 3 then (
 R (.tuple #[.int .i64 0, .bool false]) H)
 else
 ((0 : Int) ≤ gen ∧ gen < (5 : Int)) ∧
 ((0 : Int) ≤ kind ∧ kind < (4 : Int)) ∧
 ∃ x : Int, hat H (((sA.add 1).add (Int.toNat gen * 4)).add (Int.toNat kind * 1)) = some (.int .i64 x) ∧
 if x = 0 then (
 R (.tuple #[.int .i64 0, .bool false]) H)
 else
 ((0 : Int) ≤ gen ∧ gen < (5 : Int)) ∧
 ((0 : Int) ≤ kind ∧ kind < (4 : Int)) ∧
 ∃ x_2 : Int, hat H (((sA.add 1).add (Int.toNat gen * 4)).add (Int.toNat kind * 1)) = some (.int .i64 x_2) ∧
 R (.tuple #[.int .i64 (IntKind.wrap .i64 (x_2 - 1)), .bool true]) H)
namespace space_Space_Current
set_option maxRecDepth 100000 in
theorem link {s : Option Addr} {gen : Int} {kind : Int} {H : Array Obj} {R : Value → Array Obj → Prop} (h : pt s gen kind H R) : C s gen kind H R := by
 refine S_enter (fn := Tryz.f75) (c := kk0) 46 Tryz.func75 (by kernel_rfl) (by kernel_rfl) (Nat.le_of_ble_eq_true (by kernel_rfl)) ?_
 intro w0 Q hQ
 unfold pt at h
 refine S_sub [(0, .pointer s), (1, .int .i64 gen), (2, .int .i64 kind)] (sb (by kernel_rfl)) ?_
 refine T_sr 0 kk1 kk2 ?_
 refine N_run 2 [(0, .pointer s), (1, .int .i64 gen), (2, .int .i64 kind)] (fun _=>by kernel_rfl) ?_
 refine T_e ?_
 refine S_seq kk3 kk4 (by kernel_rfl) ?_
 refine T_sr 1 kk5 kk6 ?_
 refine N_run 1 [(0, .pointer s), (1, .int .i64 gen), (2, .int .i64 kind), (8, .pointer s)] (fun _=>by kernel_rfl) ?_
 rcases s with _ | sA
 ·rw [onPtr_none] at h
  refine N_run 28 [(0, .pointer none), (1, .int .i64 gen), (2, .int .i64 kind), (36, .bool true)] (fun _=>by kernel_rfl) ?_
  refine T_e ?_
  refine S_condT (.tmp 36) kk7 kk8 (by kernel_rfl) (by kernel_rfl) ?_
  refine T_sr 2 kk9 kk10 ?_
  refine N_run 2 [(6, .int .i64 0), (7, .bool false)] (fun _=>by kernel_rfl) ?_
  refine T_e ?_
  refine S_ret (by kernel_rfl) ?_
  show At _ _ _ _ _ (Q .ret)
  exact S_done (fn := Tryz.f75) [.int .i64 0, .bool false] hQ (show ResOK _ _ _ [.tmp 6, .tmp 7] _ from .tmp (by kernel_rfl) (.tmp (by kernel_rfl) (.nil))) h
 ·rw [onPtr_some] at h
  refine N_run 6 [(0, .pointer (some sA)), (1, .int .i64 gen), (2, .int .i64 kind), (14, .bool (decide (gen < 0)))] (fun _=>by kernel_rfl) ?_
  by_cases c1 : gen < 0
  ·rw [if_pos c1] at h
   have b2 : (decide (gen < 0)) = true := decide_eq_true c1
   refine N_env [(0, .pointer (some sA)), (1, .int .i64 gen), (2, .int .i64 kind), (14, .bool true)] (by simp only [b2, Bool.not_true, Bool.not_false]) ?_
   clear b2
   refine N_run 22 [(0, .pointer (some sA)), (1, .int .i64 gen), (2, .int .i64 kind), (36, .bool true)] (fun _=>by kernel_rfl) ?_
   refine T_e ?_
   refine S_condT (.tmp 36) kk7 kk8 (by kernel_rfl) (by kernel_rfl) ?_
   refine T_sr 2 kk9 kk10 ?_
   refine N_run 2 [(6, .int .i64 0), (7, .bool false)] (fun _=>by kernel_rfl) ?_
   refine T_e ?_
   refine S_ret (by kernel_rfl) ?_
   show At _ _ _ _ _ (Q .ret)
   exact S_done (fn := Tryz.f75) [.int .i64 0, .bool false] hQ (show ResOK _ _ _ [.tmp 6, .tmp 7] _ from .tmp (by kernel_rfl) (.tmp (by kernel_rfl) (.nil))) h
  ·rw [if_neg c1] at h
   have b2 : (decide (gen < 0)) = false := decide_eq_false c1
   refine N_env [(0, .pointer (some sA)), (1, .int .i64 gen), (2, .int .i64 kind), (14, .bool false)] (by simp only [b2, Bool.not_true, Bool.not_false]) ?_
   clear b2
   refine N_run 4 [(0, .pointer (some sA)), (1, .int .i64 gen), (2, .int .i64 kind), (18, .bool (decide (gen > 4)))] (fun _=>by kernel_rfl) ?_
   by_cases c3 : gen > 4
   ·rw [if_pos c3] at h
    have b4 : (decide (gen > 4)) = true := decide_eq_true c3
    refine N_env [(0, .pointer (some sA)), (1, .int .i64 gen), (2, .int .i64 kind), (18, .bool true)] (by simp only [b4, Bool.not_true, Bool.not_false]) ?_
    clear b4
    refine N_run 18 [(0, .pointer (some sA)), (1, .int .i64 gen), (2, .int .i64 kind), (36, .bool true)] (fun _=>by kernel_rfl) ?_
    refine T_e ?_
    refine S_condT (.tmp 36) kk7 kk8 (by kernel_rfl) (by kernel_rfl) ?_
    refine T_sr 2 kk9 kk10 ?_
    refine N_run 2 [(6, .int .i64 0), (7, .bool false)] (fun _=>by kernel_rfl) ?_
    refine T_e ?_
    refine S_ret (by kernel_rfl) ?_
    show At _ _ _ _ _ (Q .ret)
    exact S_done (fn := Tryz.f75) [.int .i64 0, .bool false] hQ (show ResOK _ _ _ [.tmp 6, .tmp 7] _ from .tmp (by kernel_rfl) (.tmp (by kernel_rfl) (.nil))) h
   ·rw [if_neg c3] at h
    have b4 : (decide (gen > 4)) = false := decide_eq_false c3
    refine N_env [(0, .pointer (some sA)), (1, .int .i64 gen), (2, .int .i64 kind), (18, .bool false)] (by simp only [b4, Bool.not_true, Bool.not_false]) ?_
    clear b4
    refine N_run 4 [(0, .pointer (some sA)), (1, .int .i64 gen), (2, .int .i64 kind), (22, .bool (decide (kind < 0)))] (fun _=>by kernel_rfl) ?_
    by_cases c5 : kind < 0
    ·rw [if_pos c5] at h
     have b6 : (decide (kind < 0)) = true := decide_eq_true c5
     refine N_env [(0, .pointer (some sA)), (1, .int .i64 gen), (2, .int .i64 kind), (22, .bool true)] (by simp only [b6, Bool.not_true, Bool.not_false]) ?_
     clear b6
     refine N_run 14 [(0, .pointer (some sA)), (1, .int .i64 gen), (2, .int .i64 kind), (36, .bool true)] (fun _=>by kernel_rfl) ?_
     refine T_e ?_
     refine S_condT (.tmp 36) kk7 kk8 (by kernel_rfl) (by kernel_rfl) ?_
     refine T_sr 2 kk9 kk10 ?_
     refine N_run 2 [(6, .int .i64 0), (7, .bool false)] (fun _=>by kernel_rfl) ?_
     refine T_e ?_
     refine S_ret (by kernel_rfl) ?_
     show At _ _ _ _ _ (Q .ret)
     exact S_done (fn := Tryz.f75) [.int .i64 0, .bool false] hQ (show ResOK _ _ _ [.tmp 6, .tmp 7] _ from .tmp (by kernel_rfl) (.tmp (by kernel_rfl) (.nil))) h
    ·rw [if_neg c5] at h
     have b6 : (decide (kind < 0)) = false := decide_eq_false c5
     refine N_env [(0, .pointer (some sA)), (1, .int .i64 gen), (2, .int .i64 kind), (22, .bool false)] (by simp only [b6, Bool.not_true, Bool.not_false]) ?_
     clear b6
     refine N_run 4 [(0, .pointer (some sA)), (1, .int .i64 gen), (2, .int .i64 kind), (26, .bool (decide (kind > 3)))] (fun _=>by kernel_rfl) ?_
     by_cases c7 : kind > 3
     ·rw [if_pos c7] at h
      have b8 : (decide (kind > 3)) = true := decide_eq_true c7
      refine N_env [(0, .pointer (some sA)), (1, .int .i64 gen), (2, .int .i64 kind), (26, .bool true)] (by simp only [b8, Bool.not_true, Bool.not_false]) ?_
      clear b8
      refine N_run 10 [(0, .pointer (some sA)), (1, .int .i64 gen), (2, .int .i64 kind), (36, .bool true)] (fun _=>by kernel_rfl) ?_
      refine T_e ?_
      refine S_condT (.tmp 36) kk7 kk8 (by kernel_rfl) (by kernel_rfl) ?_
      refine T_sr 2 kk9 kk10 ?_
      refine N_run 2 [(6, .int .i64 0), (7, .bool false)] (fun _=>by kernel_rfl) ?_
      refine T_e ?_
      refine S_ret (by kernel_rfl) ?_
      show At _ _ _ _ _ (Q .ret)
      exact S_done (fn := Tryz.f75) [.int .i64 0, .bool false] hQ (show ResOK _ _ _ [.tmp 6, .tmp 7] _ from .tmp (by kernel_rfl) (.tmp (by kernel_rfl) (.nil))) h
     ·rw [if_neg c7] at h
      have b8 : (decide (kind > 3)) = false := decide_eq_false c7
      refine N_env [(0, .pointer (some sA)), (1, .int .i64 gen), (2, .int .i64 kind), (26, .bool false)] (by simp only [b8, Bool.not_true, Bool.not_false]) ?_
      clear b8
      refine N_run 5 [(0, .pointer (some sA)), (1, .int .i64 gen), (2, .int .i64 kind), (26, .bool false), (28, .int .i64 gen), (29, .int .i64 kind), (31, .pointer (some (sA.add 1)))] (fun _=>by kernel_rfl) ?_
      obtain ⟨q9, h⟩ := h
      refine N_val (some 32) (indexAtN 70 (.pointer (some (sA.add 1))) (.int .i64 gen)) (.pointer (some ((sA.add 1).add (Int.toNat gen * 4)))) (fun _=>by kernel_rfl) (fun w _ => indexArr_run (P := Tryz.prog) (t := 70) (elem := 69) (sz := 4) (n := 5) (a := (sA.add 1)) (k := .i64) (i := gen) Tryz.underlying70 (fun _=>by kernel_rfl) q9.1 q9.2 w) [(0, .pointer (some sA)), (1, .int .i64 gen), (2, .int .i64 kind), (26, .bool false), (29, .int .i64 kind), (32, .pointer (some ((sA.add 1).add (Int.toNat gen * 4))))] (ps (by kernel_rfl)) ?_
      obtain ⟨q10, h⟩ := h
      refine N_val (some 33) (indexAtN 69 (.pointer (some ((sA.add 1).add (Int.toNat gen * 4)))) (.int .i64 kind)) (.pointer (some (((sA.add 1).add (Int.toNat gen * 4)).add (Int.toNat kind * 1)))) (fun _=>by kernel_rfl) (fun w _ => indexArr_run (P := Tryz.prog) (t := 69) (elem := 3) (sz := 1) (n := 4) (a := ((sA.add 1).add (Int.toNat gen * 4))) (k := .i64) (i := kind) Tryz.underlying69 (fun _=>by kernel_rfl) q10.1 q10.2 w) [(0, .pointer (some sA)), (1, .int .i64 gen), (2, .int .i64 kind), (26, .bool false), (33, .pointer (some (((sA.add 1).add (Int.toNat gen * 4)).add (Int.toNat kind * 1))))] (ps (by kernel_rfl)) ?_
      obtain ⟨x, q11, h⟩ := h
      refine N_val (some 34) (loadN 3 (.pointer (some (((sA.add 1).add (Int.toNat gen * 4)).add (Int.toNat kind * 1))))) (.int .i64 x) (fun _=>by kernel_rfl) (loadN_run (loadOK_one (fun _=>by kernel_rfl) q11)) [(0, .pointer (some sA)), (1, .int .i64 gen), (2, .int .i64 kind), (26, .bool false), (34, .int .i64 x)] (ps (by kernel_rfl)) ?_
      refine N_run 2 [(0, .pointer (some sA)), (1, .int .i64 gen), (2, .int .i64 kind), (36, .bool (x == 0))] (fun _=>by kernel_rfl) ?_
      refine T_e ?_
      by_cases c12 : x = 0
      ·rw [if_pos c12] at h
       have b13 : (x == 0) = true := beq_iff_eq.mpr c12
       refine S_env [(0, .pointer (some sA)), (1, .int .i64 gen), (2, .int .i64 kind), (36, .bool true)] (by simp only [b13, Bool.not_true, Bool.not_false]) ?_
       clear b13
       refine S_condT (.tmp 36) kk7 kk8 (by kernel_rfl) (by kernel_rfl) ?_
       refine T_sr 2 kk9 kk10 ?_
       refine N_run 2 [(6, .int .i64 0), (7, .bool false)] (fun _=>by kernel_rfl) ?_
       refine T_e ?_
       refine S_ret (by kernel_rfl) ?_
       show At _ _ _ _ _ (Q .ret)
       exact S_done (fn := Tryz.f75) [.int .i64 0, .bool false] hQ (show ResOK _ _ _ [.tmp 6, .tmp 7] _ from .tmp (by kernel_rfl) (.tmp (by kernel_rfl) (.nil))) h
      ·rw [if_neg c12] at h
       have b13 : (x == 0) = false := beq_eq_false_iff_ne.mpr c12
       refine S_env [(0, .pointer (some sA)), (1, .int .i64 gen), (2, .int .i64 kind), (36, .bool false)] (by simp only [b13, Bool.not_true, Bool.not_false]) ?_
       clear b13
       refine S_condF (.tmp 36) kk7 kk8 (by kernel_rfl) (by kernel_rfl) ?_
       refine S_skip (by kernel_rfl) ?_
       refine S_then ?_
       refine T_sr 3 kk11 kk12 ?_
       refine N_run 5 [(38, .int .i64 gen), (39, .int .i64 kind), (41, .pointer (some (sA.add 1)))] (fun _=>by kernel_rfl) ?_
       obtain ⟨q14, h⟩ := h
       refine N_val (some 42) (indexAtN 70 (.pointer (some (sA.add 1))) (.int .i64 gen)) (.pointer (some ((sA.add 1).add (Int.toNat gen * 4)))) (fun _=>by kernel_rfl) (fun w _ => indexArr_run (P := Tryz.prog) (t := 70) (elem := 69) (sz := 4) (n := 5) (a := (sA.add 1)) (k := .i64) (i := gen) Tryz.underlying70 (fun _=>by kernel_rfl) q14.1 q14.2 w) [(39, .int .i64 kind), (42, .pointer (some ((sA.add 1).add (Int.toNat gen * 4))))] (ps (by kernel_rfl)) ?_
       obtain ⟨q15, h⟩ := h
       refine N_val (some 43) (indexAtN 69 (.pointer (some ((sA.add 1).add (Int.toNat gen * 4)))) (.int .i64 kind)) (.pointer (some (((sA.add 1).add (Int.toNat gen * 4)).add (Int.toNat kind * 1)))) (fun _=>by kernel_rfl) (fun w _ => indexArr_run (P := Tryz.prog) (t := 69) (elem := 3) (sz := 1) (n := 4) (a := ((sA.add 1).add (Int.toNat gen * 4))) (k := .i64) (i := kind) Tryz.underlying69 (fun _=>by kernel_rfl) q15.1 q15.2 w) [(43, .pointer (some (((sA.add 1).add (Int.toNat gen * 4)).add (Int.toNat kind * 1))))] (ps (by kernel_rfl)) ?_
       obtain ⟨x_2, q16, h⟩ := h
       refine N_val (some 44) (loadN 3 (.pointer (some (((sA.add 1).add (Int.toNat gen * 4)).add (Int.toNat kind * 1))))) (.int .i64 x_2) (fun _=>by kernel_rfl) (loadN_run (loadOK_one (fun _=>by kernel_rfl) q16)) [(44, .int .i64 x_2)] (ps (by kernel_rfl)) ?_
       refine N_run 3 [(6, .int .i64 (IntKind.wrap .i64 (x_2 - 1))), (7, .bool true)] (fun _=>by kernel_rfl) ?_
       refine T_e ?_
       refine S_ret (by kernel_rfl) ?_
       show At _ _ _ _ _ (Q .ret)
       exact S_done (fn := Tryz.f75) [.int .i64 (IntKind.wrap .i64 (x_2 - 1)), .bool true] hQ (show ResOK _ _ _ [.tmp 6, .tmp 7] _ from .tmp (by kernel_rfl) (.tmp (by kernel_rfl) (.nil))) h
end space_Space_Current

end Go.Proofs.YthlohokmnajpoaaGreat
