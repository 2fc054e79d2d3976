/-
 Written by a program of mine (gen.py): for functions of this translation a predicate transformer over heaps (.pt), and the proof that it is sound for the call (.link).
-/
import Derived.Test.YthlohokmnajpoaaGreatDoorFnsC
set_option linter.unusedSimpArgs false
set_option linter.unusedVariables false
set_option maxHeartbeats 1000000
noncomputable section
namespace Go.Proofs.YthlohokmnajpoaaGreatDoor
open Go
/-! moraine/morainelaw23.TextsOrder -/
namespace morainelaw23_TextsOrder
def kk0 := Func.code Tryz.f6
def kk1 := Code.fa kk0
def kk2 := Code.fb kk0
def kk3 := Code.fa kk2
def kk4 := Code.fb kk2
def kk5 := Code.fa kk4
def kk6 := Code.fb kk4
def kk7 := Code.fa kk5
def kk8 := Code.fb kk5
def kk9 := Code.fa kk8
def kk10 := Code.fb kk8
def kk11 := Code.fa kk9
def kk12 := Code.fb kk9
def kk13 := Code.fa kk6
def kk14 := Code.fb kk6
def kk15 := Code.fa kk14
def kk16 := Code.fb kk14
def kk17 := Code.fa kk16
def kk18 := Code.fb kk16
def kk19 := Code.fa kk18
def kk20 := Code.fb kk18
def kk21 := Code.fa kk20
def kk22 := Code.fb kk20
def kk23 := Code.fa kk22
def kk24 := Code.fb kk22
def kk25 := Code.fa kk23
def kk26 := Code.fb kk23
def kk27 := Code.fa kk26
def kk28 := Code.fb kk26
def kk29 := Code.fa kk27
def kk30 := Code.fb kk27
def kk31 := Code.fa kk24
def kk32 := Code.fb kk24
def kk33 := Code.fa kk32
def kk34 := Code.fb kk32
def kk35 := Code.fa kk34
def kk36 := Code.fb kk34
def kk37 := Code.fa kk35
def kk38 := Code.fb kk35
def kk39 := Code.fa kk38
def kk40 := Code.fa kk39
def kk41 := Code.fa kk40
def kk42 := Code.fb kk40
def kk43 := Code.fa kk41
def kk44 := Code.fb kk41
def kk45 := Code.fa kk44
def kk46 := Code.fb kk44
def kk47 := Code.fa kk42
def kk48 := Code.fb kk42
def kk49 := Code.fa kk47
def kk50 := Code.fa kk49
def kk51 := Code.fb kk49
def kk52 := Code.fa kk51
def kk53 := Code.fb kk51
def kk54 := Code.fa kk53
def kk55 := Code.fb kk53
def kk56 := Code.fa kk55
def kk57 := Code.fb kk55
def kk58 := Code.fa kk56
def kk59 := Code.fb kk56
def kk60 := Code.fa kk36
def kk61 := Code.fb kk36
def kk62 := Code.fa kk61
def kk63 := Code.fb kk61
def kk64 := Code.fa kk63
def kk65 := Code.fb kk63
def kk66 := Code.fa kk65
def kk67 := Code.fb kk65
def kk68 := Code.fa kk66
def kk69 := Code.fb kk66
def kk70 := Code.fa kk69
def kk71 := Code.fb kk69
def kk72 := Code.fa kk70
def kk73 := Code.fb kk70
def kk74 := Code.fa kk67
def kk75 := Code.fb kk67
def kk76 := Code.fa kk75
def kk77 := Code.fb kk75
def kk78 := Code.fa kk77
def kk79 := Code.fb kk77
end morainelaw23_TextsOrder
set_option maxRecDepth 100000 in def morainelaw23_TextsOrder.pt (s : ByteArray) (tv : ByteArray) (more : Int) (H : Array Obj) (R : Value → Array Obj → Prop) : Prop :=
 obj_New.C 60 H (fun v H1 => ∃ ra : Option Addr, ∃ rb : Int, v = .tuple #[.pointer ra, .int .i64 rb] ∧ 
 if rb = 0 then (
 if (s.size : Int) > 1000 then (
 ∃ J : Bool → Array Obj → Prop, (
 if rb = 0 then (
 morainelaw23_awake.C  H1 (fun cg H3 => ∃ x : Bool, cg = .bool x ∧ 
 J x H3))
 else
 J false H1) ∧ ∀ (s6 : Bool) (H2 : Array Obj), J s6 H2 →
 R (.bool s6) H2)
 else
 if (tv.size : Int) > 1000 then (
 ∃ a6 : Bool → Array Obj → Prop, (
 if rb = 0 then (
 morainelaw23_awake.C  H1 (fun cf H5 => ∃ ay : Bool, cf = .bool ay ∧ 
 a6 ay H5))
 else
 a6 false H1) ∧ ∀ (al : Bool) (H4 : Array Obj), a6 al H4 →
 R (.bool al) H4)
 else
 torunesK 21 s H1 (fun sl aq cd H6 =>
 if (aq : Int) ≥ 62 then (
 ∃ a7 : Bool → Array Obj → Prop, (
 if rb = 0 then (
 morainelaw23_awake.C  H6 (fun cb H8 => ∃ a0 : Bool, cb = .bool a0 ∧ 
 a7 a0 H8))
 else
 a7 false H6) ∧ ∀ (ak : Bool) (H7 : Array Obj), a7 ak H7 →
 R (.bool ak) H7)
 else
 torunesK 21 tv H6 (fun bz ae bd H9 =>
 if (ae : Int) ≥ 62 then (
 ∃ a9 : Bool → Array Obj → Prop, (
 if rb = 0 then (
 morainelaw23_awake.C  H9 (fun cc ca => ∃ a1 : Bool, cc = .bool a1 ∧ 
 a9 a1 ca))
 else
 a9 false H9) ∧ ∀ (ai : Bool) (H10 : Array Obj), a9 ai H10 →
 R (.bool ai) H10)
 else
 obj_Heap_String.C ra s H9 (fun b5 b3 => ∃ d : Int, ∃ ba : Int, b5 = .tuple #[.int .u64 d, .int .i64 ba] ∧ 
 obj_Heap_String.C ra tv b3 (fun b1 bj => ∃ e : Int, ∃ bb : Int, b1 = .tuple #[.int .u64 e, .int .i64 bb] ∧ 
 ∀ (b : Nat) (H14 : Array Obj), b = bj.size → H14 = bj.push (.cells #[.int .u64 d, .int .u64 e] 35) →
 morainelaw23_does.C ra 20 (some (Addr.mk b 0 none)) 2 2 H14 (fun b0 bx => ∃ f : Int, ∃ r : Bool, b0 = .tuple #[.int .u64 f, .bool r] ∧ 
 ∀ (a3 : Nat) (H16 : Array Obj), a3 = bx.size → H16 = bx.push (.cells #[.int .u64 d, .int .u64 e] 35) →
 morainelaw23_does.C ra 21 (some (Addr.mk a3 0 none)) 2 2 H16 (fun b7 bn => ∃ g : Int, ∃ u : Bool, b7 = .tuple #[.int .u64 g, .bool u] ∧ 
 ∀ (ax : Nat) (H18 : Array Obj), ax = bn.size → H18 = bn.push (.cells #[.int .u64 d, .int .u64 e] 35) →
 morainelaw23_does.C ra 22 (some (Addr.mk ax 0 none)) 2 2 H18 (fun bf bc => ∃ z : Int, ∃ aa : Bool, bf = .tuple #[.int .u64 z, .bool aa] ∧ 
 if (((!r) || (!u)) || (!aa)) = true then (
 R (.bool false) bc)
 else
 ∀ (q : Nat) (H20 : Array Obj), q = bc.size → H20 = bc.push (.cells #[.int .u64 f, .int .u64 g, .int .u64 z] 35) →
 ∃ (ar : Int → Int → Array Obj → Prop) (m41 : Int → Int → Array Obj → Nat), ar 0 0 H20 ∧ ∀ (nv : Int) (i : Int) (H21 : Array Obj), ar nv i H21 →
 if i < (3 : Int) then (
 ((0 : Int) ≤ i ∧ i < (3 : Int)) ∧
 ∃ ag : Int, hat H21 ((Addr.mk q 0 none).add (Int.toNat i * 1)) = some (.int .u64 ag) ∧
 if ag = 12 then (
 (ar (IntKind.wrap .i64 (nv + 1)) (IntKind.wrap .i64 (i + 1)) H21 ∧ m41 (IntKind.wrap .i64 (nv + 1)) (IntKind.wrap .i64 (i + 1)) H21 < m41 nv i H21))
 else
 ((0 : Int) ≤ i ∧ i < (3 : Int)) ∧
 ∃ ah : Int, hat H21 ((Addr.mk q 0 none).add (Int.toNat i * 1)) = some (.int .u64 ah) ∧
 if ah = 4 then (
 (ar nv (IntKind.wrap .i64 (i + 1)) H21 ∧ m41 nv (IntKind.wrap .i64 (i + 1)) H21 < m41 nv i H21))
 else
 R (.bool false) H21)
 else
 ∀ (aw : Nat) (H22 : Array Obj), aw = H21.size → H22 = H21.push (.cells #[.int .u64 e, .int .u64 d] 35) →
 morainelaw23_does.C ra 22 (some (Addr.mk aw 0 none)) 2 2 H22 (fun bp bk => ∃ l : Int, ∃ n : Bool, bp = .tuple #[.int .u64 l, .bool n] ∧ 
 ∀ (az : Nat) (H24 : Array Obj), az = bk.size → H24 = bk.push (.cells #[.int .u64 d] 35) →
 morainelaw23_does.C ra 25 (some (Addr.mk az 0 none)) 1 1 H24 (fun bl bs => ∃ j : Int, ∃ o : Bool, bl = .tuple #[.int .u64 j, .bool o] ∧ 
 ∀ (au : Nat) (H26 : Array Obj), au = bs.size → H26 = bs.push (.cells #[.int .u64 d, .int .u64 j, .int .u64 d] 35) →
 morainelaw23_does.C ra 20 (some (Addr.mk au 0 none)) 3 3 H26 (fun bm bw => ∃ m : Int, ∃ p : Bool, bm = .tuple #[.int .u64 m, .bool p] ∧ 
 if (((((((nv != 1) || (!n)) || (!o)) || (!p)) || (l != g)) || (m != 12)) || (j == d)) = true then (
 R (.bool false) bw)
 else
 torunesK 21 s bw (fun ap ao a4 br =>
 ∃ rs : List Int, (SrcAt br ap (rs.map (Value.int .i32)) ∧ (ap ≠ none → rs.length = ao)) ∧
 ((((runesStr rs).size + (Utf8.encode more).size : Nat) : Int) ≤ 9223372036854775807) ∧
 obj_Heap_String.C ra ((runesStr rs) ++ (Utf8.encode more)) br (fun bg bo => ∃ ad : Int, ∃ a5 : Int, bg = .tuple #[.int .u64 ad, .int .i64 a5] ∧ 
 ∀ (a2 : Nat) (H30 : Array Obj), a2 = bo.size → H30 = bo.push (.cells #[.int .u64 d, .int .u64 ad] 35) →
 morainelaw23_does.C ra 21 (some (Addr.mk a2 0 none)) 2 2 H30 (fun bh be => ∃ ab : Int, ∃ ac : Bool, bh = .tuple #[.int .u64 ab, .bool ac] ∧ 
 if ac = true then (
 if ab = 12 then (
 morainelaw23_text.C ra d be (fun bv b8 => ∃ af : ByteArray, bv = .string af ∧ 
 morainelaw23_text.C ra e b8 (fun bt bu => ∃ an : ByteArray, bt = .string an ∧ 
 if (f == 12) = (af.toList == an.toList) then (
 morainelaw23_awake.C  bu (fun bq b6 => ∃ av : Bool, bq = .bool av ∧ 
 R (.bool av) b6))
 else
 R (.bool false) bu)))
 else
 R (.bool false) be)
 else
 R (.bool false) be))))))))))))))
 else
 ∃ a8 : Bool → Array Obj → Prop, (
 if rb = 0 then (
 morainelaw23_awake.C  H1 (fun bi ce => ∃ aj : Bool, bi = .bool aj ∧ 
 a8 aj ce))
 else
 a8 false H1) ∧ ∀ (am : Bool) (H35 : Array Obj), a8 am H35 →
 R (.bool am) H35)
namespace morainelaw23_TextsOrder
set_option maxRecDepth 100000 in
theorem link {s : ByteArray} {tv : ByteArray} {more : Int} {H : Array Obj} {R : Value → Array Obj → Prop} (h : pt s tv more H R) : C s tv more H R := by
 refine S_enter (fn := Tryz.f6) (c := kk0) 220 Tryz.func6 (by kernel_rfl) (by kernel_rfl) (Nat.le_of_ble_eq_true (by kernel_rfl)) ?_
 intro w0 Q hQ
 unfold pt at h
 refine T_su [(0, .string s), (1, .string tv), (2, .int .i32 more)] ?_
 refine T_sr 0 kk1 kk2 ?_
 refine T_ne 1 [(0, .string s), (1, .string tv), (2, .int .i32 more)] ?_
 refine T_sr 1 kk3 kk4 ?_
 refine N_call (some 29) 13 #[vi 60] (fun _=>by kernel_rfl) h ?_; clear h
 rintro v H1 ⟨ra, rb, rfl, h⟩
 refine ⟨[(0, .string s), (1, .string tv), (2, .int .i32 more), (29, .tuple #[vp ra, vi rb])], pk, ?_⟩
 refine T_ne 5 [(0, .string s), (1, .string tv), (2, .int .i32 more), (7, vp ra), (8, vi rb)] ?_
 refine T_s kk5 kk6 ?_
 refine T_sr 2 kk7 kk8 ?_
 refine T_n 3 [(0, .string s), (1, .string tv), (2, .int .i32 more), (7, vp ra), (8, vi rb), (34, .bool (rb != 0))] ?_
 by_cases c1 : rb = 0
 ·rw [if_pos c1] at h
  have b2 : (rb != 0) = false := bne_eq_false_iff_eq.mpr c1
  refine N_env [(0, .string s), (1, .string tv), (2, .int .i32 more), (7, vp ra), (8, vi rb), (34, .bool false)] (by simp only [b2, Bool.not_true, Bool.not_false]) ?_
  clear b2
  refine T_n 5 [(0, .string s), (1, .string tv), (2, .int .i32 more), (7, vp ra), (8, vi rb), (39, .bool (decide ((s.size : Int) > 1000)))] ?_
  by_cases c3 : (s.size : Int) > 1000
  ·rw [if_pos c3] at h
   have b4 : (decide ((s.size : Int) > 1000)) = true := decide_eq_true c3
   refine N_env [(0, .string s), (1, .string tv), (2, .int .i32 more), (7, vp ra), (8, vi rb), (39, .bool true)] (by simp only [b4, Bool.not_true, Bool.not_false]) ?_
   clear b4
   refine T_ne 16 [(0, .string s), (1, .string tv), (2, .int .i32 more), (7, vp ra), (8, vi rb), (55, .bool true)] ?_
   refine T_t 55 kk9 kk10 ?_
   refine T_s kk11 kk12 ?_
   obtain ⟨J, h, j6⟩ := h
   refine S_join (σ := Bool) (fun s_ => [(6, .bool s_)]) (fun s_ H => J s_ H) ?_ ?_
   ·rintro s6 H2 j7
    replace h := j6 s6 H2 j7
    refine T_su [(6, .bool s6)] ?_
    refine S_then ?_
    refine S_ret (by kernel_rfl) ?_
    show At _ _ _ _ _ (Q .ret)
    exact S_done (fn := Tryz.f6) [.bool s6] hQ (show ResOK _ _ _ [.tmp 6] _ from .tmp (by kernel_rfl) (.nil)) h
   ·refine T_r 3 kk11 ?_
    refine T_n 3 [(58, .bool (rb == 0))] ?_
    by_cases c8 : rb = 0
    ·rw [if_pos c8] at h
     have b9 : (rb == 0) = true := beq_iff_eq.mpr c8
     refine N_env [(58, .bool true)] (by simp only [b9, Bool.not_true, Bool.not_false]) ?_
     clear b9
     refine N_call (some 59) 21 #[] (fun _=>by kernel_rfl) h ?_; clear h
     rintro cg H3 ⟨x, rfl, h⟩
     refine ⟨[(58, .bool true), (59, .bool x)], pk, ?_⟩
     refine T_ne 2 [(6, .bool x)] ?_
     exact S_meet (x : Bool) sk h
    ·rw [if_neg c8] at h
     have b9 : (rb == 0) = false := beq_eq_false_iff_ne.mpr c8
     refine N_env [(58, .bool false)] (by simp only [b9, Bool.not_true, Bool.not_false]) ?_
     clear b9
     refine T_ne 3 [(6, .bool false)] ?_
     exact S_meet (false : Bool) sk h
  ·rw [if_neg c3] at h
   have b4 : (decide ((s.size : Int) > 1000)) = false := decide_eq_false c3
   refine N_env [(0, .string s), (1, .string tv), (2, .int .i32 more), (7, vp ra), (8, vi rb), (39, .bool false)] (by simp only [b4, Bool.not_true, Bool.not_false]) ?_
   clear b4
   refine T_n 5 [(0, .string s), (1, .string tv), (2, .int .i32 more), (7, vp ra), (8, vi rb), (44, .bool (decide ((tv.size : Int) > 1000)))] ?_
   by_cases c10 : (tv.size : Int) > 1000
   ·rw [if_pos c10] at h
    have b11 : (decide ((tv.size : Int) > 1000)) = true := decide_eq_true c10
    refine N_env [(0, .string s), (1, .string tv), (2, .int .i32 more), (7, vp ra), (8, vi rb), (44, .bool true)] (by simp only [b11, Bool.not_true, Bool.not_false]) ?_
    clear b11
    refine T_ne 11 [(0, .string s), (1, .string tv), (2, .int .i32 more), (7, vp ra), (8, vi rb), (55, .bool true)] ?_
    refine T_t 55 kk9 kk10 ?_
    refine T_s kk11 kk12 ?_
    obtain ⟨a6, h, j13⟩ := h
    refine S_join (σ := Bool) (fun s_ => [(6, .bool s_)]) (fun s_ H => a6 s_ H) ?_ ?_
    ·rintro al H4 j14
     replace h := j13 al H4 j14
     refine T_su [(6, .bool al)] ?_
     refine S_then ?_
     refine S_ret (by kernel_rfl) ?_
     show At _ _ _ _ _ (Q .ret)
     exact S_done (fn := Tryz.f6) [.bool al] hQ (show ResOK _ _ _ [.tmp 6] _ from .tmp (by kernel_rfl) (.nil)) h
    ·refine T_r 3 kk11 ?_
     refine T_n 3 [(58, .bool (rb == 0))] ?_
     by_cases c15 : rb = 0
     ·rw [if_pos c15] at h
      have b16 : (rb == 0) = true := beq_iff_eq.mpr c15
      refine N_env [(58, .bool true)] (by simp only [b16, Bool.not_true, Bool.not_false]) ?_
      clear b16
      refine N_call (some 59) 21 #[] (fun _=>by kernel_rfl) h ?_; clear h
      rintro cf H5 ⟨ay, rfl, h⟩
      refine ⟨[(58, .bool true), (59, .bool ay)], pk, ?_⟩
      refine T_ne 2 [(6, .bool ay)] ?_
      exact S_meet (ay : Bool) sk h
     ·rw [if_neg c15] at h
      have b16 : (rb == 0) = false := beq_eq_false_iff_ne.mpr c15
      refine N_env [(58, .bool false)] (by simp only [b16, Bool.not_true, Bool.not_false]) ?_
      clear b16
      refine T_ne 3 [(6, .bool false)] ?_
      exact S_meet (false : Bool) sk h
   ·rw [if_neg c10] at h
    have b11 : (decide ((tv.size : Int) > 1000)) = false := decide_eq_false c10
    refine N_env [(0, .string s), (1, .string tv), (2, .int .i32 more), (7, vp ra), (8, vi rb), (44, .bool false)] (by simp only [b11, Bool.not_true, Bool.not_false]) ?_
    clear b11
    refine T_n 1 [(0, .string s), (1, .string tv), (2, .int .i32 more), (7, vp ra), (8, vi rb), (44, .bool false), (45, .string s)] ?_
    refine N_op (some 46) (convertN 9 65 (.string s)) _ (fun _=>by kernel_rfl) (ss_torunes Tryz.underlying9 Tryz.underlying65 Tryz.underlying21 h) ?_; clear h
    rintro _ H6 ⟨sl, aq, cd, rfl, h⟩
    refine ⟨[(0, .string s), (1, .string tv), (2, .int .i32 more), (7, vp ra), (8, vi rb), (44, .bool false), (46, vs sl aq cd)], pk, ?_⟩
    refine T_n 4 [(0, .string s), (1, .string tv), (2, .int .i32 more), (7, vp ra), (8, vi rb), (50, .bool (decide ((aq : Int) ≥ 62)))] ?_
    by_cases c17 : (aq : Int) ≥ 62
    ·rw [if_pos c17] at h
     have b18 : (decide ((aq : Int) ≥ 62)) = true := decide_eq_true c17
     refine N_env [(0, .string s), (1, .string tv), (2, .int .i32 more), (7, vp ra), (8, vi rb), (50, .bool true)] (by simp only [b18, Bool.not_true, Bool.not_false]) ?_
     clear b18
     refine T_ne 5 [(0, .string s), (1, .string tv), (2, .int .i32 more), (7, vp ra), (8, vi rb), (55, .bool true)] ?_
     refine T_t 55 kk9 kk10 ?_
     refine T_s kk11 kk12 ?_
     obtain ⟨a7, h, j20⟩ := h
     refine S_join (σ := Bool) (fun s_ => [(6, .bool s_)]) (fun s_ H => a7 s_ H) ?_ ?_
     ·rintro ak H7 j21
      replace h := j20 ak H7 j21
      refine T_su [(6, .bool ak)] ?_
      refine S_then ?_
      refine S_ret (by kernel_rfl) ?_
      show At _ _ _ _ _ (Q .ret)
      exact S_done (fn := Tryz.f6) [.bool ak] hQ (show ResOK _ _ _ [.tmp 6] _ from .tmp (by kernel_rfl) (.nil)) h
     ·refine T_r 3 kk11 ?_
      refine T_n 3 [(58, .bool (rb == 0))] ?_
      by_cases c22 : rb = 0
      ·rw [if_pos c22] at h
       have b23 : (rb == 0) = true := beq_iff_eq.mpr c22
       refine N_env [(58, .bool true)] (by simp only [b23, Bool.not_true, Bool.not_false]) ?_
       clear b23
       refine N_call (some 59) 21 #[] (fun _=>by kernel_rfl) h ?_; clear h
       rintro cb H8 ⟨a0, rfl, h⟩
       refine ⟨[(58, .bool true), (59, .bool a0)], pk, ?_⟩
       refine T_ne 2 [(6, .bool a0)] ?_
       exact S_meet (a0 : Bool) sk h
      ·rw [if_neg c22] at h
       have b23 : (rb == 0) = false := beq_eq_false_iff_ne.mpr c22
       refine N_env [(58, .bool false)] (by simp only [b23, Bool.not_true, Bool.not_false]) ?_
       clear b23
       refine T_ne 3 [(6, .bool false)] ?_
       exact S_meet (false : Bool) sk h
    ·rw [if_neg c17] at h
     have b18 : (decide ((aq : Int) ≥ 62)) = false := decide_eq_false c17
     refine N_env [(0, .string s), (1, .string tv), (2, .int .i32 more), (7, vp ra), (8, vi rb), (50, .bool false)] (by simp only [b18, Bool.not_true, Bool.not_false]) ?_
     clear b18
     refine T_n 1 [(0, .string s), (1, .string tv), (2, .int .i32 more), (7, vp ra), (8, vi rb), (50, .bool false), (51, .string tv)] ?_
     refine N_op (some 52) (convertN 9 65 (.string tv)) _ (fun _=>by kernel_rfl) (ss_torunes Tryz.underlying9 Tryz.underlying65 Tryz.underlying21 h) ?_; clear h
     rintro _ H9 ⟨bz, ae, bd, rfl, h⟩
     refine ⟨[(0, .string s), (1, .string tv), (2, .int .i32 more), (7, vp ra), (8, vi rb), (50, .bool false), (52, vs bz ae bd)], pk, ?_⟩
     refine T_ne 3 [(0, .string s), (1, .string tv), (2, .int .i32 more), (7, vp ra), (8, vi rb), (55, .bool (decide ((ae : Int) ≥ 62)))] ?_
     by_cases c24 : (ae : Int) ≥ 62
     ·rw [if_pos c24] at h
      have b25 : (decide ((ae : Int) ≥ 62)) = true := decide_eq_true c24
      refine S_env [(0, .string s), (1, .string tv), (2, .int .i32 more), (7, vp ra), (8, vi rb), (55, .bool true)] (by simp only [b25, Bool.not_true, Bool.not_false]) ?_
      clear b25
      refine T_t 55 kk9 kk10 ?_
      refine T_s kk11 kk12 ?_
      obtain ⟨a9, h, j27⟩ := h
      refine S_join (σ := Bool) (fun s_ => [(6, .bool s_)]) (fun s_ H => a9 s_ H) ?_ ?_
      ·rintro ai H10 j28
       replace h := j27 ai H10 j28
       refine T_su [(6, .bool ai)] ?_
       refine S_then ?_
       refine S_ret (by kernel_rfl) ?_
       show At _ _ _ _ _ (Q .ret)
       exact S_done (fn := Tryz.f6) [.bool ai] hQ (show ResOK _ _ _ [.tmp 6] _ from .tmp (by kernel_rfl) (.nil)) h
      ·refine T_r 3 kk11 ?_
       refine T_n 3 [(58, .bool (rb == 0))] ?_
       by_cases c29 : rb = 0
       ·rw [if_pos c29] at h
        have b30 : (rb == 0) = true := beq_iff_eq.mpr c29
        refine N_env [(58, .bool true)] (by simp only [b30, Bool.not_true, Bool.not_false]) ?_
        clear b30
        refine N_call (some 59) 21 #[] (fun _=>by kernel_rfl) h ?_; clear h
        rintro cc ca ⟨a1, rfl, h⟩
        refine ⟨[(58, .bool true), (59, .bool a1)], pk, ?_⟩
        refine T_ne 2 [(6, .bool a1)] ?_
        exact S_meet (a1 : Bool) sk h
       ·rw [if_neg c29] at h
        have b30 : (rb == 0) = false := beq_eq_false_iff_ne.mpr c29
        refine N_env [(58, .bool false)] (by simp only [b30, Bool.not_true, Bool.not_false]) ?_
        clear b30
        refine T_ne 3 [(6, .bool false)] ?_
        exact S_meet (false : Bool) sk h
     ·rw [if_neg c24] at h
      have b25 : (decide ((ae : Int) ≥ 62)) = false := decide_eq_false c24
      refine S_env [(0, .string s), (1, .string tv), (2, .int .i32 more), (7, vp ra), (8, vi rb), (55, .bool false)] (by simp only [b25, Bool.not_true, Bool.not_false]) ?_
      clear b25
      refine T_f 55 kk9 kk10 ?_
      refine T_kt ?_
      refine T_sr 4 kk13 kk14 ?_
      refine T_n 2 [(0, .string s), (1, .string tv), (2, .int .i32 more), (7, vp ra), (62, vp ra), (63, .string s)] ?_
      refine N_call (some 64) 22 #[vp ra, .string s] (fun _=>by kernel_rfl) h ?_; clear h
      rintro b5 b3 ⟨d, ba, rfl, h⟩
      refine ⟨[(0, .string s), (1, .string tv), (2, .int .i32 more), (7, vp ra), (64, .tuple #[vu d, vi ba])], pk, ?_⟩
      refine T_ne 5 [(0, .string s), (1, .string tv), (2, .int .i32 more), (7, vp ra), (9, vu d)] ?_
      refine T_sr 5 kk15 kk16 ?_
      refine T_n 2 [(0, .string s), (2, .int .i32 more), (7, vp ra), (9, vu d), (68, vp ra), (69, .string tv)] ?_
      refine N_call (some 70) 22 #[vp ra, .string tv] (fun _=>by kernel_rfl) h ?_; clear h
      rintro b1 bj ⟨e, bb, rfl, h⟩
      refine ⟨[(0, .string s), (2, .int .i32 more), (7, vp ra), (9, vu d), (70, .tuple #[vu e, vi bb])], pk, ?_⟩
      refine T_ne 5 [(0, .string s), (2, .int .i32 more), (7, vp ra), (9, vu d), (11, vu e)] ?_
      refine T_sr 6 kk17 kk18 ?_
      refine T_n 3 [(0, .string s), (2, .int .i32 more), (7, vp ra), (9, vu d), (11, vu e), (74, vp ra), (75, vu d), (76, vu e)] ?_
      refine N_new (some 77) (fun b => vs (pa b) 2 2) (.cells #[vu d, vu e] 35) (fun _=>by kernel_rfl) ?_
      intro b H14 e31 e32
      replace h := h b H14 e31 e32
      refine ⟨[(0, .string s), (2, .int .i32 more), (7, vp ra), (9, vu d), (11, vu e), (74, vp ra), (77, vs (pa b) 2 2)], pk, ?_⟩
      refine N_call (some 78) 23 #[vp ra, vi 20, vs (pa b) 2 2] (fun _=>by kernel_rfl) h ?_; clear h
      rintro b0 bx ⟨f, r, rfl, h⟩
      refine ⟨[(0, .string s), (2, .int .i32 more), (7, vp ra), (9, vu d), (11, vu e), (78, .tuple #[vu f, .bool r])], pk, ?_⟩
      refine T_ne 5 [(0, .string s), (2, .int .i32 more), (7, vp ra), (9, vu d), (11, vu e), (13, vu f), (14, .bool r)] ?_
      refine T_sr 7 kk19 kk20 ?_
      refine T_n 3 [(0, .string s), (2, .int .i32 more), (7, vp ra), (9, vu d), (11, vu e), (13, vu f), (14, .bool r), (82, vp ra), (83, vu d), (84, vu e)] ?_
      refine N_new (some 85) (fun b => vs (pa b) 2 2) (.cells #[vu d, vu e] 35) (fun _=>by kernel_rfl) ?_
      intro a3 H16 e33 e34
      replace h := h a3 H16 e33 e34
      refine ⟨[(0, .string s), (2, .int .i32 more), (7, vp ra), (9, vu d), (11, vu e), (13, vu f), (14, .bool r), (82, vp ra), (85, vs (pa a3) 2 2)], pk, ?_⟩
      refine N_call (some 86) 23 #[vp ra, vi 21, vs (pa a3) 2 2] (fun _=>by kernel_rfl) h ?_; clear h
      rintro b7 bn ⟨g, u, rfl, h⟩
      refine ⟨[(0, .string s), (2, .int .i32 more), (7, vp ra), (9, vu d), (11, vu e), (13, vu f), (14, .bool r), (86, .tuple #[vu g, .bool u])], pk, ?_⟩
      refine T_ne 5 [(0, .string s), (2, .int .i32 more), (7, vp ra), (9, vu d), (11, vu e), (13, vu f), (14, .bool r), (15, vu g), (16, .bool u)] ?_
      refine T_sr 8 kk21 kk22 ?_
      refine T_n 3 [(0, .string s), (2, .int .i32 more), (7, vp ra), (9, vu d), (11, vu e), (13, vu f), (14, .bool r), (15, vu g), (16, .bool u), (90, vp ra), (91, vu d), (92, vu e)] ?_
      refine N_new (some 93) (fun b => vs (pa b) 2 2) (.cells #[vu d, vu e] 35) (fun _=>by kernel_rfl) ?_
      intro ax H18 e35 e36
      replace h := h ax H18 e35 e36
      refine ⟨[(0, .string s), (2, .int .i32 more), (7, vp ra), (9, vu d), (11, vu e), (13, vu f), (14, .bool r), (15, vu g), (16, .bool u), (90, vp ra), (93, vs (pa ax) 2 2)], pk, ?_⟩
      refine N_call (some 94) 23 #[vp ra, vi 22, vs (pa ax) 2 2] (fun _=>by kernel_rfl) h ?_; clear h
      rintro bf bc ⟨z, aa, rfl, h⟩
      refine ⟨[(0, .string s), (2, .int .i32 more), (7, vp ra), (9, vu d), (11, vu e), (13, vu f), (14, .bool r), (15, vu g), (16, .bool u), (94, .tuple #[vu z, .bool aa])], pk, ?_⟩
      refine T_ne 5 [(0, .string s), (2, .int .i32 more), (7, vp ra), (9, vu d), (11, vu e), (13, vu f), (14, .bool r), (15, vu g), (16, .bool u), (17, vu z), (18, .bool aa)] ?_
      refine T_s kk23 kk24 ?_
      refine T_sr 9 kk25 kk26 ?_
      refine N_cut [(0, .string s), (2, .int .i32 more), (7, vp ra), (9, vu d), (11, vu e), (13, vu f), (15, vu g), (17, vu z), (106, .bool (((!r) || (!u)) || (!aa)))] ?_ ?_
      ·refine S_then ?_
       by_cases c41 : (((!r) || (!u)) || (!aa)) = true
       ·rw [if_pos c41] at h
        have b42 : (((!r) || (!u)) || (!aa)) = true := c41
        refine S_env [(0, .string s), (2, .int .i32 more), (7, vp ra), (9, vu d), (11, vu e), (13, vu f), (15, vu g), (17, vu z), (106, .bool true)] (by simp only [b42, Bool.not_true, Bool.not_false]) ?_
        clear b42
        refine T_t 106 kk27 kk28 ?_
        refine T_sr 10 kk29 kk30 ?_
        refine T_ne 1 [(6, .bool false)] ?_
        refine S_ret (by kernel_rfl) ?_
        show At _ _ _ _ _ (Q .ret)
        exact S_done (fn := Tryz.f6) [.bool false] hQ (show ResOK _ _ _ [.tmp 6] _ from .tmp (by kernel_rfl) (.nil)) h
       ·rw [if_neg c41] at h
        have b42 : (((!r) || (!u)) || (!aa)) = false := eq_false_of_ne_true c41
        refine S_env [(0, .string s), (2, .int .i32 more), (7, vp ra), (9, vu d), (11, vu e), (13, vu f), (15, vu g), (17, vu z), (106, .bool false)] (by simp only [b42, Bool.not_true, Bool.not_false]) ?_
        clear b42
        refine T_f 106 kk27 kk28 ?_
        refine T_kt ?_
        refine T_sr 11 kk31 kk32 ?_
        refine T_ne 1 [(0, .string s), (2, .int .i32 more), (7, vp ra), (9, vu d), (11, vu e), (13, vu f), (15, vu g), (17, vu z), (19, vi 0)] ?_
        refine T_sr 12 kk33 kk34 ?_
        refine T_n 3 [(0, .string s), (2, .int .i32 more), (7, vp ra), (9, vu d), (11, vu e), (13, vu f), (15, vu g), (19, vi 0), (107, vu f), (108, vu g), (109, vu z)] ?_
        refine N_new (some 110) (fun b => vs (pa b) 3 3) (.cells #[vu f, vu g, vu z] 35) (fun _=>by kernel_rfl) ?_
        intro q H20 e43 e44
        replace h := h q H20 e43 e44
        refine ⟨[(0, .string s), (2, .int .i32 more), (7, vp ra), (9, vu d), (11, vu e), (13, vu f), (15, vu g), (19, vi 0), (110, vs (pa q) 3 3)], pk, ?_⟩
        refine T_ne 1 [(0, .string s), (2, .int .i32 more), (7, vp ra), (9, vu d), (11, vu e), (13, vu f), (15, vu g), (19, vi 0), (20, vs (pa q) 3 3)] ?_
        refine T_s kk35 kk36 ?_
        refine T_sr 13 kk37 kk38 ?_
        refine T_ne 1 [(0, .string s), (2, .int .i32 more), (7, vp ra), (9, vu d), (11, vu e), (13, vu f), (15, vu g), (19, vi 0), (20, vs (pa q) 3 3), (21, vi 0)] ?_
        refine T_b 0 kk39 ?_
        obtain ⟨ar, m41, i45, i46⟩ := h
        refine S_loop (x := kk40) (σ := Int × Int) (fun s_ => [(0, .string s), (2, .int .i32 more), (7, vp ra), (9, vu d), (11, vu e), (13, vu f), (15, vu g), (19, vi s_.1), (20, vs (pa q) 3 3), (21, vi s_.2)]) (fun s_ H => ar s_.1 s_.2 H) (fun s_ H => m41 s_.1 s_.2 H) ((0, 0) : Int × Int) (by kernel_rfl) i45 sk ?_
        rintro ⟨nv, i⟩ H21 i47
        have h := i46 nv i H21 i47
        refine T_su [(0, .string s), (2, .int .i32 more), (7, vp ra), (9, vu d), (11, vu e), (13, vu f), (15, vu g), (19, vi nv), (20, vs (pa q) 3 3), (21, vi i)] ?_
        refine T_s kk41 kk42 ?_
        refine T_sr 14 kk43 kk44 ?_
        refine T_ne 4 [(0, .string s), (2, .int .i32 more), (7, vp ra), (9, vu d), (11, vu e), (13, vu f), (15, vu g), (19, vi nv), (20, vs (pa q) 3 3), (21, vi i), (114, .bool (decide (i < (3 : Int))))] ?_
        by_cases c48 : i < (3 : Int)
        ·rw [if_pos c48] at h
         have b49 : (decide (i < (3 : Int))) = true := decide_eq_true c48
         refine S_env [(0, .string s), (2, .int .i32 more), (7, vp ra), (9, vu d), (11, vu e), (13, vu f), (15, vu g), (19, vi nv), (20, vs (pa q) 3 3), (21, vi i), (114, .bool true)] (by simp only [b49, Bool.not_true, Bool.not_false]) ?_
         clear b49
         refine T_t 114 kk45 kk46 ?_
         refine T_kt ?_
         refine T_s kk47 kk48 ?_
         refine T_b 1 kk49 ?_
         refine T_sr 16 kk50 kk51 ?_
         refine T_n 2 [(0, .string s), (2, .int .i32 more), (7, vp ra), (9, vu d), (11, vu e), (13, vu f), (15, vu g), (19, vi nv), (20, vs (pa q) 3 3), (21, vi i), (117, vs (pa q) 3 3), (118, vi i)] ?_
         obtain ⟨q50, h⟩ := h
         refine T_ix (some 119) 43 35 1 (Addr.mk q 0 none) 3 3 .i64 i Tryz.underlying43 q50.1 q50.2 [(0, .string s), (2, .int .i32 more), (7, vp ra), (9, vu d), (11, vu e), (13, vu f), (15, vu g), (19, vi nv), (20, vs (pa q) 3 3), (21, vi i), (119, vp (some ((Addr.mk q 0 none).add (Int.toNat i * 1))))] ?_
         obtain ⟨ag, q51, h⟩ := h
         refine T_l (some 120) 35 q51 [(0, .string s), (2, .int .i32 more), (7, vp ra), (9, vu d), (11, vu e), (13, vu f), (15, vu g), (19, vi nv), (20, vs (pa q) 3 3), (21, vi i), (120, vu ag)] ?_
         refine T_ne 1 [(0, .string s), (2, .int .i32 more), (7, vp ra), (9, vu d), (11, vu e), (13, vu f), (15, vu g), (19, vi nv), (20, vs (pa q) 3 3), (21, vi i), (121, .bool (ag == 12))] ?_
         by_cases c52 : ag = 12
         ·rw [if_pos c52] at h
          have b53 : (ag == 12) = true := beq_iff_eq.mpr c52
          refine S_env [(0, .string s), (2, .int .i32 more), (7, vp ra), (9, vu d), (11, vu e), (13, vu f), (15, vu g), (19, vi nv), (20, vs (pa q) 3 3), (21, vi i), (121, .bool true)] (by simp only [b53, Bool.not_true, Bool.not_false]) ?_
          clear b53
          refine T_t 121 kk52 kk53 ?_
          refine T_r 17 kk52 ?_
          refine T_n 3 [(0, .string s), (2, .int .i32 more), (7, vp ra), (9, vu d), (11, vu e), (13, vu f), (15, vu g), (19, vi (IntKind.wrap .i64 (nv + 1))), (20, vs (pa q) 3 3), (21, vi i)] ?_
          refine N_end (by kernel_rfl) ?_
          refine S_blockEnd ?_
          refine S_then ?_
          refine T_r 15 kk48 ?_
          refine T_ne 3 [(0, .string s), (2, .int .i32 more), (7, vp ra), (9, vu d), (11, vu e), (13, vu f), (15, vu g), (19, vi (IntKind.wrap .i64 (nv + 1))), (20, vs (pa q) 3 3), (21, vi (IntKind.wrap .i64 (i + 1)))] ?_
          exact S_round (((IntKind.wrap .i64 (nv + 1)), (IntKind.wrap .i64 (i + 1))) : Int × Int) sk h
         ·rw [if_neg c52] at h
          have b53 : (ag == 12) = false := beq_eq_false_iff_ne.mpr c52
          refine S_env [(0, .string s), (2, .int .i32 more), (7, vp ra), (9, vu d), (11, vu e), (13, vu f), (15, vu g), (19, vi nv), (20, vs (pa q) 3 3), (21, vi i), (121, .bool false)] (by simp only [b53, Bool.not_true, Bool.not_false]) ?_
          clear b53
          refine T_f 121 kk52 kk53 ?_
          refine T_sr 18 kk54 kk55 ?_
          refine T_n 2 [(0, .string s), (2, .int .i32 more), (7, vp ra), (9, vu d), (11, vu e), (13, vu f), (15, vu g), (19, vi nv), (20, vs (pa q) 3 3), (21, vi i), (124, vs (pa q) 3 3), (125, vi i)] ?_
          obtain ⟨q54, h⟩ := h
          refine T_ix (some 126) 43 35 1 (Addr.mk q 0 none) 3 3 .i64 i Tryz.underlying43 q54.1 q54.2 [(0, .string s), (2, .int .i32 more), (7, vp ra), (9, vu d), (11, vu e), (13, vu f), (15, vu g), (19, vi nv), (20, vs (pa q) 3 3), (21, vi i), (126, vp (some ((Addr.mk q 0 none).add (Int.toNat i * 1))))] ?_
          obtain ⟨ah, q55, h⟩ := h
          refine T_l (some 127) 35 q55 [(0, .string s), (2, .int .i32 more), (7, vp ra), (9, vu d), (11, vu e), (13, vu f), (15, vu g), (19, vi nv), (20, vs (pa q) 3 3), (21, vi i), (127, vu ah)] ?_
          refine T_ne 1 [(0, .string s), (2, .int .i32 more), (7, vp ra), (9, vu d), (11, vu e), (13, vu f), (15, vu g), (19, vi nv), (20, vs (pa q) 3 3), (21, vi i), (128, .bool (ah != 4))] ?_
          by_cases c56 : ah = 4
          ·rw [if_pos c56] at h
           have b57 : (ah != 4) = false := bne_eq_false_iff_eq.mpr c56
           refine S_env [(0, .string s), (2, .int .i32 more), (7, vp ra), (9, vu d), (11, vu e), (13, vu f), (15, vu g), (19, vi nv), (20, vs (pa q) 3 3), (21, vi i), (128, .bool false)] (by simp only [b57, Bool.not_true, Bool.not_false]) ?_
           clear b57
           refine T_f 128 kk56 kk57 ?_
           refine T_k ?_
           refine S_blockEnd ?_
           refine S_then ?_
           refine T_r 15 kk48 ?_
           refine T_ne 3 [(0, .string s), (2, .int .i32 more), (7, vp ra), (9, vu d), (11, vu e), (13, vu f), (15, vu g), (19, vi nv), (20, vs (pa q) 3 3), (21, vi (IntKind.wrap .i64 (i + 1)))] ?_
           exact S_round ((nv, (IntKind.wrap .i64 (i + 1))) : Int × Int) sk h
          ·rw [if_neg c56] at h
           have b57 : (ah != 4) = true := bne_iff_ne.mpr c56
           refine S_env [(0, .string s), (2, .int .i32 more), (7, vp ra), (9, vu d), (11, vu e), (13, vu f), (15, vu g), (19, vi nv), (20, vs (pa q) 3 3), (21, vi i), (128, .bool true)] (by simp only [b57, Bool.not_true, Bool.not_false]) ?_
           clear b57
           refine T_t 128 kk56 kk57 ?_
           refine T_sr 19 kk58 kk59 ?_
           refine T_ne 1 [(6, .bool false)] ?_
           refine S_ret (by kernel_rfl) ?_
           show At _ _ _ _ _ (Q .ret)
           exact S_done (fn := Tryz.f6) [.bool false] hQ (show ResOK _ _ _ [.tmp 6] _ from .tmp (by kernel_rfl) (.nil)) h
        ·rw [if_neg c48] at h
         have b49 : (decide (i < (3 : Int))) = false := decide_eq_false c48
         refine S_env [(0, .string s), (2, .int .i32 more), (7, vp ra), (9, vu d), (11, vu e), (13, vu f), (15, vu g), (19, vi nv), (20, vs (pa q) 3 3), (21, vi i), (114, .bool false)] (by simp only [b49, Bool.not_true, Bool.not_false]) ?_
         clear b49
         refine T_f 114 kk45 kk46 ?_
         refine S_exit 0 (by kernel_rfl) ?_
         refine S_exitThen ?_
         refine S_exitThen ?_
         refine S_exitHere ?_
         refine S_then ?_
         refine T_sr 20 kk60 kk61 ?_
         refine T_n 3 [(0, .string s), (2, .int .i32 more), (7, vp ra), (9, vu d), (11, vu e), (13, vu f), (15, vu g), (19, vi nv), (130, vp ra), (131, vu e), (132, vu d)] ?_
         refine N_new (some 133) (fun b => vs (pa b) 2 2) (.cells #[vu e, vu d] 35) (fun _=>by kernel_rfl) ?_
         intro aw H22 e58 e59
         replace h := h aw H22 e58 e59
         refine ⟨[(0, .string s), (2, .int .i32 more), (7, vp ra), (9, vu d), (11, vu e), (13, vu f), (15, vu g), (19, vi nv), (130, vp ra), (133, vs (pa aw) 2 2)], pk, ?_⟩
         refine N_call (some 134) 23 #[vp ra, vi 22, vs (pa aw) 2 2] (fun _=>by kernel_rfl) h ?_; clear h
         rintro bp bk ⟨l, n, rfl, h⟩
         refine ⟨[(0, .string s), (2, .int .i32 more), (7, vp ra), (9, vu d), (11, vu e), (13, vu f), (15, vu g), (19, vi nv), (134, .tuple #[vu l, .bool n])], pk, ?_⟩
         refine T_ne 5 [(0, .string s), (2, .int .i32 more), (7, vp ra), (9, vu d), (11, vu e), (13, vu f), (14, .bool n), (15, vu g), (19, vi nv), (22, vu l)] ?_
         refine T_sr 21 kk62 kk63 ?_
         refine T_n 2 [(0, .string s), (2, .int .i32 more), (7, vp ra), (9, vu d), (11, vu e), (13, vu f), (14, .bool n), (15, vu g), (19, vi nv), (22, vu l), (138, vp ra), (139, vu d)] ?_
         refine N_new (some 140) (fun b => vs (pa b) 1 1) (.cells #[vu d] 35) (fun _=>by kernel_rfl) ?_
         intro az H24 e60 e61
         replace h := h az H24 e60 e61
         refine ⟨[(0, .string s), (2, .int .i32 more), (7, vp ra), (9, vu d), (11, vu e), (13, vu f), (14, .bool n), (15, vu g), (19, vi nv), (22, vu l), (138, vp ra), (140, vs (pa az) 1 1)], pk, ?_⟩
         refine N_call (some 141) 23 #[vp ra, vi 25, vs (pa az) 1 1] (fun _=>by kernel_rfl) h ?_; clear h
         rintro bl bs ⟨j, o, rfl, h⟩
         refine ⟨[(0, .string s), (2, .int .i32 more), (7, vp ra), (9, vu d), (11, vu e), (13, vu f), (14, .bool n), (15, vu g), (19, vi nv), (22, vu l), (141, .tuple #[vu j, .bool o])], pk, ?_⟩
         refine T_ne 5 [(0, .string s), (2, .int .i32 more), (7, vp ra), (9, vu d), (11, vu e), (13, vu f), (14, .bool n), (15, vu g), (16, .bool o), (19, vi nv), (22, vu l), (23, vu j)] ?_
         refine T_sr 22 kk64 kk65 ?_
         refine T_n 4 [(0, .string s), (2, .int .i32 more), (7, vp ra), (9, vu d), (11, vu e), (13, vu f), (14, .bool n), (15, vu g), (16, .bool o), (19, vi nv), (22, vu l), (23, vu j), (145, vp ra), (146, vu d), (147, vu j), (148, vu d)] ?_
         refine N_new (some 149) (fun b => vs (pa b) 3 3) (.cells #[vu d, vu j, vu d] 35) (fun _=>by kernel_rfl) ?_
         intro au H26 e62 e63
         replace h := h au H26 e62 e63
         refine ⟨[(0, .string s), (2, .int .i32 more), (7, vp ra), (9, vu d), (11, vu e), (13, vu f), (14, .bool n), (15, vu g), (16, .bool o), (19, vi nv), (22, vu l), (23, vu j), (145, vp ra), (149, vs (pa au) 3 3)], pk, ?_⟩
         refine N_call (some 150) 23 #[vp ra, vi 20, vs (pa au) 3 3] (fun _=>by kernel_rfl) h ?_; clear h
         rintro bm bw ⟨m, p, rfl, h⟩
         refine ⟨[(0, .string s), (2, .int .i32 more), (7, vp ra), (9, vu d), (11, vu e), (13, vu f), (14, .bool n), (15, vu g), (16, .bool o), (19, vi nv), (22, vu l), (23, vu j), (150, .tuple #[vu m, .bool p])], pk, ?_⟩
         refine T_ne 5 [(0, .string s), (2, .int .i32 more), (7, vp ra), (9, vu d), (11, vu e), (13, vu f), (14, .bool n), (15, vu g), (16, .bool o), (18, .bool p), (19, vi nv), (22, vu l), (23, vu j), (24, vu m)] ?_
         refine T_s kk66 kk67 ?_
         refine T_sr 23 kk68 kk69 ?_
         refine N_cut [(0, .string s), (2, .int .i32 more), (7, vp ra), (9, vu d), (11, vu e), (13, vu f), (180, .bool (((((((nv != 1) || (!n)) || (!o)) || (!p)) || (l != g)) || (m != 12)) || (j == d)))] ?_ ?_
         ·refine S_then ?_
          by_cases c76 : (((((((nv != 1) || (!n)) || (!o)) || (!p)) || (l != g)) || (m != 12)) || (j == d)) = true
          ·rw [if_pos c76] at h
           have b77 : (((((((nv != 1) || (!n)) || (!o)) || (!p)) || (l != g)) || (m != 12)) || (j == d)) = true := c76
           refine S_env [(0, .string s), (2, .int .i32 more), (7, vp ra), (9, vu d), (11, vu e), (13, vu f), (180, .bool true)] (by simp only [b77, Bool.not_true, Bool.not_false]) ?_
           clear b77
           refine T_t 180 kk70 kk71 ?_
           refine T_sr 24 kk72 kk73 ?_
           refine T_ne 1 [(6, .bool false)] ?_
           refine S_ret (by kernel_rfl) ?_
           show At _ _ _ _ _ (Q .ret)
           exact S_done (fn := Tryz.f6) [.bool false] hQ (show ResOK _ _ _ [.tmp 6] _ from .tmp (by kernel_rfl) (.nil)) h
          ·rw [if_neg c76] at h
           have b77 : (((((((nv != 1) || (!n)) || (!o)) || (!p)) || (l != g)) || (m != 12)) || (j == d)) = false := eq_false_of_ne_true c76
           refine S_env [(0, .string s), (2, .int .i32 more), (7, vp ra), (9, vu d), (11, vu e), (13, vu f), (180, .bool false)] (by simp only [b77, Bool.not_true, Bool.not_false]) ?_
           clear b77
           refine T_f 180 kk70 kk71 ?_
           refine T_kt ?_
           refine T_sr 25 kk74 kk75 ?_
           refine T_n 2 [(2, .int .i32 more), (7, vp ra), (9, vu d), (11, vu e), (13, vu f), (182, vp ra), (183, .string s)] ?_
           refine N_op (some 184) (convertN 9 65 (.string s)) _ (fun _=>by kernel_rfl) (ss_torunes Tryz.underlying9 Tryz.underlying65 Tryz.underlying21 h) ?_; clear h
           rintro _ br ⟨ap, ao, a4, rfl, h⟩
           refine ⟨[(2, .int .i32 more), (7, vp ra), (9, vu d), (11, vu e), (13, vu f), (182, vp ra), (184, vs ap ao a4)], pk, ?_⟩
           obtain ⟨rs, q78, h⟩ := h
           refine T_v (some 185) (convertN 65 9 (vs ap ao a4)) (.string (runesStr rs)) (fun w hw => convert_runes Tryz.underlying65 Tryz.underlying9 Tryz.underlying21 (by rw [hw]; exact q78.1) q78.2) [(2, .int .i32 more), (7, vp ra), (9, vu d), (11, vu e), (13, vu f), (182, vp ra), (185, .string (runesStr rs))] ?_
           refine T_n 2 [(7, vp ra), (9, vu d), (11, vu e), (13, vu f), (182, vp ra), (185, .string (runesStr rs)), (187, .string (Utf8.encode more))] ?_
           obtain ⟨q79, h⟩ := h
           refine T_v (some 188) (binN .add 9 (.string (runesStr rs)) (.string (Utf8.encode more))) (.string ((runesStr rs) ++ (Utf8.encode more))) (fun w _ => addstr_run (P := Tryz.prog) (t := 9) (x := (runesStr rs)) (y := (Utf8.encode more)) q79 w) [(7, vp ra), (9, vu d), (11, vu e), (13, vu f), (182, vp ra), (188, .string ((runesStr rs) ++ (Utf8.encode more)))] ?_
           refine N_call (some 189) 22 #[vp ra, .string ((runesStr rs) ++ (Utf8.encode more))] (fun _=>by kernel_rfl) h ?_; clear h
           rintro bg bo ⟨ad, a5, rfl, h⟩
           refine ⟨[(7, vp ra), (9, vu d), (11, vu e), (13, vu f), (189, .tuple #[vu ad, vi a5])], pk, ?_⟩
           refine T_ne 5 [(7, vp ra), (9, vu d), (11, vu e), (13, vu f), (25, vu ad)] ?_
           refine T_sr 26 kk76 kk77 ?_
           refine T_n 3 [(7, vp ra), (9, vu d), (11, vu e), (13, vu f), (193, vp ra), (194, vu d), (195, vu ad)] ?_
           refine N_new (some 196) (fun b => vs (pa b) 2 2) (.cells #[vu d, vu ad] 35) (fun _=>by kernel_rfl) ?_
           intro a2 H30 e80 e81
           replace h := h a2 H30 e80 e81
           refine ⟨[(7, vp ra), (9, vu d), (11, vu e), (13, vu f), (193, vp ra), (196, vs (pa a2) 2 2)], pk, ?_⟩
           refine N_call (some 197) 23 #[vp ra, vi 21, vs (pa a2) 2 2] (fun _=>by kernel_rfl) h ?_; clear h
           rintro bh be ⟨ab, ac, rfl, h⟩
           refine ⟨[(7, vp ra), (9, vu d), (11, vu e), (13, vu f), (197, .tuple #[vu ab, .bool ac])], pk, ?_⟩
           refine T_ne 5 [(7, vp ra), (9, vu d), (11, vu e), (13, vu f), (14, .bool ac), (27, vu ab)] ?_
           refine T_sr 27 kk78 kk79 ?_
           refine T_n 2 [(7, vp ra), (9, vu d), (11, vu e), (13, vu f), (27, vu ab), (201, .bool ac)] ?_
           by_cases c82 : ac = true
           ·rw [if_pos c82] at h
            have b83 : ac = true := c82
            refine N_env [(7, vp ra), (9, vu d), (11, vu e), (13, vu f), (27, vu ab), (201, .bool true)] (by simp only [b83, Bool.not_true, Bool.not_false]) ?_
            clear b83
            refine T_n 4 [(7, vp ra), (9, vu d), (11, vu e), (13, vu f), (205, .bool (ab == 12))] ?_
            by_cases c84 : ab = 12
            ·rw [if_pos c84] at h
             have b85 : (ab == 12) = true := beq_iff_eq.mpr c84
             refine N_env [(7, vp ra), (9, vu d), (11, vu e), (13, vu f), (205, .bool true)] (by simp only [b85, Bool.not_true, Bool.not_false]) ?_
             clear b85
             refine T_n 4 [(7, vp ra), (11, vu e), (205, .bool true), (207, .bool (f == 12)), (208, vp ra), (209, vu d)] ?_
             refine N_call (some 210) 24 #[vp ra, vu d] (fun _=>by kernel_rfl) h ?_; clear h
             rintro bv b8 ⟨af, rfl, h⟩
             refine ⟨[(7, vp ra), (11, vu e), (205, .bool true), (207, .bool (f == 12)), (210, .string af)], pk, ?_⟩
             refine T_n 2 [(205, .bool true), (207, .bool (f == 12)), (210, .string af), (211, vp ra), (212, vu e)] ?_
             refine N_call (some 213) 24 #[vp ra, vu e] (fun _=>by kernel_rfl) h ?_; clear h
             rintro bt bu ⟨an, rfl, h⟩
             refine ⟨[(205, .bool true), (207, .bool (f == 12)), (210, .string af), (213, .string an)], pk, ?_⟩
             refine T_n 4 [(217, .bool ((f == 12) == (af.toList == an.toList)))] ?_
             by_cases c86 : (f == 12) = (af.toList == an.toList)
             ·rw [if_pos c86] at h
              have b87 : ((f == 12) == (af.toList == an.toList)) = true := beq_iff_eq.mpr c86
              refine N_env [(217, .bool true)] (by simp only [b87, Bool.not_true, Bool.not_false]) ?_
              clear b87
              refine N_call (some 218) 21 #[] (fun _=>by kernel_rfl) h ?_; clear h
              rintro bq b6 ⟨av, rfl, h⟩
              refine ⟨[(217, .bool true), (218, .bool av)], pk, ?_⟩
              refine T_ne 2 [(6, .bool av)] ?_
              refine S_ret (by kernel_rfl) ?_
              show At _ _ _ _ _ (Q .ret)
              exact S_done (fn := Tryz.f6) [.bool av] hQ (show ResOK _ _ _ [.tmp 6] _ from .tmp (by kernel_rfl) (.nil)) h
             ·rw [if_neg c86] at h
              have b87 : ((f == 12) == (af.toList == an.toList)) = false := beq_eq_false_iff_ne.mpr c86
              refine N_env [(217, .bool false)] (by simp only [b87, Bool.not_true, Bool.not_false]) ?_
              clear b87
              refine T_ne 3 [(6, .bool false)] ?_
              refine S_ret (by kernel_rfl) ?_
              show At _ _ _ _ _ (Q .ret)
              exact S_done (fn := Tryz.f6) [.bool false] hQ (show ResOK _ _ _ [.tmp 6] _ from .tmp (by kernel_rfl) (.nil)) h
            ·rw [if_neg c84] at h
             have b85 : (ab == 12) = false := beq_eq_false_iff_ne.mpr c84
             refine N_env [(7, vp ra), (9, vu d), (11, vu e), (13, vu f), (205, .bool false)] (by simp only [b85, Bool.not_true, Bool.not_false]) ?_
             clear b85
             refine T_ne 15 [(6, .bool false)] ?_
             refine S_ret (by kernel_rfl) ?_
             show At _ _ _ _ _ (Q .ret)
             exact S_done (fn := Tryz.f6) [.bool false] hQ (show ResOK _ _ _ [.tmp 6] _ from .tmp (by kernel_rfl) (.nil)) h
           ·rw [if_neg c82] at h
            have b83 : ac = false := eq_false_of_ne_true c82
            refine N_env [(7, vp ra), (9, vu d), (11, vu e), (13, vu f), (27, vu ab), (201, .bool false)] (by simp only [b83, Bool.not_true, Bool.not_false]) ?_
            clear b83
            refine T_ne 19 [(6, .bool false)] ?_
            refine S_ret (by kernel_rfl) ?_
            show At _ _ _ _ _ (Q .ret)
            exact S_done (fn := Tryz.f6) [.bool false] hQ (show ResOK _ _ _ [.tmp 6] _ from .tmp (by kernel_rfl) (.nil)) h
         ·intro hk
          refine T_n 3 [(0, .string s), (2, .int .i32 more), (7, vp ra), (9, vu d), (11, vu e), (13, vu f), (14, .bool n), (15, vu g), (16, .bool o), (18, .bool p), (22, vu l), (23, vu j), (24, vu m), (155, .bool (nv != 1))] ?_
          by_cases c64 : nv = 1
          ·have b65 : (nv != 1) = false := bne_eq_false_iff_eq.mpr c64
           refine N_env [(0, .string s), (2, .int .i32 more), (7, vp ra), (9, vu d), (11, vu e), (13, vu f), (14, .bool n), (15, vu g), (16, .bool o), (18, .bool p), (22, vu l), (23, vu j), (24, vu m), (155, .bool false)] (by simp only [b65, Bool.not_true, Bool.not_false]) ?_
           refine T_n 4 [(0, .string s), (2, .int .i32 more), (7, vp ra), (9, vu d), (11, vu e), (13, vu f), (15, vu g), (16, .bool o), (18, .bool p), (22, vu l), (23, vu j), (24, vu m), (159, .bool (!n))] ?_
           by_cases c66 : n = true
           ·have b67 : (!n) = false := congrArg Bool.not (c66)
            have b672 : n = true := c66
            refine N_env [(0, .string s), (2, .int .i32 more), (7, vp ra), (9, vu d), (11, vu e), (13, vu f), (15, vu g), (16, .bool o), (18, .bool p), (22, vu l), (23, vu j), (24, vu m), (159, .bool false)] (by simp only [b67, b672, Bool.not_true, Bool.not_false]) ?_
            refine T_n 4 [(0, .string s), (2, .int .i32 more), (7, vp ra), (9, vu d), (11, vu e), (13, vu f), (15, vu g), (18, .bool p), (22, vu l), (23, vu j), (24, vu m), (163, .bool (!o))] ?_
            by_cases c68 : o = true
            ·have b69 : (!o) = false := congrArg Bool.not (c68)
             have b692 : o = true := c68
             refine N_env [(0, .string s), (2, .int .i32 more), (7, vp ra), (9, vu d), (11, vu e), (13, vu f), (15, vu g), (18, .bool p), (22, vu l), (23, vu j), (24, vu m), (163, .bool false)] (by simp only [b69, b692, Bool.not_true, Bool.not_false]) ?_
             refine T_n 4 [(0, .string s), (2, .int .i32 more), (7, vp ra), (9, vu d), (11, vu e), (13, vu f), (15, vu g), (22, vu l), (23, vu j), (24, vu m), (167, .bool (!p))] ?_
             by_cases c70 : p = true
             ·have b71 : (!p) = false := congrArg Bool.not (c70)
              have b712 : p = true := c70
              refine N_env [(0, .string s), (2, .int .i32 more), (7, vp ra), (9, vu d), (11, vu e), (13, vu f), (15, vu g), (22, vu l), (23, vu j), (24, vu m), (167, .bool false)] (by simp only [b71, b712, Bool.not_true, Bool.not_false]) ?_
              refine T_n 5 [(0, .string s), (2, .int .i32 more), (7, vp ra), (9, vu d), (11, vu e), (13, vu f), (23, vu j), (24, vu m), (172, .bool (l != g))] ?_
              by_cases c72 : l = g
              ·have b73 : (l != g) = false := bne_eq_false_iff_eq.mpr c72
               refine N_env [(0, .string s), (2, .int .i32 more), (7, vp ra), (9, vu d), (11, vu e), (13, vu f), (23, vu j), (24, vu m), (172, .bool false)] (by simp only [b73, Bool.not_true, Bool.not_false]) ?_
               refine T_n 4 [(0, .string s), (2, .int .i32 more), (7, vp ra), (9, vu d), (11, vu e), (13, vu f), (23, vu j), (176, .bool (m != 12))] ?_
               by_cases c74 : m = 12
               ·have b75 : (m != 12) = false := bne_eq_false_iff_eq.mpr c74
                refine N_env [(0, .string s), (2, .int .i32 more), (7, vp ra), (9, vu d), (11, vu e), (13, vu f), (23, vu j), (176, .bool false)] (by simp only [b75, Bool.not_true, Bool.not_false]) ?_
                refine T_n 4 [(0, .string s), (2, .int .i32 more), (7, vp ra), (9, vu d), (11, vu e), (13, vu f), (180, .bool (j == d))] ?_
                refine N_end (by kernel_rfl) ?_
                refine S_env [(0, .string s), (2, .int .i32 more), (7, vp ra), (9, vu d), (11, vu e), (13, vu f), (180, .bool (((((((nv != 1) || (!n)) || (!o)) || (!p)) || (l != g)) || (m != 12)) || (j == d)))] (by simp only [b65, b67, b69, b71, b73, b75, Bool.true_or, Bool.false_or, Bool.or_true, Bool.or_false, Bool.true_and, Bool.false_and, Bool.and_true, Bool.and_false, Bool.not_true, Bool.not_false, cond_true, cond_false]) ?_
                exact hk
               ·have b75 : (m != 12) = true := bne_iff_ne.mpr c74
                refine N_env [(0, .string s), (2, .int .i32 more), (7, vp ra), (9, vu d), (11, vu e), (13, vu f), (23, vu j), (176, .bool true)] (by simp only [b75, Bool.not_true, Bool.not_false]) ?_
                refine T_n 4 [(0, .string s), (2, .int .i32 more), (7, vp ra), (9, vu d), (11, vu e), (13, vu f), (180, .bool true)] ?_
                refine N_end (by kernel_rfl) ?_
                refine S_env [(0, .string s), (2, .int .i32 more), (7, vp ra), (9, vu d), (11, vu e), (13, vu f), (180, .bool (((((((nv != 1) || (!n)) || (!o)) || (!p)) || (l != g)) || (m != 12)) || (j == d)))] (by simp only [b65, b67, b69, b71, b73, b75, Bool.true_or, Bool.false_or, Bool.or_true, Bool.or_false, Bool.true_and, Bool.false_and, Bool.and_true, Bool.and_false, Bool.not_true, Bool.not_false, cond_true, cond_false]) ?_
                exact hk
              ·have b73 : (l != g) = true := bne_iff_ne.mpr c72
               refine N_env [(0, .string s), (2, .int .i32 more), (7, vp ra), (9, vu d), (11, vu e), (13, vu f), (23, vu j), (24, vu m), (172, .bool true)] (by simp only [b73, Bool.not_true, Bool.not_false]) ?_
               refine T_n 8 [(0, .string s), (2, .int .i32 more), (7, vp ra), (9, vu d), (11, vu e), (13, vu f), (180, .bool true)] ?_
               refine N_end (by kernel_rfl) ?_
               refine S_env [(0, .string s), (2, .int .i32 more), (7, vp ra), (9, vu d), (11, vu e), (13, vu f), (180, .bool (((((((nv != 1) || (!n)) || (!o)) || (!p)) || (l != g)) || (m != 12)) || (j == d)))] (by simp only [b65, b67, b69, b71, b73, Bool.true_or, Bool.false_or, Bool.or_true, Bool.or_false, Bool.true_and, Bool.false_and, Bool.and_true, Bool.and_false, Bool.not_true, Bool.not_false, cond_true, cond_false]) ?_
               exact hk
             ·have b71 : (!p) = true := congrArg Bool.not (eq_false_of_ne_true c70)
              have b712 : p = false := eq_false_of_ne_true c70
              refine N_env [(0, .string s), (2, .int .i32 more), (7, vp ra), (9, vu d), (11, vu e), (13, vu f), (15, vu g), (22, vu l), (23, vu j), (24, vu m), (167, .bool true)] (by simp only [b71, b712, Bool.not_true, Bool.not_false]) ?_
              refine T_n 13 [(0, .string s), (2, .int .i32 more), (7, vp ra), (9, vu d), (11, vu e), (13, vu f), (180, .bool true)] ?_
              refine N_end (by kernel_rfl) ?_
              refine S_env [(0, .string s), (2, .int .i32 more), (7, vp ra), (9, vu d), (11, vu e), (13, vu f), (180, .bool (((((((nv != 1) || (!n)) || (!o)) || (!p)) || (l != g)) || (m != 12)) || (j == d)))] (by simp only [b65, b67, b69, b71, Bool.true_or, Bool.false_or, Bool.or_true, Bool.or_false, Bool.true_and, Bool.false_and, Bool.and_true, Bool.and_false, Bool.not_true, Bool.not_false, cond_true, cond_false]) ?_
              exact hk
            ·have b69 : (!o) = true := congrArg Bool.not (eq_false_of_ne_true c68)
             have b692 : o = false := eq_false_of_ne_true c68
             refine N_env [(0, .string s), (2, .int .i32 more), (7, vp ra), (9, vu d), (11, vu e), (13, vu f), (15, vu g), (18, .bool p), (22, vu l), (23, vu j), (24, vu m), (163, .bool true)] (by simp only [b69, b692, Bool.not_true, Bool.not_false]) ?_
             refine T_n 17 [(0, .string s), (2, .int .i32 more), (7, vp ra), (9, vu d), (11, vu e), (13, vu f), (180, .bool true)] ?_
             refine N_end (by kernel_rfl) ?_
             refine S_env [(0, .string s), (2, .int .i32 more), (7, vp ra), (9, vu d), (11, vu e), (13, vu f), (180, .bool (((((((nv != 1) || (!n)) || (!o)) || (!p)) || (l != g)) || (m != 12)) || (j == d)))] (by simp only [b65, b67, b69, Bool.true_or, Bool.false_or, Bool.or_true, Bool.or_false, Bool.true_and, Bool.false_and, Bool.and_true, Bool.and_false, Bool.not_true, Bool.not_false, cond_true, cond_false]) ?_
             exact hk
           ·have b67 : (!n) = true := congrArg Bool.not (eq_false_of_ne_true c66)
            have b672 : n = false := eq_false_of_ne_true c66
            refine N_env [(0, .string s), (2, .int .i32 more), (7, vp ra), (9, vu d), (11, vu e), (13, vu f), (15, vu g), (16, .bool o), (18, .bool p), (22, vu l), (23, vu j), (24, vu m), (159, .bool true)] (by simp only [b67, b672, Bool.not_true, Bool.not_false]) ?_
            refine T_n 21 [(0, .string s), (2, .int .i32 more), (7, vp ra), (9, vu d), (11, vu e), (13, vu f), (180, .bool true)] ?_
            refine N_end (by kernel_rfl) ?_
            refine S_env [(0, .string s), (2, .int .i32 more), (7, vp ra), (9, vu d), (11, vu e), (13, vu f), (180, .bool (((((((nv != 1) || (!n)) || (!o)) || (!p)) || (l != g)) || (m != 12)) || (j == d)))] (by simp only [b65, b67, Bool.true_or, Bool.false_or, Bool.or_true, Bool.or_false, Bool.true_and, Bool.false_and, Bool.and_true, Bool.and_false, Bool.not_true, Bool.not_false, cond_true, cond_false]) ?_
            exact hk
          ·have b65 : (nv != 1) = true := bne_iff_ne.mpr c64
           refine N_env [(0, .string s), (2, .int .i32 more), (7, vp ra), (9, vu d), (11, vu e), (13, vu f), (14, .bool n), (15, vu g), (16, .bool o), (18, .bool p), (22, vu l), (23, vu j), (24, vu m), (155, .bool true)] (by simp only [b65, Bool.not_true, Bool.not_false]) ?_
           refine T_n 25 [(0, .string s), (2, .int .i32 more), (7, vp ra), (9, vu d), (11, vu e), (13, vu f), (180, .bool true)] ?_
           refine N_end (by kernel_rfl) ?_
           refine S_env [(0, .string s), (2, .int .i32 more), (7, vp ra), (9, vu d), (11, vu e), (13, vu f), (180, .bool (((((((nv != 1) || (!n)) || (!o)) || (!p)) || (l != g)) || (m != 12)) || (j == d)))] (by simp only [b65, Bool.true_or, Bool.false_or, Bool.or_true, Bool.or_false, Bool.true_and, Bool.false_and, Bool.and_true, Bool.and_false, Bool.not_true, Bool.not_false, cond_true, cond_false]) ?_
           exact hk
      ·intro hk
       refine T_n 3 [(0, .string s), (2, .int .i32 more), (7, vp ra), (9, vu d), (11, vu e), (13, vu f), (15, vu g), (16, .bool u), (17, vu z), (18, .bool aa), (99, .bool (!r))] ?_
       by_cases c37 : r = true
       ·have b38 : (!r) = false := congrArg Bool.not (c37)
        have b382 : r = true := c37
        refine N_env [(0, .string s), (2, .int .i32 more), (7, vp ra), (9, vu d), (11, vu e), (13, vu f), (15, vu g), (16, .bool u), (17, vu z), (18, .bool aa), (99, .bool false)] (by simp only [b38, b382, Bool.not_true, Bool.not_false]) ?_
        refine T_n 4 [(0, .string s), (2, .int .i32 more), (7, vp ra), (9, vu d), (11, vu e), (13, vu f), (15, vu g), (17, vu z), (18, .bool aa), (103, .bool (!u))] ?_
        by_cases c39 : u = true
        ·have b40 : (!u) = false := congrArg Bool.not (c39)
         have b402 : u = true := c39
         refine N_env [(0, .string s), (2, .int .i32 more), (7, vp ra), (9, vu d), (11, vu e), (13, vu f), (15, vu g), (17, vu z), (18, .bool aa), (103, .bool false)] (by simp only [b40, b402, Bool.not_true, Bool.not_false]) ?_
         refine T_n 3 [(0, .string s), (2, .int .i32 more), (7, vp ra), (9, vu d), (11, vu e), (13, vu f), (15, vu g), (17, vu z), (106, .bool (!aa))] ?_
         refine N_end (by kernel_rfl) ?_
         refine S_env [(0, .string s), (2, .int .i32 more), (7, vp ra), (9, vu d), (11, vu e), (13, vu f), (15, vu g), (17, vu z), (106, .bool (((!r) || (!u)) || (!aa)))] (by simp only [b38, b40, Bool.true_or, Bool.false_or, Bool.or_true, Bool.or_false, Bool.true_and, Bool.false_and, Bool.and_true, Bool.and_false, Bool.not_true, Bool.not_false, cond_true, cond_false]) ?_
         exact hk
        ·have b40 : (!u) = true := congrArg Bool.not (eq_false_of_ne_true c39)
         have b402 : u = false := eq_false_of_ne_true c39
         refine N_env [(0, .string s), (2, .int .i32 more), (7, vp ra), (9, vu d), (11, vu e), (13, vu f), (15, vu g), (17, vu z), (18, .bool aa), (103, .bool true)] (by simp only [b40, b402, Bool.not_true, Bool.not_false]) ?_
         refine T_n 3 [(0, .string s), (2, .int .i32 more), (7, vp ra), (9, vu d), (11, vu e), (13, vu f), (15, vu g), (17, vu z), (106, .bool true)] ?_
         refine N_end (by kernel_rfl) ?_
         refine S_env [(0, .string s), (2, .int .i32 more), (7, vp ra), (9, vu d), (11, vu e), (13, vu f), (15, vu g), (17, vu z), (106, .bool (((!r) || (!u)) || (!aa)))] (by simp only [b38, b40, Bool.true_or, Bool.false_or, Bool.or_true, Bool.or_false, Bool.true_and, Bool.false_and, Bool.and_true, Bool.and_false, Bool.not_true, Bool.not_false, cond_true, cond_false]) ?_
         exact hk
       ·have b38 : (!r) = true := congrArg Bool.not (eq_false_of_ne_true c37)
        have b382 : r = false := eq_false_of_ne_true c37
        refine N_env [(0, .string s), (2, .int .i32 more), (7, vp ra), (9, vu d), (11, vu e), (13, vu f), (15, vu g), (16, .bool u), (17, vu z), (18, .bool aa), (99, .bool true)] (by simp only [b38, b382, Bool.not_true, Bool.not_false]) ?_
        refine T_n 7 [(0, .string s), (2, .int .i32 more), (7, vp ra), (9, vu d), (11, vu e), (13, vu f), (15, vu g), (17, vu z), (106, .bool true)] ?_
        refine N_end (by kernel_rfl) ?_
        refine S_env [(0, .string s), (2, .int .i32 more), (7, vp ra), (9, vu d), (11, vu e), (13, vu f), (15, vu g), (17, vu z), (106, .bool (((!r) || (!u)) || (!aa)))] (by simp only [b38, Bool.true_or, Bool.false_or, Bool.or_true, Bool.or_false, Bool.true_and, Bool.false_and, Bool.and_true, Bool.and_false, Bool.not_true, Bool.not_false, cond_true, cond_false]) ?_
        exact hk
 ·rw [if_neg c1] at h
  have b2 : (rb != 0) = true := bne_iff_ne.mpr c1
  refine N_env [(0, .string s), (1, .string tv), (2, .int .i32 more), (7, vp ra), (8, vi rb), (34, .bool true)] (by simp only [b2, Bool.not_true, Bool.not_false]) ?_
  clear b2
  refine T_ne 21 [(0, .string s), (1, .string tv), (2, .int .i32 more), (7, vp ra), (8, vi rb), (55, .bool true)] ?_
  refine T_t 55 kk9 kk10 ?_
  refine T_s kk11 kk12 ?_
  obtain ⟨a8, h, j89⟩ := h
  refine S_join (σ := Bool) (fun s_ => [(6, .bool s_)]) (fun s_ H => a8 s_ H) ?_ ?_
  ·rintro am H35 j90
   replace h := j89 am H35 j90
   refine T_su [(6, .bool am)] ?_
   refine S_then ?_
   refine S_ret (by kernel_rfl) ?_
   show At _ _ _ _ _ (Q .ret)
   exact S_done (fn := Tryz.f6) [.bool am] hQ (show ResOK _ _ _ [.tmp 6] _ from .tmp (by kernel_rfl) (.nil)) h
  ·refine T_r 3 kk11 ?_
   refine T_n 3 [(58, .bool (rb == 0))] ?_
   by_cases c91 : rb = 0
   ·rw [if_pos c91] at h
    have b92 : (rb == 0) = true := beq_iff_eq.mpr c91
    refine N_env [(58, .bool true)] (by simp only [b92, Bool.not_true, Bool.not_false]) ?_
    clear b92
    refine N_call (some 59) 21 #[] (fun _=>by kernel_rfl) h ?_; clear h
    rintro bi ce ⟨aj, rfl, h⟩
    refine ⟨[(58, .bool true), (59, .bool aj)], pk, ?_⟩
    refine T_ne 2 [(6, .bool aj)] ?_
    exact S_meet (aj : Bool) sk h
   ·rw [if_neg c91] at h
    have b92 : (rb == 0) = false := beq_eq_false_iff_ne.mpr c91
    refine N_env [(58, .bool false)] (by simp only [b92, Bool.not_true, Bool.not_false]) ?_
    clear b92
    refine T_ne 3 [(6, .bool false)] ?_
    exact S_meet (false : Bool) sk h
end morainelaw23_TextsOrder

end Go.Proofs.YthlohokmnajpoaaGreatDoor
