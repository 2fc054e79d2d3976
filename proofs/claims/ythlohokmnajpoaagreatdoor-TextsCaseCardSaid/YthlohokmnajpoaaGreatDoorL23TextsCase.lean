/-
 Written by a program of mine (gen.py): for functions of this translation a predicate transformer over heaps (.pt), and the proof that it is sound for the call (.link).
-/
import Derived.Test.YthlohokmnajpoaaGreatDoorFnsC
set_option linter.unusedSimpArgs false
set_option linter.unusedVariables false
set_option maxHeartbeats 1000000
noncomputable section
namespace Go.Proofs.YthlohokmnajpoaaGreatDoor
open Go
/-! moraine/morainelaw23.TextsCase -/
namespace morainelaw23_TextsCase
def kk0 := Func.code Tryz.f7
def kk1 := Code.fa kk0
def kk2 := Code.fb kk0
def kk3 := Code.fa kk2
def kk4 := Code.fb kk2
def kk5 := Code.fa kk4
def kk6 := Code.fb kk4
def kk7 := Code.fa kk5
def kk8 := Code.fb kk5
def kk9 := Code.fa kk8
def kk10 := Code.fb kk8
def kk11 := Code.fa kk9
def kk12 := Code.fb kk9
def kk13 := Code.fa kk6
def kk14 := Code.fb kk6
def kk15 := Code.fa kk14
def kk16 := Code.fb kk14
def kk17 := Code.fa kk16
def kk18 := Code.fb kk16
def kk19 := Code.fa kk18
def kk20 := Code.fb kk18
def kk21 := Code.fa kk20
def kk22 := Code.fb kk20
def kk23 := Code.fa kk22
def kk24 := Code.fb kk22
def kk25 := Code.fa kk24
def kk26 := Code.fb kk24
def kk27 := Code.fa kk26
def kk28 := Code.fb kk26
def kk29 := Code.fa kk28
def kk30 := Code.fb kk28
def kk31 := Code.fa kk30
def kk32 := Code.fb kk30
def kk33 := Code.fa kk32
def kk34 := Code.fb kk32
def kk35 := Code.fa kk33
def kk36 := Code.fb kk33
def kk37 := Code.fa kk36
def kk38 := Code.fb kk36
def kk39 := Code.fa kk37
def kk40 := Code.fb kk37
def kk41 := Code.fa kk34
def kk42 := Code.fb kk34
end morainelaw23_TextsCase
def morainelaw23_TextsCase.pt (c : Int) (H : Array Obj) (R : Value → Array Obj → Prop) : Prop :=
 obj_New.C 8 H (fun v H1 => ∃ ra : Option Addr, ∃ rb : Int, v = .tuple #[.pointer ra, .int .i64 rb] ∧ 
 if ((((rb != 0) || (decide (c < 0))) || (decide (c > 1114111))) || ((decide (c ≥ 55296)) && (decide (c ≤ 57343)))) = true then (
 ∃ J : Bool → Array Obj → Prop, (
 if rb = 0 then (
 morainelaw23_awake.C  H1 (fun a1 H3 => ∃ x : Bool, a1 = .bool x ∧ 
 J x H3))
 else
 J false H1) ∧ ∀ (s2 : Bool) (H2 : Array Obj), J s2 H2 →
 R (.bool s2) H2)
 else
 ∀ (b : Nat) (H4 : Array Obj), b = H1.size → H4 = H1.push (.cells #[.int .u64 (ior .u64 (ishl .u64 (IntKind.wrap .u64 c) 8) 60)] 35) →
 morainelaw23_does.C ra 5 (some (Addr.mk b 0 none)) 1 1 H4 (fun au H5 => ∃ a : Int, ∃ n : Bool, au = .tuple #[.int .u64 a, .bool n] ∧ 
 ∀ (aa : Nat) (H6 : Array Obj), aa = H5.size → H6 = H5.push (.cells #[.int .u64 (ior .u64 (ishl .u64 (IntKind.wrap .u64 c) 8) 60)] 35) →
 morainelaw23_does.C ra 6 (some (Addr.mk aa 0 none)) 1 1 H6 (fun a2 H7 => ∃ d : Int, ∃ o : Bool, a2 = .tuple #[.int .u64 d, .bool o] ∧ 
 ∀ (af : Nat) (H8 : Array Obj), af = H7.size → H8 = H7.push (.cells #[.int .u64 a] 35) →
 morainelaw23_does.C ra 6 (some (Addr.mk af 0 none)) 1 1 H8 (fun a3 H9 => ∃ f : Int, ∃ p : Bool, a3 = .tuple #[.int .u64 f, .bool p] ∧ 
 ∀ (ag : Nat) (H10 : Array Obj), ag = H9.size → H10 = H9.push (.cells #[.int .u64 d] 35) →
 morainelaw23_does.C ra 5 (some (Addr.mk ag 0 none)) 1 1 H10 (fun aw al => ∃ g : Int, ∃ q : Bool, aw = .tuple #[.int .u64 g, .bool q] ∧ 
 ∀ (ae : Nat) (H12 : Array Obj), ae = al.size → H12 = al.push (.cells #[.int .u64 f] 35) →
 morainelaw23_does.C ra 5 (some (Addr.mk ae 0 none)) 1 1 H12 (fun az an => ∃ k : Int, ∃ r : Bool, az = .tuple #[.int .u64 k, .bool r] ∧ 
 ∀ (ah : Nat) (H14 : Array Obj), ah = an.size → H14 = an.push (.cells #[.int .u64 g] 35) →
 morainelaw23_does.C ra 6 (some (Addr.mk ah 0 none)) 1 1 H14 (fun ay aq => ∃ l : Int, ∃ s : Bool, ay = .tuple #[.int .u64 l, .bool s] ∧ 
 ∀ (ai : Nat) (H16 : Array Obj), ai = aq.size → H16 = aq.push (.cells #[.int .u64 (ior .u64 (ishl .u64 (IntKind.wrap .u64 c) 8) 60)] 35) →
 morainelaw23_does.C ra 7 (some (Addr.mk ai 0 none)) 1 1 H16 (fun a0 ak => ∃ e : Int, ∃ t : Bool, a0 = .tuple #[.int .u64 e, .bool t] ∧ 
 ∀ (ad : Nat) (H18 : Array Obj), ad = ak.size → H18 = ak.push (.cells #[.int .u64 a] 35) →
 morainelaw23_does.C ra 7 (some (Addr.mk ad 0 none)) 1 1 H18 (fun ar am => ∃ j : Int, ∃ u : Bool, ar = .tuple #[.int .u64 j, .bool u] ∧ 
 ∀ (z : Nat) (H20 : Array Obj), z = am.size → H20 = am.push (.cells #[.int .u64 d] 35) →
 morainelaw23_does.C ra 7 (some (Addr.mk z 0 none)) 1 1 H20 (fun aj y => ∃ i : Int, ∃ m : Bool, aj = .tuple #[.int .u64 i, .bool m] ∧ 
 if (((((((((((((((!n) || (!o)) || (!p)) || (!q)) || (!r)) || (!s)) || (!t)) || (!u)) || (!m)) || (k != a)) || (l != d)) || (f != d)) || (g != a)) || (e != j)) || (e != i)) = true then (
 R (.bool false) y)
 else
 if (e == 12) = (a != d) then (
 if e = 12 then (
 morainelaw23_awake.C  y (fun ap ax => ∃ ac : Bool, ap = .bool ac ∧ 
 R (.bool ac) ax))
 else
 if a = (ior .u64 (ishl .u64 (IntKind.wrap .u64 c) 8) 60) then (
 if d = (ior .u64 (ishl .u64 (IntKind.wrap .u64 c) 8) 60) then (
 morainelaw23_awake.C  y (fun ao av => ∃ ab : Bool, ao = .bool ab ∧ 
 R (.bool ab) av))
 else
 R (.bool false) y)
 else
 R (.bool false) y)
 else
 R (.bool false) y))))))))))
namespace morainelaw23_TextsCase
set_option maxRecDepth 100000 in
theorem link {c : Int} {H : Array Obj} {R : Value → Array Obj → Prop} (h : pt c H R) : C c H R := by
 refine S_enter (fn := Tryz.f7) (c := kk0) 205 Tryz.func7 (by kernel_rfl) (by kernel_rfl) (Nat.le_of_ble_eq_true (by kernel_rfl)) ?_
 intro w0 Q hQ
 unfold pt at h
 refine T_su [(0, .int .i32 c)] ?_
 refine T_sr 0 kk1 kk2 ?_
 refine T_ne 1 [(0, .int .i32 c)] ?_
 refine T_sr 1 kk3 kk4 ?_
 refine N_call (some 25) 13 #[vi 8] (fun _=>by kernel_rfl) h ?_; clear h
 rintro v H1 ⟨ra, rb, rfl, h⟩
 refine ⟨[(0, .int .i32 c), (25, .tuple #[vp ra, vi rb])], pk, ?_⟩
 refine T_ne 5 [(0, .int .i32 c), (3, vp ra), (4, vi rb)] ?_
 refine T_s kk5 kk6 ?_
 refine T_sr 2 kk7 kk8 ?_
 refine N_cut [(0, .int .i32 c), (3, vp ra), (4, vi rb), (45, .bool ((((rb != 0) || (decide (c < 0))) || (decide (c > 1114111))) || ((decide (c ≥ 55296)) && (decide (c ≤ 57343)))))] ?_ ?_
 ·refine S_then ?_
  by_cases c9 : ((((rb != 0) || (decide (c < 0))) || (decide (c > 1114111))) || ((decide (c ≥ 55296)) && (decide (c ≤ 57343)))) = true
  ·rw [if_pos c9] at h
   have b10 : ((((rb != 0) || (decide (c < 0))) || (decide (c > 1114111))) || ((decide (c ≥ 55296)) && (decide (c ≤ 57343)))) = true := c9
   refine S_env [(0, .int .i32 c), (3, vp ra), (4, vi rb), (45, .bool true)] (by simp only [b10, Bool.not_true, Bool.not_false]) ?_
   clear b10
   refine T_t 45 kk9 kk10 ?_
   refine T_s kk11 kk12 ?_
   obtain ⟨J, h, j12⟩ := h
   refine S_join (σ := Bool) (fun s_ => [(2, .bool s_)]) (fun s_ H => J s_ H) ?_ ?_
   ·rintro s2 H2 j13
    replace h := j12 s2 H2 j13
    refine T_su [(2, .bool s2)] ?_
    refine S_then ?_
    refine S_ret (by kernel_rfl) ?_
    show At _ _ _ _ _ (Q .ret)
    exact S_done (fn := Tryz.f7) [.bool s2] hQ (show ResOK _ _ _ [.tmp 2] _ from .tmp (by kernel_rfl) (.nil)) h
   ·refine T_r 3 kk11 ?_
    refine T_n 3 [(48, .bool (rb == 0))] ?_
    by_cases c14 : rb = 0
    ·rw [if_pos c14] at h
     have b15 : (rb == 0) = true := beq_iff_eq.mpr c14
     refine N_env [(48, .bool true)] (by simp only [b15, Bool.not_true, Bool.not_false]) ?_
     clear b15
     refine N_call (some 49) 21 #[] (fun _=>by kernel_rfl) h ?_; clear h
     rintro a1 H3 ⟨x, rfl, h⟩
     refine ⟨[(48, .bool true), (49, .bool x)], pk, ?_⟩
     refine T_ne 2 [(2, .bool x)] ?_
     exact S_meet (x : Bool) sk h
    ·rw [if_neg c14] at h
     have b15 : (rb == 0) = false := beq_eq_false_iff_ne.mpr c14
     refine N_env [(48, .bool false)] (by simp only [b15, Bool.not_true, Bool.not_false]) ?_
     clear b15
     refine T_ne 3 [(2, .bool false)] ?_
     exact S_meet (false : Bool) sk h
  ·rw [if_neg c9] at h
   have b10 : ((((rb != 0) || (decide (c < 0))) || (decide (c > 1114111))) || ((decide (c ≥ 55296)) && (decide (c ≤ 57343)))) = false := eq_false_of_ne_true c9
   refine S_env [(0, .int .i32 c), (3, vp ra), (4, vi rb), (45, .bool false)] (by simp only [b10, Bool.not_true, Bool.not_false]) ?_
   clear b10
   refine T_f 45 kk9 kk10 ?_
   refine T_kt ?_
   refine T_sr 4 kk13 kk14 ?_
   refine T_ne 5 [(3, vp ra), (5, vu (ior .u64 (ishl .u64 (IntKind.wrap .u64 c) 8) 60))] ?_
   refine T_sr 5 kk15 kk16 ?_
   refine T_n 2 [(3, vp ra), (5, vu (ior .u64 (ishl .u64 (IntKind.wrap .u64 c) 8) 60)), (56, vp ra), (57, vu (ior .u64 (ishl .u64 (IntKind.wrap .u64 c) 8) 60))] ?_
   refine N_new (some 58) (fun b => vs (pa b) 1 1) (.cells #[vu (ior .u64 (ishl .u64 (IntKind.wrap .u64 c) 8) 60)] 35) (fun _=>by kernel_rfl) ?_
   intro b H4 e16 e17
   replace h := h b H4 e16 e17
   refine ⟨[(3, vp ra), (5, vu (ior .u64 (ishl .u64 (IntKind.wrap .u64 c) 8) 60)), (56, vp ra), (58, vs (pa b) 1 1)], pk, ?_⟩
   refine N_call (some 59) 23 #[vp ra, vi 5, vs (pa b) 1 1] (fun _=>by kernel_rfl) h ?_; clear h
   rintro au H5 ⟨a, n, rfl, h⟩
   refine ⟨[(3, vp ra), (5, vu (ior .u64 (ishl .u64 (IntKind.wrap .u64 c) 8) 60)), (59, .tuple #[vu a, .bool n])], pk, ?_⟩
   refine T_ne 5 [(3, vp ra), (5, vu (ior .u64 (ishl .u64 (IntKind.wrap .u64 c) 8) 60)), (6, vu a), (7, .bool n)] ?_
   refine T_sr 6 kk17 kk18 ?_
   refine T_n 2 [(3, vp ra), (5, vu (ior .u64 (ishl .u64 (IntKind.wrap .u64 c) 8) 60)), (6, vu a), (7, .bool n), (63, vp ra), (64, vu (ior .u64 (ishl .u64 (IntKind.wrap .u64 c) 8) 60))] ?_
   refine N_new (some 65) (fun b => vs (pa b) 1 1) (.cells #[vu (ior .u64 (ishl .u64 (IntKind.wrap .u64 c) 8) 60)] 35) (fun _=>by kernel_rfl) ?_
   intro aa H6 e18 e19
   replace h := h aa H6 e18 e19
   refine ⟨[(3, vp ra), (5, vu (ior .u64 (ishl .u64 (IntKind.wrap .u64 c) 8) 60)), (6, vu a), (7, .bool n), (63, vp ra), (65, vs (pa aa) 1 1)], pk, ?_⟩
   refine N_call (some 66) 23 #[vp ra, vi 6, vs (pa aa) 1 1] (fun _=>by kernel_rfl) h ?_; clear h
   rintro a2 H7 ⟨d, o, rfl, h⟩
   refine ⟨[(3, vp ra), (5, vu (ior .u64 (ishl .u64 (IntKind.wrap .u64 c) 8) 60)), (6, vu a), (7, .bool n), (66, .tuple #[vu d, .bool o])], pk, ?_⟩
   refine T_ne 5 [(3, vp ra), (5, vu (ior .u64 (ishl .u64 (IntKind.wrap .u64 c) 8) 60)), (6, vu a), (7, .bool n), (8, vu d), (9, .bool o)] ?_
   refine T_sr 7 kk19 kk20 ?_
   refine T_n 2 [(3, vp ra), (5, vu (ior .u64 (ishl .u64 (IntKind.wrap .u64 c) 8) 60)), (6, vu a), (7, .bool n), (8, vu d), (9, .bool o), (70, vp ra), (71, vu a)] ?_
   refine N_new (some 72) (fun b => vs (pa b) 1 1) (.cells #[vu a] 35) (fun _=>by kernel_rfl) ?_
   intro af H8 e20 e21
   replace h := h af H8 e20 e21
   refine ⟨[(3, vp ra), (5, vu (ior .u64 (ishl .u64 (IntKind.wrap .u64 c) 8) 60)), (6, vu a), (7, .bool n), (8, vu d), (9, .bool o), (70, vp ra), (72, vs (pa af) 1 1)], pk, ?_⟩
   refine N_call (some 73) 23 #[vp ra, vi 6, vs (pa af) 1 1] (fun _=>by kernel_rfl) h ?_; clear h
   rintro a3 H9 ⟨f, p, rfl, h⟩
   refine ⟨[(3, vp ra), (5, vu (ior .u64 (ishl .u64 (IntKind.wrap .u64 c) 8) 60)), (6, vu a), (7, .bool n), (8, vu d), (9, .bool o), (73, .tuple #[vu f, .bool p])], pk, ?_⟩
   refine T_ne 5 [(3, vp ra), (5, vu (ior .u64 (ishl .u64 (IntKind.wrap .u64 c) 8) 60)), (6, vu a), (7, .bool n), (8, vu d), (9, .bool o), (10, vu f), (11, .bool p)] ?_
   refine T_sr 8 kk21 kk22 ?_
   refine T_n 2 [(3, vp ra), (5, vu (ior .u64 (ishl .u64 (IntKind.wrap .u64 c) 8) 60)), (6, vu a), (7, .bool n), (8, vu d), (9, .bool o), (10, vu f), (11, .bool p), (77, vp ra), (78, vu d)] ?_
   refine N_new (some 79) (fun b => vs (pa b) 1 1) (.cells #[vu d] 35) (fun _=>by kernel_rfl) ?_
   intro ag H10 e22 e23
   replace h := h ag H10 e22 e23
   refine ⟨[(3, vp ra), (5, vu (ior .u64 (ishl .u64 (IntKind.wrap .u64 c) 8) 60)), (6, vu a), (7, .bool n), (8, vu d), (9, .bool o), (10, vu f), (11, .bool p), (77, vp ra), (79, vs (pa ag) 1 1)], pk, ?_⟩
   refine N_call (some 80) 23 #[vp ra, vi 5, vs (pa ag) 1 1] (fun _=>by kernel_rfl) h ?_; clear h
   rintro aw al ⟨g, q, rfl, h⟩
   refine ⟨[(3, vp ra), (5, vu (ior .u64 (ishl .u64 (IntKind.wrap .u64 c) 8) 60)), (6, vu a), (7, .bool n), (8, vu d), (9, .bool o), (10, vu f), (11, .bool p), (80, .tuple #[vu g, .bool q])], pk, ?_⟩
   refine T_ne 5 [(3, vp ra), (5, vu (ior .u64 (ishl .u64 (IntKind.wrap .u64 c) 8) 60)), (6, vu a), (7, .bool n), (8, vu d), (9, .bool o), (10, vu f), (11, .bool p), (12, vu g), (13, .bool q)] ?_
   refine T_sr 9 kk23 kk24 ?_
   refine T_n 2 [(3, vp ra), (5, vu (ior .u64 (ishl .u64 (IntKind.wrap .u64 c) 8) 60)), (6, vu a), (7, .bool n), (8, vu d), (9, .bool o), (10, vu f), (11, .bool p), (12, vu g), (13, .bool q), (84, vp ra), (85, vu f)] ?_
   refine N_new (some 86) (fun b => vs (pa b) 1 1) (.cells #[vu f] 35) (fun _=>by kernel_rfl) ?_
   intro ae H12 e24 e25
   replace h := h ae H12 e24 e25
   refine ⟨[(3, vp ra), (5, vu (ior .u64 (ishl .u64 (IntKind.wrap .u64 c) 8) 60)), (6, vu a), (7, .bool n), (8, vu d), (9, .bool o), (10, vu f), (11, .bool p), (12, vu g), (13, .bool q), (84, vp ra), (86, vs (pa ae) 1 1)], pk, ?_⟩
   refine N_call (some 87) 23 #[vp ra, vi 5, vs (pa ae) 1 1] (fun _=>by kernel_rfl) h ?_; clear h
   rintro az an ⟨k, r, rfl, h⟩
   refine ⟨[(3, vp ra), (5, vu (ior .u64 (ishl .u64 (IntKind.wrap .u64 c) 8) 60)), (6, vu a), (7, .bool n), (8, vu d), (9, .bool o), (10, vu f), (11, .bool p), (12, vu g), (13, .bool q), (87, .tuple #[vu k, .bool r])], pk, ?_⟩
   refine T_ne 5 [(3, vp ra), (5, vu (ior .u64 (ishl .u64 (IntKind.wrap .u64 c) 8) 60)), (6, vu a), (7, .bool n), (8, vu d), (9, .bool o), (10, vu f), (11, .bool p), (12, vu g), (13, .bool q), (14, vu k), (15, .bool r)] ?_
   refine T_sr 10 kk25 kk26 ?_
   refine T_n 2 [(3, vp ra), (5, vu (ior .u64 (ishl .u64 (IntKind.wrap .u64 c) 8) 60)), (6, vu a), (7, .bool n), (8, vu d), (9, .bool o), (10, vu f), (11, .bool p), (12, vu g), (13, .bool q), (14, vu k), (15, .bool r), (91, vp ra), (92, vu g)] ?_
   refine N_new (some 93) (fun b => vs (pa b) 1 1) (.cells #[vu g] 35) (fun _=>by kernel_rfl) ?_
   intro ah H14 e26 e27
   replace h := h ah H14 e26 e27
   refine ⟨[(3, vp ra), (5, vu (ior .u64 (ishl .u64 (IntKind.wrap .u64 c) 8) 60)), (6, vu a), (7, .bool n), (8, vu d), (9, .bool o), (10, vu f), (11, .bool p), (12, vu g), (13, .bool q), (14, vu k), (15, .bool r), (91, vp ra), (93, vs (pa ah) 1 1)], pk, ?_⟩
   refine N_call (some 94) 23 #[vp ra, vi 6, vs (pa ah) 1 1] (fun _=>by kernel_rfl) h ?_; clear h
   rintro ay aq ⟨l, s, rfl, h⟩
   refine ⟨[(3, vp ra), (5, vu (ior .u64 (ishl .u64 (IntKind.wrap .u64 c) 8) 60)), (6, vu a), (7, .bool n), (8, vu d), (9, .bool o), (10, vu f), (11, .bool p), (12, vu g), (13, .bool q), (14, vu k), (15, .bool r), (94, .tuple #[vu l, .bool s])], pk, ?_⟩
   refine T_ne 5 [(3, vp ra), (5, vu (ior .u64 (ishl .u64 (IntKind.wrap .u64 c) 8) 60)), (6, vu a), (7, .bool n), (8, vu d), (9, .bool o), (10, vu f), (11, .bool p), (12, vu g), (13, .bool q), (14, vu k), (15, .bool r), (16, vu l), (17, .bool s)] ?_
   refine T_sr 11 kk27 kk28 ?_
   refine T_n 2 [(3, vp ra), (5, vu (ior .u64 (ishl .u64 (IntKind.wrap .u64 c) 8) 60)), (6, vu a), (7, .bool n), (8, vu d), (9, .bool o), (10, vu f), (11, .bool p), (12, vu g), (13, .bool q), (14, vu k), (15, .bool r), (16, vu l), (17, .bool s), (98, vp ra), (99, vu (ior .u64 (ishl .u64 (IntKind.wrap .u64 c) 8) 60))] ?_
   refine N_new (some 100) (fun b => vs (pa b) 1 1) (.cells #[vu (ior .u64 (ishl .u64 (IntKind.wrap .u64 c) 8) 60)] 35) (fun _=>by kernel_rfl) ?_
   intro ai H16 e28 e29
   replace h := h ai H16 e28 e29
   refine ⟨[(3, vp ra), (5, vu (ior .u64 (ishl .u64 (IntKind.wrap .u64 c) 8) 60)), (6, vu a), (7, .bool n), (8, vu d), (9, .bool o), (10, vu f), (11, .bool p), (12, vu g), (13, .bool q), (14, vu k), (15, .bool r), (16, vu l), (17, .bool s), (98, vp ra), (100, vs (pa ai) 1 1)], pk, ?_⟩
   refine N_call (some 101) 23 #[vp ra, vi 7, vs (pa ai) 1 1] (fun _=>by kernel_rfl) h ?_; clear h
   rintro a0 ak ⟨e, t, rfl, h⟩
   refine ⟨[(3, vp ra), (5, vu (ior .u64 (ishl .u64 (IntKind.wrap .u64 c) 8) 60)), (6, vu a), (7, .bool n), (8, vu d), (9, .bool o), (10, vu f), (11, .bool p), (12, vu g), (13, .bool q), (14, vu k), (15, .bool r), (16, vu l), (17, .bool s), (101, .tuple #[vu e, .bool t])], pk, ?_⟩
   refine T_ne 5 [(3, vp ra), (5, vu (ior .u64 (ishl .u64 (IntKind.wrap .u64 c) 8) 60)), (6, vu a), (7, .bool n), (8, vu d), (9, .bool o), (10, vu f), (11, .bool p), (12, vu g), (13, .bool q), (14, vu k), (15, .bool r), (16, vu l), (17, .bool s), (18, vu e), (19, .bool t)] ?_
   refine T_sr 12 kk29 kk30 ?_
   refine T_n 2 [(3, vp ra), (5, vu (ior .u64 (ishl .u64 (IntKind.wrap .u64 c) 8) 60)), (6, vu a), (7, .bool n), (8, vu d), (9, .bool o), (10, vu f), (11, .bool p), (12, vu g), (13, .bool q), (14, vu k), (15, .bool r), (16, vu l), (17, .bool s), (18, vu e), (19, .bool t), (105, vp ra), (106, vu a)] ?_
   refine N_new (some 107) (fun b => vs (pa b) 1 1) (.cells #[vu a] 35) (fun _=>by kernel_rfl) ?_
   intro ad H18 e30 e31
   replace h := h ad H18 e30 e31
   refine ⟨[(3, vp ra), (5, vu (ior .u64 (ishl .u64 (IntKind.wrap .u64 c) 8) 60)), (6, vu a), (7, .bool n), (8, vu d), (9, .bool o), (10, vu f), (11, .bool p), (12, vu g), (13, .bool q), (14, vu k), (15, .bool r), (16, vu l), (17, .bool s), (18, vu e), (19, .bool t), (105, vp ra), (107, vs (pa ad) 1 1)], pk, ?_⟩
   refine N_call (some 108) 23 #[vp ra, vi 7, vs (pa ad) 1 1] (fun _=>by kernel_rfl) h ?_; clear h
   rintro ar am ⟨j, u, rfl, h⟩
   refine ⟨[(3, vp ra), (5, vu (ior .u64 (ishl .u64 (IntKind.wrap .u64 c) 8) 60)), (6, vu a), (7, .bool n), (8, vu d), (9, .bool o), (10, vu f), (11, .bool p), (12, vu g), (13, .bool q), (14, vu k), (15, .bool r), (16, vu l), (17, .bool s), (18, vu e), (19, .bool t), (108, .tuple #[vu j, .bool u])], pk, ?_⟩
   refine T_ne 5 [(3, vp ra), (5, vu (ior .u64 (ishl .u64 (IntKind.wrap .u64 c) 8) 60)), (6, vu a), (7, .bool n), (8, vu d), (9, .bool o), (10, vu f), (11, .bool p), (12, vu g), (13, .bool q), (14, vu k), (15, .bool r), (16, vu l), (17, .bool s), (18, vu e), (19, .bool t), (20, vu j), (21, .bool u)] ?_
   refine T_sr 13 kk31 kk32 ?_
   refine T_n 2 [(5, vu (ior .u64 (ishl .u64 (IntKind.wrap .u64 c) 8) 60)), (6, vu a), (7, .bool n), (8, vu d), (9, .bool o), (10, vu f), (11, .bool p), (12, vu g), (13, .bool q), (14, vu k), (15, .bool r), (16, vu l), (17, .bool s), (18, vu e), (19, .bool t), (20, vu j), (21, .bool u), (112, vp ra), (113, vu d)] ?_
   refine N_new (some 114) (fun b => vs (pa b) 1 1) (.cells #[vu d] 35) (fun _=>by kernel_rfl) ?_
   intro z H20 e32 e33
   replace h := h z H20 e32 e33
   refine ⟨[(5, vu (ior .u64 (ishl .u64 (IntKind.wrap .u64 c) 8) 60)), (6, vu a), (7, .bool n), (8, vu d), (9, .bool o), (10, vu f), (11, .bool p), (12, vu g), (13, .bool q), (14, vu k), (15, .bool r), (16, vu l), (17, .bool s), (18, vu e), (19, .bool t), (20, vu j), (21, .bool u), (112, vp ra), (114, vs (pa z) 1 1)], pk, ?_⟩
   refine N_call (some 115) 23 #[vp ra, vi 7, vs (pa z) 1 1] (fun _=>by kernel_rfl) h ?_; clear h
   rintro aj y ⟨i, m, rfl, h⟩
   refine ⟨[(5, vu (ior .u64 (ishl .u64 (IntKind.wrap .u64 c) 8) 60)), (6, vu a), (7, .bool n), (8, vu d), (9, .bool o), (10, vu f), (11, .bool p), (12, vu g), (13, .bool q), (14, vu k), (15, .bool r), (16, vu l), (17, .bool s), (18, vu e), (19, .bool t), (20, vu j), (21, .bool u), (115, .tuple #[vu i, .bool m])], pk, ?_⟩
   refine T_ne 5 [(5, vu (ior .u64 (ishl .u64 (IntKind.wrap .u64 c) 8) 60)), (6, vu a), (7, .bool n), (8, vu d), (9, .bool o), (10, vu f), (11, .bool p), (12, vu g), (13, .bool q), (14, vu k), (15, .bool r), (16, vu l), (17, .bool s), (18, vu e), (19, .bool t), (20, vu j), (21, .bool u), (22, vu i), (23, .bool m)] ?_
   refine T_s kk33 kk34 ?_
   refine T_sr 14 kk35 kk36 ?_
   refine N_cut [(5, vu (ior .u64 (ishl .u64 (IntKind.wrap .u64 c) 8) 60)), (6, vu a), (8, vu d), (18, vu e), (181, .bool (((((((((((((((!n) || (!o)) || (!p)) || (!q)) || (!r)) || (!s)) || (!t)) || (!u)) || (!m)) || (k != a)) || (l != d)) || (f != d)) || (g != a)) || (e != j)) || (e != i)))] ?_ ?_
   ·refine S_then ?_
    by_cases c62 : (((((((((((((((!n) || (!o)) || (!p)) || (!q)) || (!r)) || (!s)) || (!t)) || (!u)) || (!m)) || (k != a)) || (l != d)) || (f != d)) || (g != a)) || (e != j)) || (e != i)) = true
    ·rw [if_pos c62] at h
     have b63 : (((((((((((((((!n) || (!o)) || (!p)) || (!q)) || (!r)) || (!s)) || (!t)) || (!u)) || (!m)) || (k != a)) || (l != d)) || (f != d)) || (g != a)) || (e != j)) || (e != i)) = true := c62
     refine S_env [(5, vu (ior .u64 (ishl .u64 (IntKind.wrap .u64 c) 8) 60)), (6, vu a), (8, vu d), (18, vu e), (181, .bool true)] (by simp only [b63, Bool.not_true, Bool.not_false]) ?_
     clear b63
     refine T_t 181 kk37 kk38 ?_
     refine T_sr 15 kk39 kk40 ?_
     refine T_ne 1 [(2, .bool false)] ?_
     refine S_ret (by kernel_rfl) ?_
     show At _ _ _ _ _ (Q .ret)
     exact S_done (fn := Tryz.f7) [.bool false] hQ (show ResOK _ _ _ [.tmp 2] _ from .tmp (by kernel_rfl) (.nil)) h
    ·rw [if_neg c62] at h
     have b63 : (((((((((((((((!n) || (!o)) || (!p)) || (!q)) || (!r)) || (!s)) || (!t)) || (!u)) || (!m)) || (k != a)) || (l != d)) || (f != d)) || (g != a)) || (e != j)) || (e != i)) = false := eq_false_of_ne_true c62
     refine S_env [(5, vu (ior .u64 (ishl .u64 (IntKind.wrap .u64 c) 8) 60)), (6, vu a), (8, vu d), (18, vu e), (181, .bool false)] (by simp only [b63, Bool.not_true, Bool.not_false]) ?_
     clear b63
     refine T_f 181 kk37 kk38 ?_
     refine T_kt ?_
     refine T_sr 16 kk41 kk42 ?_
     refine T_n 7 [(5, vu (ior .u64 (ishl .u64 (IntKind.wrap .u64 c) 8) 60)), (6, vu a), (8, vu d), (18, vu e), (188, .bool ((e == 12) == (a != d)))] ?_
     by_cases c64 : (e == 12) = (a != d)
     ·rw [if_pos c64] at h
      have b65 : ((e == 12) == (a != d)) = true := beq_iff_eq.mpr c64
      refine N_env [(5, vu (ior .u64 (ishl .u64 (IntKind.wrap .u64 c) 8) 60)), (6, vu a), (8, vu d), (18, vu e), (188, .bool true)] (by simp only [b65, Bool.not_true, Bool.not_false]) ?_
      clear b65
      refine T_n 3 [(5, vu (ior .u64 (ishl .u64 (IntKind.wrap .u64 c) 8) 60)), (6, vu a), (8, vu d), (188, .bool true), (191, .bool (e == 12))] ?_
      by_cases c66 : e = 12
      ·rw [if_pos c66] at h
       have b67 : (e == 12) = true := beq_iff_eq.mpr c66
       refine N_env [(5, vu (ior .u64 (ishl .u64 (IntKind.wrap .u64 c) 8) 60)), (6, vu a), (8, vu d), (188, .bool true), (191, .bool true)] (by simp only [b67, Bool.not_true, Bool.not_false]) ?_
       clear b67
       refine T_n 11 [(202, .bool true)] ?_
       refine N_call (some 203) 21 #[] (fun _=>by kernel_rfl) h ?_; clear h
       rintro ap ax ⟨ac, rfl, h⟩
       refine ⟨[(202, .bool true), (203, .bool ac)], pk, ?_⟩
       refine T_ne 2 [(2, .bool ac)] ?_
       refine S_ret (by kernel_rfl) ?_
       show At _ _ _ _ _ (Q .ret)
       exact S_done (fn := Tryz.f7) [.bool ac] hQ (show ResOK _ _ _ [.tmp 2] _ from .tmp (by kernel_rfl) (.nil)) h
      ·rw [if_neg c66] at h
       have b67 : (e == 12) = false := beq_eq_false_iff_ne.mpr c66
       refine N_env [(5, vu (ior .u64 (ishl .u64 (IntKind.wrap .u64 c) 8) 60)), (6, vu a), (8, vu d), (188, .bool true), (191, .bool false)] (by simp only [b67, Bool.not_true, Bool.not_false]) ?_
       clear b67
       refine T_n 4 [(5, vu (ior .u64 (ishl .u64 (IntKind.wrap .u64 c) 8) 60)), (8, vu d), (188, .bool true), (191, .bool false), (195, .bool (a == (ior .u64 (ishl .u64 (IntKind.wrap .u64 c) 8) 60)))] ?_
       by_cases c68 : a = (ior .u64 (ishl .u64 (IntKind.wrap .u64 c) 8) 60)
       ·rw [if_pos c68] at h
        have b69 : (a == (ior .u64 (ishl .u64 (IntKind.wrap .u64 c) 8) 60)) = true := beq_iff_eq.mpr c68
        refine N_env [(5, vu (ior .u64 (ishl .u64 (IntKind.wrap .u64 c) 8) 60)), (8, vu d), (188, .bool true), (191, .bool false), (195, .bool true)] (by simp only [b69, Bool.not_true, Bool.not_false]) ?_
        clear b69
        refine T_n 7 [(202, .bool (d == (ior .u64 (ishl .u64 (IntKind.wrap .u64 c) 8) 60)))] ?_
        by_cases c70 : d = (ior .u64 (ishl .u64 (IntKind.wrap .u64 c) 8) 60)
        ·rw [if_pos c70] at h
         have b71 : (d == (ior .u64 (ishl .u64 (IntKind.wrap .u64 c) 8) 60)) = true := beq_iff_eq.mpr c70
         refine N_env [(202, .bool true)] (by simp only [b71, Bool.not_true, Bool.not_false]) ?_
         clear b71
         refine N_call (some 203) 21 #[] (fun _=>by kernel_rfl) h ?_; clear h
         rintro ao av ⟨ab, rfl, h⟩
         refine ⟨[(202, .bool true), (203, .bool ab)], pk, ?_⟩
         refine T_ne 2 [(2, .bool ab)] ?_
         refine S_ret (by kernel_rfl) ?_
         show At _ _ _ _ _ (Q .ret)
         exact S_done (fn := Tryz.f7) [.bool ab] hQ (show ResOK _ _ _ [.tmp 2] _ from .tmp (by kernel_rfl) (.nil)) h
        ·rw [if_neg c70] at h
         have b71 : (d == (ior .u64 (ishl .u64 (IntKind.wrap .u64 c) 8) 60)) = false := beq_eq_false_iff_ne.mpr c70
         refine N_env [(202, .bool false)] (by simp only [b71, Bool.not_true, Bool.not_false]) ?_
         clear b71
         refine T_ne 3 [(2, .bool false)] ?_
         refine S_ret (by kernel_rfl) ?_
         show At _ _ _ _ _ (Q .ret)
         exact S_done (fn := Tryz.f7) [.bool false] hQ (show ResOK _ _ _ [.tmp 2] _ from .tmp (by kernel_rfl) (.nil)) h
       ·rw [if_neg c68] at h
        have b69 : (a == (ior .u64 (ishl .u64 (IntKind.wrap .u64 c) 8) 60)) = false := beq_eq_false_iff_ne.mpr c68
        refine N_env [(5, vu (ior .u64 (ishl .u64 (IntKind.wrap .u64 c) 8) 60)), (8, vu d), (188, .bool true), (191, .bool false), (195, .bool false)] (by simp only [b69, Bool.not_true, Bool.not_false]) ?_
        clear b69
        refine T_ne 10 [(2, .bool false)] ?_
        refine S_ret (by kernel_rfl) ?_
        show At _ _ _ _ _ (Q .ret)
        exact S_done (fn := Tryz.f7) [.bool false] hQ (show ResOK _ _ _ [.tmp 2] _ from .tmp (by kernel_rfl) (.nil)) h
     ·rw [if_neg c64] at h
      have b65 : ((e == 12) == (a != d)) = false := beq_eq_false_iff_ne.mpr c64
      refine N_env [(5, vu (ior .u64 (ishl .u64 (IntKind.wrap .u64 c) 8) 60)), (6, vu a), (8, vu d), (18, vu e), (188, .bool false)] (by simp only [b65, Bool.not_true, Bool.not_false]) ?_
      clear b65
      refine T_ne 17 [(2, .bool false)] ?_
      refine S_ret (by kernel_rfl) ?_
      show At _ _ _ _ _ (Q .ret)
      exact S_done (fn := Tryz.f7) [.bool false] hQ (show ResOK _ _ _ [.tmp 2] _ from .tmp (by kernel_rfl) (.nil)) h
   ·intro hk
    refine T_n 3 [(5, vu (ior .u64 (ishl .u64 (IntKind.wrap .u64 c) 8) 60)), (6, vu a), (8, vu d), (9, .bool o), (10, vu f), (11, .bool p), (12, vu g), (13, .bool q), (14, vu k), (15, .bool r), (16, vu l), (17, .bool s), (18, vu e), (19, .bool t), (20, vu j), (21, .bool u), (22, vu i), (23, .bool m), (120, .bool (!n))] ?_
    by_cases c34 : n = true
    ·have b35 : (!n) = false := congrArg Bool.not (c34)
     have b352 : n = true := c34
     refine N_env [(5, vu (ior .u64 (ishl .u64 (IntKind.wrap .u64 c) 8) 60)), (6, vu a), (8, vu d), (9, .bool o), (10, vu f), (11, .bool p), (12, vu g), (13, .bool q), (14, vu k), (15, .bool r), (16, vu l), (17, .bool s), (18, vu e), (19, .bool t), (20, vu j), (21, .bool u), (22, vu i), (23, .bool m), (120, .bool false)] (by simp only [b35, b352, Bool.not_true, Bool.not_false]) ?_
     refine T_n 4 [(5, vu (ior .u64 (ishl .u64 (IntKind.wrap .u64 c) 8) 60)), (6, vu a), (8, vu d), (10, vu f), (11, .bool p), (12, vu g), (13, .bool q), (14, vu k), (15, .bool r), (16, vu l), (17, .bool s), (18, vu e), (19, .bool t), (20, vu j), (21, .bool u), (22, vu i), (23, .bool m), (124, .bool (!o))] ?_
     by_cases c36 : o = true
     ·have b37 : (!o) = false := congrArg Bool.not (c36)
      have b372 : o = true := c36
      refine N_env [(5, vu (ior .u64 (ishl .u64 (IntKind.wrap .u64 c) 8) 60)), (6, vu a), (8, vu d), (10, vu f), (11, .bool p), (12, vu g), (13, .bool q), (14, vu k), (15, .bool r), (16, vu l), (17, .bool s), (18, vu e), (19, .bool t), (20, vu j), (21, .bool u), (22, vu i), (23, .bool m), (124, .bool false)] (by simp only [b37, b372, Bool.not_true, Bool.not_false]) ?_
      refine T_n 4 [(5, vu (ior .u64 (ishl .u64 (IntKind.wrap .u64 c) 8) 60)), (6, vu a), (8, vu d), (10, vu f), (12, vu g), (13, .bool q), (14, vu k), (15, .bool r), (16, vu l), (17, .bool s), (18, vu e), (19, .bool t), (20, vu j), (21, .bool u), (22, vu i), (23, .bool m), (128, .bool (!p))] ?_
      by_cases c38 : p = true
      ·have b39 : (!p) = false := congrArg Bool.not (c38)
       have b392 : p = true := c38
       refine N_env [(5, vu (ior .u64 (ishl .u64 (IntKind.wrap .u64 c) 8) 60)), (6, vu a), (8, vu d), (10, vu f), (12, vu g), (13, .bool q), (14, vu k), (15, .bool r), (16, vu l), (17, .bool s), (18, vu e), (19, .bool t), (20, vu j), (21, .bool u), (22, vu i), (23, .bool m), (128, .bool false)] (by simp only [b39, b392, Bool.not_true, Bool.not_false]) ?_
       refine T_n 4 [(5, vu (ior .u64 (ishl .u64 (IntKind.wrap .u64 c) 8) 60)), (6, vu a), (8, vu d), (10, vu f), (12, vu g), (14, vu k), (15, .bool r), (16, vu l), (17, .bool s), (18, vu e), (19, .bool t), (20, vu j), (21, .bool u), (22, vu i), (23, .bool m), (132, .bool (!q))] ?_
       by_cases c40 : q = true
       ·have b41 : (!q) = false := congrArg Bool.not (c40)
        have b412 : q = true := c40
        refine N_env [(5, vu (ior .u64 (ishl .u64 (IntKind.wrap .u64 c) 8) 60)), (6, vu a), (8, vu d), (10, vu f), (12, vu g), (14, vu k), (15, .bool r), (16, vu l), (17, .bool s), (18, vu e), (19, .bool t), (20, vu j), (21, .bool u), (22, vu i), (23, .bool m), (132, .bool false)] (by simp only [b41, b412, Bool.not_true, Bool.not_false]) ?_
        refine T_n 4 [(5, vu (ior .u64 (ishl .u64 (IntKind.wrap .u64 c) 8) 60)), (6, vu a), (8, vu d), (10, vu f), (12, vu g), (14, vu k), (16, vu l), (17, .bool s), (18, vu e), (19, .bool t), (20, vu j), (21, .bool u), (22, vu i), (23, .bool m), (136, .bool (!r))] ?_
        by_cases c42 : r = true
        ·have b43 : (!r) = false := congrArg Bool.not (c42)
         have b432 : r = true := c42
         refine N_env [(5, vu (ior .u64 (ishl .u64 (IntKind.wrap .u64 c) 8) 60)), (6, vu a), (8, vu d), (10, vu f), (12, vu g), (14, vu k), (16, vu l), (17, .bool s), (18, vu e), (19, .bool t), (20, vu j), (21, .bool u), (22, vu i), (23, .bool m), (136, .bool false)] (by simp only [b43, b432, Bool.not_true, Bool.not_false]) ?_
         refine T_n 4 [(5, vu (ior .u64 (ishl .u64 (IntKind.wrap .u64 c) 8) 60)), (6, vu a), (8, vu d), (10, vu f), (12, vu g), (14, vu k), (16, vu l), (18, vu e), (19, .bool t), (20, vu j), (21, .bool u), (22, vu i), (23, .bool m), (140, .bool (!s))] ?_
         by_cases c44 : s = true
         ·have b45 : (!s) = false := congrArg Bool.not (c44)
          have b452 : s = true := c44
          refine N_env [(5, vu (ior .u64 (ishl .u64 (IntKind.wrap .u64 c) 8) 60)), (6, vu a), (8, vu d), (10, vu f), (12, vu g), (14, vu k), (16, vu l), (18, vu e), (19, .bool t), (20, vu j), (21, .bool u), (22, vu i), (23, .bool m), (140, .bool false)] (by simp only [b45, b452, Bool.not_true, Bool.not_false]) ?_
          refine T_n 4 [(5, vu (ior .u64 (ishl .u64 (IntKind.wrap .u64 c) 8) 60)), (6, vu a), (8, vu d), (10, vu f), (12, vu g), (14, vu k), (16, vu l), (18, vu e), (20, vu j), (21, .bool u), (22, vu i), (23, .bool m), (144, .bool (!t))] ?_
          by_cases c46 : t = true
          ·have b47 : (!t) = false := congrArg Bool.not (c46)
           have b472 : t = true := c46
           refine N_env [(5, vu (ior .u64 (ishl .u64 (IntKind.wrap .u64 c) 8) 60)), (6, vu a), (8, vu d), (10, vu f), (12, vu g), (14, vu k), (16, vu l), (18, vu e), (20, vu j), (21, .bool u), (22, vu i), (23, .bool m), (144, .bool false)] (by simp only [b47, b472, Bool.not_true, Bool.not_false]) ?_
           refine T_n 4 [(5, vu (ior .u64 (ishl .u64 (IntKind.wrap .u64 c) 8) 60)), (6, vu a), (8, vu d), (10, vu f), (12, vu g), (14, vu k), (16, vu l), (18, vu e), (20, vu j), (22, vu i), (23, .bool m), (148, .bool (!u))] ?_
           by_cases c48 : u = true
           ·have b49 : (!u) = false := congrArg Bool.not (c48)
            have b492 : u = true := c48
            refine N_env [(5, vu (ior .u64 (ishl .u64 (IntKind.wrap .u64 c) 8) 60)), (6, vu a), (8, vu d), (10, vu f), (12, vu g), (14, vu k), (16, vu l), (18, vu e), (20, vu j), (22, vu i), (23, .bool m), (148, .bool false)] (by simp only [b49, b492, Bool.not_true, Bool.not_false]) ?_
            refine T_n 4 [(5, vu (ior .u64 (ishl .u64 (IntKind.wrap .u64 c) 8) 60)), (6, vu a), (8, vu d), (10, vu f), (12, vu g), (14, vu k), (16, vu l), (18, vu e), (20, vu j), (22, vu i), (152, .bool (!m))] ?_
            by_cases c50 : m = true
            ·have b51 : (!m) = false := congrArg Bool.not (c50)
             have b512 : m = true := c50
             refine N_env [(5, vu (ior .u64 (ishl .u64 (IntKind.wrap .u64 c) 8) 60)), (6, vu a), (8, vu d), (10, vu f), (12, vu g), (14, vu k), (16, vu l), (18, vu e), (20, vu j), (22, vu i), (152, .bool false)] (by simp only [b51, b512, Bool.not_true, Bool.not_false]) ?_
             refine T_n 5 [(5, vu (ior .u64 (ishl .u64 (IntKind.wrap .u64 c) 8) 60)), (6, vu a), (8, vu d), (10, vu f), (12, vu g), (16, vu l), (18, vu e), (20, vu j), (22, vu i), (157, .bool (k != a))] ?_
             by_cases c52 : k = a
             ·have b53 : (k != a) = false := bne_eq_false_iff_eq.mpr c52
              refine N_env [(5, vu (ior .u64 (ishl .u64 (IntKind.wrap .u64 c) 8) 60)), (6, vu a), (8, vu d), (10, vu f), (12, vu g), (16, vu l), (18, vu e), (20, vu j), (22, vu i), (157, .bool false)] (by simp only [b53, Bool.not_true, Bool.not_false]) ?_
              refine T_n 5 [(5, vu (ior .u64 (ishl .u64 (IntKind.wrap .u64 c) 8) 60)), (6, vu a), (8, vu d), (10, vu f), (12, vu g), (18, vu e), (20, vu j), (22, vu i), (162, .bool (l != d))] ?_
              by_cases c54 : l = d
              ·have b55 : (l != d) = false := bne_eq_false_iff_eq.mpr c54
               refine N_env [(5, vu (ior .u64 (ishl .u64 (IntKind.wrap .u64 c) 8) 60)), (6, vu a), (8, vu d), (10, vu f), (12, vu g), (18, vu e), (20, vu j), (22, vu i), (162, .bool false)] (by simp only [b55, Bool.not_true, Bool.not_false]) ?_
               refine T_n 5 [(5, vu (ior .u64 (ishl .u64 (IntKind.wrap .u64 c) 8) 60)), (6, vu a), (8, vu d), (12, vu g), (18, vu e), (20, vu j), (22, vu i), (167, .bool (f != d))] ?_
               by_cases c56 : f = d
               ·have b57 : (f != d) = false := bne_eq_false_iff_eq.mpr c56
                refine N_env [(5, vu (ior .u64 (ishl .u64 (IntKind.wrap .u64 c) 8) 60)), (6, vu a), (8, vu d), (12, vu g), (18, vu e), (20, vu j), (22, vu i), (167, .bool false)] (by simp only [b57, Bool.not_true, Bool.not_false]) ?_
                refine T_n 5 [(5, vu (ior .u64 (ishl .u64 (IntKind.wrap .u64 c) 8) 60)), (6, vu a), (8, vu d), (18, vu e), (20, vu j), (22, vu i), (172, .bool (g != a))] ?_
                by_cases c58 : g = a
                ·have b59 : (g != a) = false := bne_eq_false_iff_eq.mpr c58
                 refine N_env [(5, vu (ior .u64 (ishl .u64 (IntKind.wrap .u64 c) 8) 60)), (6, vu a), (8, vu d), (18, vu e), (20, vu j), (22, vu i), (172, .bool false)] (by simp only [b59, Bool.not_true, Bool.not_false]) ?_
                 refine T_n 5 [(5, vu (ior .u64 (ishl .u64 (IntKind.wrap .u64 c) 8) 60)), (6, vu a), (8, vu d), (18, vu e), (22, vu i), (177, .bool (e != j))] ?_
                 by_cases c60 : e = j
                 ·have b61 : (e != j) = false := bne_eq_false_iff_eq.mpr c60
                  refine N_env [(5, vu (ior .u64 (ishl .u64 (IntKind.wrap .u64 c) 8) 60)), (6, vu a), (8, vu d), (18, vu e), (22, vu i), (177, .bool false)] (by simp only [b61, Bool.not_true, Bool.not_false]) ?_
                  refine T_n 4 [(5, vu (ior .u64 (ishl .u64 (IntKind.wrap .u64 c) 8) 60)), (6, vu a), (8, vu d), (18, vu e), (181, .bool (e != i))] ?_
                  refine N_end (by kernel_rfl) ?_
                  refine S_env [(5, vu (ior .u64 (ishl .u64 (IntKind.wrap .u64 c) 8) 60)), (6, vu a), (8, vu d), (18, vu e), (181, .bool (((((((((((((((!n) || (!o)) || (!p)) || (!q)) || (!r)) || (!s)) || (!t)) || (!u)) || (!m)) || (k != a)) || (l != d)) || (f != d)) || (g != a)) || (e != j)) || (e != i)))] (by simp only [b35, b37, b39, b41, b43, b45, b47, b49, b51, b53, b55, b57, b59, b61, Bool.true_or, Bool.false_or, Bool.or_true, Bool.or_false, Bool.true_and, Bool.false_and, Bool.and_true, Bool.and_false, Bool.not_true, Bool.not_false, cond_true, cond_false]) ?_
                  exact hk
                 ·have b61 : (e != j) = true := bne_iff_ne.mpr c60
                  refine N_env [(5, vu (ior .u64 (ishl .u64 (IntKind.wrap .u64 c) 8) 60)), (6, vu a), (8, vu d), (18, vu e), (22, vu i), (177, .bool true)] (by simp only [b61, Bool.not_true, Bool.not_false]) ?_
                  refine T_n 4 [(5, vu (ior .u64 (ishl .u64 (IntKind.wrap .u64 c) 8) 60)), (6, vu a), (8, vu d), (18, vu e), (181, .bool true)] ?_
                  refine N_end (by kernel_rfl) ?_
                  refine S_env [(5, vu (ior .u64 (ishl .u64 (IntKind.wrap .u64 c) 8) 60)), (6, vu a), (8, vu d), (18, vu e), (181, .bool (((((((((((((((!n) || (!o)) || (!p)) || (!q)) || (!r)) || (!s)) || (!t)) || (!u)) || (!m)) || (k != a)) || (l != d)) || (f != d)) || (g != a)) || (e != j)) || (e != i)))] (by simp only [b35, b37, b39, b41, b43, b45, b47, b49, b51, b53, b55, b57, b59, b61, Bool.true_or, Bool.false_or, Bool.or_true, Bool.or_false, Bool.true_and, Bool.false_and, Bool.and_true, Bool.and_false, Bool.not_true, Bool.not_false, cond_true, cond_false]) ?_
                  exact hk
                ·have b59 : (g != a) = true := bne_iff_ne.mpr c58
                 refine N_env [(5, vu (ior .u64 (ishl .u64 (IntKind.wrap .u64 c) 8) 60)), (6, vu a), (8, vu d), (18, vu e), (20, vu j), (22, vu i), (172, .bool true)] (by simp only [b59, Bool.not_true, Bool.not_false]) ?_
                 refine T_n 9 [(5, vu (ior .u64 (ishl .u64 (IntKind.wrap .u64 c) 8) 60)), (6, vu a), (8, vu d), (18, vu e), (181, .bool true)] ?_
                 refine N_end (by kernel_rfl) ?_
                 refine S_env [(5, vu (ior .u64 (ishl .u64 (IntKind.wrap .u64 c) 8) 60)), (6, vu a), (8, vu d), (18, vu e), (181, .bool (((((((((((((((!n) || (!o)) || (!p)) || (!q)) || (!r)) || (!s)) || (!t)) || (!u)) || (!m)) || (k != a)) || (l != d)) || (f != d)) || (g != a)) || (e != j)) || (e != i)))] (by simp only [b35, b37, b39, b41, b43, b45, b47, b49, b51, b53, b55, b57, b59, Bool.true_or, Bool.false_or, Bool.or_true, Bool.or_false, Bool.true_and, Bool.false_and, Bool.and_true, Bool.and_false, Bool.not_true, Bool.not_false, cond_true, cond_false]) ?_
                 exact hk
               ·have b57 : (f != d) = true := bne_iff_ne.mpr c56
                refine N_env [(5, vu (ior .u64 (ishl .u64 (IntKind.wrap .u64 c) 8) 60)), (6, vu a), (8, vu d), (12, vu g), (18, vu e), (20, vu j), (22, vu i), (167, .bool true)] (by simp only [b57, Bool.not_true, Bool.not_false]) ?_
                refine T_n 14 [(5, vu (ior .u64 (ishl .u64 (IntKind.wrap .u64 c) 8) 60)), (6, vu a), (8, vu d), (18, vu e), (181, .bool true)] ?_
                refine N_end (by kernel_rfl) ?_
                refine S_env [(5, vu (ior .u64 (ishl .u64 (IntKind.wrap .u64 c) 8) 60)), (6, vu a), (8, vu d), (18, vu e), (181, .bool (((((((((((((((!n) || (!o)) || (!p)) || (!q)) || (!r)) || (!s)) || (!t)) || (!u)) || (!m)) || (k != a)) || (l != d)) || (f != d)) || (g != a)) || (e != j)) || (e != i)))] (by simp only [b35, b37, b39, b41, b43, b45, b47, b49, b51, b53, b55, b57, Bool.true_or, Bool.false_or, Bool.or_true, Bool.or_false, Bool.true_and, Bool.false_and, Bool.and_true, Bool.and_false, Bool.not_true, Bool.not_false, cond_true, cond_false]) ?_
                exact hk
              ·have b55 : (l != d) = true := bne_iff_ne.mpr c54
               refine N_env [(5, vu (ior .u64 (ishl .u64 (IntKind.wrap .u64 c) 8) 60)), (6, vu a), (8, vu d), (10, vu f), (12, vu g), (18, vu e), (20, vu j), (22, vu i), (162, .bool true)] (by simp only [b55, Bool.not_true, Bool.not_false]) ?_
               refine T_n 19 [(5, vu (ior .u64 (ishl .u64 (IntKind.wrap .u64 c) 8) 60)), (6, vu a), (8, vu d), (18, vu e), (181, .bool true)] ?_
               refine N_end (by kernel_rfl) ?_
               refine S_env [(5, vu (ior .u64 (ishl .u64 (IntKind.wrap .u64 c) 8) 60)), (6, vu a), (8, vu d), (18, vu e), (181, .bool (((((((((((((((!n) || (!o)) || (!p)) || (!q)) || (!r)) || (!s)) || (!t)) || (!u)) || (!m)) || (k != a)) || (l != d)) || (f != d)) || (g != a)) || (e != j)) || (e != i)))] (by simp only [b35, b37, b39, b41, b43, b45, b47, b49, b51, b53, b55, Bool.true_or, Bool.false_or, Bool.or_true, Bool.or_false, Bool.true_and, Bool.false_and, Bool.and_true, Bool.and_false, Bool.not_true, Bool.not_false, cond_true, cond_false]) ?_
               exact hk
             ·have b53 : (k != a) = true := bne_iff_ne.mpr c52
              refine N_env [(5, vu (ior .u64 (ishl .u64 (IntKind.wrap .u64 c) 8) 60)), (6, vu a), (8, vu d), (10, vu f), (12, vu g), (16, vu l), (18, vu e), (20, vu j), (22, vu i), (157, .bool true)] (by simp only [b53, Bool.not_true, Bool.not_false]) ?_
              refine T_n 24 [(5, vu (ior .u64 (ishl .u64 (IntKind.wrap .u64 c) 8) 60)), (6, vu a), (8, vu d), (18, vu e), (181, .bool true)] ?_
              refine N_end (by kernel_rfl) ?_
              refine S_env [(5, vu (ior .u64 (ishl .u64 (IntKind.wrap .u64 c) 8) 60)), (6, vu a), (8, vu d), (18, vu e), (181, .bool (((((((((((((((!n) || (!o)) || (!p)) || (!q)) || (!r)) || (!s)) || (!t)) || (!u)) || (!m)) || (k != a)) || (l != d)) || (f != d)) || (g != a)) || (e != j)) || (e != i)))] (by simp only [b35, b37, b39, b41, b43, b45, b47, b49, b51, b53, Bool.true_or, Bool.false_or, Bool.or_true, Bool.or_false, Bool.true_and, Bool.false_and, Bool.and_true, Bool.and_false, Bool.not_true, Bool.not_false, cond_true, cond_false]) ?_
              exact hk
            ·have b51 : (!m) = true := congrArg Bool.not (eq_false_of_ne_true c50)
             have b512 : m = false := eq_false_of_ne_true c50
             refine N_env [(5, vu (ior .u64 (ishl .u64 (IntKind.wrap .u64 c) 8) 60)), (6, vu a), (8, vu d), (10, vu f), (12, vu g), (14, vu k), (16, vu l), (18, vu e), (20, vu j), (22, vu i), (152, .bool true)] (by simp only [b51, b512, Bool.not_true, Bool.not_false]) ?_
             refine T_n 29 [(5, vu (ior .u64 (ishl .u64 (IntKind.wrap .u64 c) 8) 60)), (6, vu a), (8, vu d), (18, vu e), (181, .bool true)] ?_
             refine N_end (by kernel_rfl) ?_
             refine S_env [(5, vu (ior .u64 (ishl .u64 (IntKind.wrap .u64 c) 8) 60)), (6, vu a), (8, vu d), (18, vu e), (181, .bool (((((((((((((((!n) || (!o)) || (!p)) || (!q)) || (!r)) || (!s)) || (!t)) || (!u)) || (!m)) || (k != a)) || (l != d)) || (f != d)) || (g != a)) || (e != j)) || (e != i)))] (by simp only [b35, b37, b39, b41, b43, b45, b47, b49, b51, Bool.true_or, Bool.false_or, Bool.or_true, Bool.or_false, Bool.true_and, Bool.false_and, Bool.and_true, Bool.and_false, Bool.not_true, Bool.not_false, cond_true, cond_false]) ?_
             exact hk
           ·have b49 : (!u) = true := congrArg Bool.not (eq_false_of_ne_true c48)
            have b492 : u = false := eq_false_of_ne_true c48
            refine N_env [(5, vu (ior .u64 (ishl .u64 (IntKind.wrap .u64 c) 8) 60)), (6, vu a), (8, vu d), (10, vu f), (12, vu g), (14, vu k), (16, vu l), (18, vu e), (20, vu j), (22, vu i), (23, .bool m), (148, .bool true)] (by simp only [b49, b492, Bool.not_true, Bool.not_false]) ?_
            refine T_n 33 [(5, vu (ior .u64 (ishl .u64 (IntKind.wrap .u64 c) 8) 60)), (6, vu a), (8, vu d), (18, vu e), (181, .bool true)] ?_
            refine N_end (by kernel_rfl) ?_
            refine S_env [(5, vu (ior .u64 (ishl .u64 (IntKind.wrap .u64 c) 8) 60)), (6, vu a), (8, vu d), (18, vu e), (181, .bool (((((((((((((((!n) || (!o)) || (!p)) || (!q)) || (!r)) || (!s)) || (!t)) || (!u)) || (!m)) || (k != a)) || (l != d)) || (f != d)) || (g != a)) || (e != j)) || (e != i)))] (by simp only [b35, b37, b39, b41, b43, b45, b47, b49, Bool.true_or, Bool.false_or, Bool.or_true, Bool.or_false, Bool.true_and, Bool.false_and, Bool.and_true, Bool.and_false, Bool.not_true, Bool.not_false, cond_true, cond_false]) ?_
            exact hk
          ·have b47 : (!t) = true := congrArg Bool.not (eq_false_of_ne_true c46)
           have b472 : t = false := eq_false_of_ne_true c46
           refine N_env [(5, vu (ior .u64 (ishl .u64 (IntKind.wrap .u64 c) 8) 60)), (6, vu a), (8, vu d), (10, vu f), (12, vu g), (14, vu k), (16, vu l), (18, vu e), (20, vu j), (21, .bool u), (22, vu i), (23, .bool m), (144, .bool true)] (by simp only [b47, b472, Bool.not_true, Bool.not_false]) ?_
           refine T_n 37 [(5, vu (ior .u64 (ishl .u64 (IntKind.wrap .u64 c) 8) 60)), (6, vu a), (8, vu d), (18, vu e), (181, .bool true)] ?_
           refine N_end (by kernel_rfl) ?_
           refine S_env [(5, vu (ior .u64 (ishl .u64 (IntKind.wrap .u64 c) 8) 60)), (6, vu a), (8, vu d), (18, vu e), (181, .bool (((((((((((((((!n) || (!o)) || (!p)) || (!q)) || (!r)) || (!s)) || (!t)) || (!u)) || (!m)) || (k != a)) || (l != d)) || (f != d)) || (g != a)) || (e != j)) || (e != i)))] (by simp only [b35, b37, b39, b41, b43, b45, b47, Bool.true_or, Bool.false_or, Bool.or_true, Bool.or_false, Bool.true_and, Bool.false_and, Bool.and_true, Bool.and_false, Bool.not_true, Bool.not_false, cond_true, cond_false]) ?_
           exact hk
         ·have b45 : (!s) = true := congrArg Bool.not (eq_false_of_ne_true c44)
          have b452 : s = false := eq_false_of_ne_true c44
          refine N_env [(5, vu (ior .u64 (ishl .u64 (IntKind.wrap .u64 c) 8) 60)), (6, vu a), (8, vu d), (10, vu f), (12, vu g), (14, vu k), (16, vu l), (18, vu e), (19, .bool t), (20, vu j), (21, .bool u), (22, vu i), (23, .bool m), (140, .bool true)] (by simp only [b45, b452, Bool.not_true, Bool.not_false]) ?_
          refine T_n 41 [(5, vu (ior .u64 (ishl .u64 (IntKind.wrap .u64 c) 8) 60)), (6, vu a), (8, vu d), (18, vu e), (181, .bool true)] ?_
          refine N_end (by kernel_rfl) ?_
          refine S_env [(5, vu (ior .u64 (ishl .u64 (IntKind.wrap .u64 c) 8) 60)), (6, vu a), (8, vu d), (18, vu e), (181, .bool (((((((((((((((!n) || (!o)) || (!p)) || (!q)) || (!r)) || (!s)) || (!t)) || (!u)) || (!m)) || (k != a)) || (l != d)) || (f != d)) || (g != a)) || (e != j)) || (e != i)))] (by simp only [b35, b37, b39, b41, b43, b45, Bool.true_or, Bool.false_or, Bool.or_true, Bool.or_false, Bool.true_and, Bool.false_and, Bool.and_true, Bool.and_false, Bool.not_true, Bool.not_false, cond_true, cond_false]) ?_
          exact hk
        ·have b43 : (!r) = true := congrArg Bool.not (eq_false_of_ne_true c42)
         have b432 : r = false := eq_false_of_ne_true c42
         refine N_env [(5, vu (ior .u64 (ishl .u64 (IntKind.wrap .u64 c) 8) 60)), (6, vu a), (8, vu d), (10, vu f), (12, vu g), (14, vu k), (16, vu l), (17, .bool s), (18, vu e), (19, .bool t), (20, vu j), (21, .bool u), (22, vu i), (23, .bool m), (136, .bool true)] (by simp only [b43, b432, Bool.not_true, Bool.not_false]) ?_
         refine T_n 45 [(5, vu (ior .u64 (ishl .u64 (IntKind.wrap .u64 c) 8) 60)), (6, vu a), (8, vu d), (18, vu e), (181, .bool true)] ?_
         refine N_end (by kernel_rfl) ?_
         refine S_env [(5, vu (ior .u64 (ishl .u64 (IntKind.wrap .u64 c) 8) 60)), (6, vu a), (8, vu d), (18, vu e), (181, .bool (((((((((((((((!n) || (!o)) || (!p)) || (!q)) || (!r)) || (!s)) || (!t)) || (!u)) || (!m)) || (k != a)) || (l != d)) || (f != d)) || (g != a)) || (e != j)) || (e != i)))] (by simp only [b35, b37, b39, b41, b43, Bool.true_or, Bool.false_or, Bool.or_true, Bool.or_false, Bool.true_and, Bool.false_and, Bool.and_true, Bool.and_false, Bool.not_true, Bool.not_false, cond_true, cond_false]) ?_
         exact hk
       ·have b41 : (!q) = true := congrArg Bool.not (eq_false_of_ne_true c40)
        have b412 : q = false := eq_false_of_ne_true c40
        refine N_env [(5, vu (ior .u64 (ishl .u64 (IntKind.wrap .u64 c) 8) 60)), (6, vu a), (8, vu d), (10, vu f), (12, vu g), (14, vu k), (15, .bool r), (16, vu l), (17, .bool s), (18, vu e), (19, .bool t), (20, vu j), (21, .bool u), (22, vu i), (23, .bool m), (132, .bool true)] (by simp only [b41, b412, Bool.not_true, Bool.not_false]) ?_
        refine T_n 49 [(5, vu (ior .u64 (ishl .u64 (IntKind.wrap .u64 c) 8) 60)), (6, vu a), (8, vu d), (18, vu e), (181, .bool true)] ?_
        refine N_end (by kernel_rfl) ?_
        refine S_env [(5, vu (ior .u64 (ishl .u64 (IntKind.wrap .u64 c) 8) 60)), (6, vu a), (8, vu d), (18, vu e), (181, .bool (((((((((((((((!n) || (!o)) || (!p)) || (!q)) || (!r)) || (!s)) || (!t)) || (!u)) || (!m)) || (k != a)) || (l != d)) || (f != d)) || (g != a)) || (e != j)) || (e != i)))] (by simp only [b35, b37, b39, b41, Bool.true_or, Bool.false_or, Bool.or_true, Bool.or_false, Bool.true_and, Bool.false_and, Bool.and_true, Bool.and_false, Bool.not_true, Bool.not_false, cond_true, cond_false]) ?_
        exact hk
      ·have b39 : (!p) = true := congrArg Bool.not (eq_false_of_ne_true c38)
       have b392 : p = false := eq_false_of_ne_true c38
       refine N_env [(5, vu (ior .u64 (ishl .u64 (IntKind.wrap .u64 c) 8) 60)), (6, vu a), (8, vu d), (10, vu f), (12, vu g), (13, .bool q), (14, vu k), (15, .bool r), (16, vu l), (17, .bool s), (18, vu e), (19, .bool t), (20, vu j), (21, .bool u), (22, vu i), (23, .bool m), (128, .bool true)] (by simp only [b39, b392, Bool.not_true, Bool.not_false]) ?_
       refine T_n 53 [(5, vu (ior .u64 (ishl .u64 (IntKind.wrap .u64 c) 8) 60)), (6, vu a), (8, vu d), (18, vu e), (181, .bool true)] ?_
       refine N_end (by kernel_rfl) ?_
       refine S_env [(5, vu (ior .u64 (ishl .u64 (IntKind.wrap .u64 c) 8) 60)), (6, vu a), (8, vu d), (18, vu e), (181, .bool (((((((((((((((!n) || (!o)) || (!p)) || (!q)) || (!r)) || (!s)) || (!t)) || (!u)) || (!m)) || (k != a)) || (l != d)) || (f != d)) || (g != a)) || (e != j)) || (e != i)))] (by simp only [b35, b37, b39, Bool.true_or, Bool.false_or, Bool.or_true, Bool.or_false, Bool.true_and, Bool.false_and, Bool.and_true, Bool.and_false, Bool.not_true, Bool.not_false, cond_true, cond_false]) ?_
       exact hk
     ·have b37 : (!o) = true := congrArg Bool.not (eq_false_of_ne_true c36)
      have b372 : o = false := eq_false_of_ne_true c36
      refine N_env [(5, vu (ior .u64 (ishl .u64 (IntKind.wrap .u64 c) 8) 60)), (6, vu a), (8, vu d), (10, vu f), (11, .bool p), (12, vu g), (13, .bool q), (14, vu k), (15, .bool r), (16, vu l), (17, .bool s), (18, vu e), (19, .bool t), (20, vu j), (21, .bool u), (22, vu i), (23, .bool m), (124, .bool true)] (by simp only [b37, b372, Bool.not_true, Bool.not_false]) ?_
      refine T_n 57 [(5, vu (ior .u64 (ishl .u64 (IntKind.wrap .u64 c) 8) 60)), (6, vu a), (8, vu d), (18, vu e), (181, .bool true)] ?_
      refine N_end (by kernel_rfl) ?_
      refine S_env [(5, vu (ior .u64 (ishl .u64 (IntKind.wrap .u64 c) 8) 60)), (6, vu a), (8, vu d), (18, vu e), (181, .bool (((((((((((((((!n) || (!o)) || (!p)) || (!q)) || (!r)) || (!s)) || (!t)) || (!u)) || (!m)) || (k != a)) || (l != d)) || (f != d)) || (g != a)) || (e != j)) || (e != i)))] (by simp only [b35, b37, Bool.true_or, Bool.false_or, Bool.or_true, Bool.or_false, Bool.true_and, Bool.false_and, Bool.and_true, Bool.and_false, Bool.not_true, Bool.not_false, cond_true, cond_false]) ?_
      exact hk
    ·have b35 : (!n) = true := congrArg Bool.not (eq_false_of_ne_true c34)
     have b352 : n = false := eq_false_of_ne_true c34
     refine N_env [(5, vu (ior .u64 (ishl .u64 (IntKind.wrap .u64 c) 8) 60)), (6, vu a), (8, vu d), (9, .bool o), (10, vu f), (11, .bool p), (12, vu g), (13, .bool q), (14, vu k), (15, .bool r), (16, vu l), (17, .bool s), (18, vu e), (19, .bool t), (20, vu j), (21, .bool u), (22, vu i), (23, .bool m), (120, .bool true)] (by simp only [b35, b352, Bool.not_true, Bool.not_false]) ?_
     refine T_n 61 [(5, vu (ior .u64 (ishl .u64 (IntKind.wrap .u64 c) 8) 60)), (6, vu a), (8, vu d), (18, vu e), (181, .bool true)] ?_
     refine N_end (by kernel_rfl) ?_
     refine S_env [(5, vu (ior .u64 (ishl .u64 (IntKind.wrap .u64 c) 8) 60)), (6, vu a), (8, vu d), (18, vu e), (181, .bool (((((((((((((((!n) || (!o)) || (!p)) || (!q)) || (!r)) || (!s)) || (!t)) || (!u)) || (!m)) || (k != a)) || (l != d)) || (f != d)) || (g != a)) || (e != j)) || (e != i)))] (by simp only [b35, Bool.true_or, Bool.false_or, Bool.or_true, Bool.or_false, Bool.true_and, Bool.false_and, Bool.and_true, Bool.and_false, Bool.not_true, Bool.not_false, cond_true, cond_false]) ?_
     exact hk
 ·intro hk
  refine T_n 3 [(0, .int .i32 c), (3, vp ra), (4, vi rb), (30, .bool (rb != 0))] ?_
  by_cases c1 : rb = 0
  ·have b2 : (rb != 0) = false := bne_eq_false_iff_eq.mpr c1
   refine N_env [(0, .int .i32 c), (3, vp ra), (4, vi rb), (30, .bool false)] (by simp only [b2, Bool.not_true, Bool.not_false]) ?_
   refine T_n 4 [(0, .int .i32 c), (3, vp ra), (4, vi rb), (34, .bool (decide (c < 0)))] ?_
   by_cases c3 : c < 0
   ·have b4 : (decide (c < 0)) = true := decide_eq_true c3
    refine N_env [(0, .int .i32 c), (3, vp ra), (4, vi rb), (34, .bool true)] (by simp only [b4, Bool.not_true, Bool.not_false]) ?_
    refine T_n 11 [(0, .int .i32 c), (3, vp ra), (4, vi rb), (45, .bool true)] ?_
    refine N_end (by kernel_rfl) ?_
    refine S_env [(0, .int .i32 c), (3, vp ra), (4, vi rb), (45, .bool ((((rb != 0) || (decide (c < 0))) || (decide (c > 1114111))) || ((decide (c ≥ 55296)) && (decide (c ≤ 57343)))))] (by simp only [b2, b4, Bool.true_or, Bool.false_or, Bool.or_true, Bool.or_false, Bool.true_and, Bool.false_and, Bool.and_true, Bool.and_false, Bool.not_true, Bool.not_false, cond_true, cond_false]) ?_
    exact hk
   ·have b4 : (decide (c < 0)) = false := decide_eq_false c3
    refine N_env [(0, .int .i32 c), (3, vp ra), (4, vi rb), (34, .bool false)] (by simp only [b4, Bool.not_true, Bool.not_false]) ?_
    refine T_n 4 [(0, .int .i32 c), (3, vp ra), (4, vi rb), (38, .bool (decide (c > 1114111)))] ?_
    by_cases c5 : c > 1114111
    ·have b6 : (decide (c > 1114111)) = true := decide_eq_true c5
     refine N_env [(0, .int .i32 c), (3, vp ra), (4, vi rb), (38, .bool true)] (by simp only [b6, Bool.not_true, Bool.not_false]) ?_
     refine T_n 7 [(0, .int .i32 c), (3, vp ra), (4, vi rb), (45, .bool true)] ?_
     refine N_end (by kernel_rfl) ?_
     refine S_env [(0, .int .i32 c), (3, vp ra), (4, vi rb), (45, .bool ((((rb != 0) || (decide (c < 0))) || (decide (c > 1114111))) || ((decide (c ≥ 55296)) && (decide (c ≤ 57343)))))] (by simp only [b2, b4, b6, Bool.true_or, Bool.false_or, Bool.or_true, Bool.or_false, Bool.true_and, Bool.false_and, Bool.and_true, Bool.and_false, Bool.not_true, Bool.not_false, cond_true, cond_false]) ?_
     exact hk
    ·have b6 : (decide (c > 1114111)) = false := decide_eq_false c5
     refine N_env [(0, .int .i32 c), (3, vp ra), (4, vi rb), (38, .bool false)] (by simp only [b6, Bool.not_true, Bool.not_false]) ?_
     refine T_n 3 [(0, .int .i32 c), (3, vp ra), (4, vi rb), (38, .bool false), (41, .bool (decide (c ≥ 55296)))] ?_
     by_cases c7 : c ≥ 55296
     ·have b8 : (decide (c ≥ 55296)) = true := decide_eq_true c7
      refine N_env [(0, .int .i32 c), (3, vp ra), (4, vi rb), (38, .bool false), (41, .bool true)] (by simp only [b8, Bool.not_true, Bool.not_false]) ?_
      refine T_n 4 [(0, .int .i32 c), (3, vp ra), (4, vi rb), (45, .bool (decide (c ≤ 57343)))] ?_
      refine N_end (by kernel_rfl) ?_
      refine S_env [(0, .int .i32 c), (3, vp ra), (4, vi rb), (45, .bool ((((rb != 0) || (decide (c < 0))) || (decide (c > 1114111))) || ((decide (c ≥ 55296)) && (decide (c ≤ 57343)))))] (by simp only [b2, b4, b6, b8, Bool.true_or, Bool.false_or, Bool.or_true, Bool.or_false, Bool.true_and, Bool.false_and, Bool.and_true, Bool.and_false, Bool.not_true, Bool.not_false, cond_true, cond_false]) ?_
      exact hk
     ·have b8 : (decide (c ≥ 55296)) = false := decide_eq_false c7
      refine N_env [(0, .int .i32 c), (3, vp ra), (4, vi rb), (38, .bool false), (41, .bool false)] (by simp only [b8, Bool.not_true, Bool.not_false]) ?_
      refine T_n 4 [(0, .int .i32 c), (3, vp ra), (4, vi rb), (45, .bool false)] ?_
      refine N_end (by kernel_rfl) ?_
      refine S_env [(0, .int .i32 c), (3, vp ra), (4, vi rb), (45, .bool ((((rb != 0) || (decide (c < 0))) || (decide (c > 1114111))) || ((decide (c ≥ 55296)) && (decide (c ≤ 57343)))))] (by simp only [b2, b4, b6, b8, Bool.true_or, Bool.false_or, Bool.or_true, Bool.or_false, Bool.true_and, Bool.false_and, Bool.and_true, Bool.and_false, Bool.not_true, Bool.not_false, cond_true, cond_false]) ?_
      exact hk
  ·have b2 : (rb != 0) = true := bne_iff_ne.mpr c1
   refine N_env [(0, .int .i32 c), (3, vp ra), (4, vi rb), (30, .bool true)] (by simp only [b2, Bool.not_true, Bool.not_false]) ?_
   refine T_n 15 [(0, .int .i32 c), (3, vp ra), (4, vi rb), (45, .bool true)] ?_
   refine N_end (by kernel_rfl) ?_
   refine S_env [(0, .int .i32 c), (3, vp ra), (4, vi rb), (45, .bool ((((rb != 0) || (decide (c < 0))) || (decide (c > 1114111))) || ((decide (c ≥ 55296)) && (decide (c ≤ 57343)))))] (by simp only [b2, Bool.true_or, Bool.false_or, Bool.or_true, Bool.or_false, Bool.true_and, Bool.false_and, Bool.and_true, Bool.and_false, Bool.not_true, Bool.not_false, cond_true, cond_false]) ?_
   exact hk
end morainelaw23_TextsCase

end Go.Proofs.YthlohokmnajpoaaGreatDoor
