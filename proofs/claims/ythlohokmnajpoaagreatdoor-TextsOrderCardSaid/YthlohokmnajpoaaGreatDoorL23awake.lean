/-
 Written by a program of mine (gen.py): for functions of this translation a predicate transformer over heaps (.pt), and the proof that it is sound for the call (.link).
-/
import Derived.Test.YthlohokmnajpoaaGreatDoorFnsC
set_option linter.unusedSimpArgs false
set_option linter.unusedVariables false
set_option maxHeartbeats 1000000
noncomputable section
namespace Go.Proofs.YthlohokmnajpoaaGreatDoor
open Go
/-! moraine/morainelaw23.awake -/
namespace morainelaw23_awake
def kk0 := Func.code Tryz.f21
def kk1 := Code.fa kk0
def kk2 := Code.fb kk0
def kk3 := Code.fa kk2
def kk4 := Code.fb kk2
def kk5 := Code.fa kk4
def kk6 := Code.fb kk4
def kk7 := Code.fa kk5
def kk8 := Code.fb kk5
def kk9 := Code.fa kk8
def kk10 := Code.fb kk8
def kk11 := Code.fa kk9
def kk12 := Code.fb kk9
def kk13 := Code.fa kk6
def kk14 := Code.fb kk6
def kk15 := Code.fa kk14
def kk16 := Code.fb kk14
def kk17 := Code.fa kk16
def kk18 := Code.fb kk16
def kk19 := Code.fa kk18
def kk20 := Code.fb kk18
def kk21 := Code.fa kk20
def kk22 := Code.fb kk20
def kk23 := Code.fa kk22
def kk24 := Code.fb kk22
def kk25 := Code.fa kk24
def kk26 := Code.fb kk24
def kk27 := Code.fa kk26
def kk28 := Code.fb kk26
def kk29 := Code.fa kk28
def kk30 := Code.fb kk28
def kk31 := Code.fa kk30
def kk32 := Code.fb kk30
end morainelaw23_awake
def morainelaw23_awake.pt  (H : Array Obj) (R : Value → Array Obj → Prop) : Prop :=
 obj_New.C 8 H (fun v H1 => ∃ ra : Option Addr, ∃ rb : Int, v = .tuple #[.pointer ra, .int .i64 rb] ∧ 
 if rb = 0 then (
 onPtr ra (
 R (.bool false) H1) (fun i =>
 obj_Heap_String.C (some i) (ByteArray.mk #[97, 98]) H1 (fun ai H2 => ∃ p : Int, ∃ ab : Int, ai = .tuple #[.int .u64 p, .int .i64 ab] ∧ 
 obj_Heap_String.C (some i) (ByteArray.mk #[195, 177]) H2 (fun al H3 => ∃ r : Int, ∃ aa : Int, al = .tuple #[.int .u64 r, .int .i64 aa] ∧ 
 ∀ (b : Nat) (H4 : Array Obj), b = H3.size → H4 = H3.push (.cells #[.int .u64 p, .int .u64 r] 35) →
 texts_Apply.C (some i) 24 (some (Addr.mk b 0 none)) 2 2 H4 (fun am H5 => ∃ q : Int, ∃ o : Int, am = .tuple #[.int .u64 q, .int .i64 o] ∧ 
 obj_Heap_Text.C (some i) q H5 (fun an H6 => ∃ n : ByteArray, ∃ k : Int, an = .tuple #[.string n, .int .i64 k] ∧ 
 ∀ (x : Nat) (H7 : Array Obj), x = H6.size → H7 = H6.push (.cells #[.int .u64 q] 35) →
 texts_Apply.C (some i) 17 (some (Addr.mk x 0 none)) 1 1 H7 (fun ao H8 => ∃ m : Int, ∃ f : Int, ao = .tuple #[.int .u64 m, .int .i64 f] ∧ 
 ∀ (u : Nat) (H9 : Array Obj), u = H8.size → H9 = H8.push (.cells #[.int .u64 q, .int .u64 16, .int .u64 8] 35) →
 texts_Apply.C (some i) 23 (some (Addr.mk u 0 none)) 3 3 H9 (fun ak ad => ∃ ac : Int, ∃ g : Int, ak = .tuple #[.int .u64 ac, .int .i64 g] ∧ 
 ∀ (s : Nat) (H11 : Array Obj), s = ad.size → H11 = ad.push (.cells #[.int .u64 p] 35) →
 texts_Apply.C (some i) 28 (some (Addr.mk s 0 none)) 1 1 H11 (fun aj ag => ∃ d : Int, ∃ j : Int, aj = .tuple #[.int .u64 d, .int .i64 j] ∧ 
 ∀ (t : Nat) (H13 : Array Obj), t = ag.size → H13 = ag.push (.cells #[.int .u64 p] 35) →
 texts_Apply.C (some i) 28 (some (Addr.mk t 0 none)) 1 1 H13 (fun ah af => ∃ e : Int, ∃ l : Int, ah = .tuple #[.int .u64 e, .int .i64 l] ∧ 
 ∀ (y : Nat) (H15 : Array Obj), y = af.size → H15 = af.push (.cells #[.int .u64 40] 35) →
 texts_Apply.C (some i) 16 (some (Addr.mk y 0 none)) 1 1 H15 (fun ae ap => ∃ z : Int, ∃ a : Int, ae = .tuple #[.int .u64 z, .int .i64 a] ∧ 
 R (.bool ((((((((((o == 0) && (n.toList == (ByteArray.mk #[97, 98, 195, 177]).toList)) && (k == 0)) && (m == 24)) && (f == 0)) && (g == 4)) && (j == 0)) && (l == 0)) && (d == e)) && (a == 3))) ap)))))))))))
 else
 R (.bool false) H1)
namespace morainelaw23_awake
set_option maxRecDepth 100000 in
theorem link  {H : Array Obj} {R : Value → Array Obj → Prop} (h : pt  H R) : C  H R := by
 refine S_enter (fn := Tryz.f21) (c := kk0) 128 Tryz.func21 (by kernel_rfl) (by kernel_rfl) (Nat.le_of_ble_eq_true (by kernel_rfl)) ?_
 intro w0 Q hQ
 unfold pt at h
 refine T_su [] ?_
 refine T_sr 0 kk1 kk2 ?_
 refine T_ne 1 [] ?_
 refine T_sr 1 kk3 kk4 ?_
 refine N_call (some 22) 13 #[vi 8] (fun _=>by kernel_rfl) h ?_; clear h
 rintro v H1 ⟨ra, rb, rfl, h⟩
 refine ⟨[(22, .tuple #[vp ra, vi rb])], pk, ?_⟩
 refine T_ne 5 [(1, vp ra), (2, vi rb)] ?_
 refine T_s kk5 kk6 ?_
 refine T_sr 2 kk7 kk8 ?_
 refine T_n 3 [(1, vp ra), (27, .bool (rb != 0))] ?_
 by_cases c1 : rb = 0
 ·rw [if_pos c1] at h
  have b2 : (rb != 0) = false := bne_eq_false_iff_eq.mpr c1
  refine N_env [(1, vp ra), (27, .bool false)] (by simp only [b2, Bool.not_true, Bool.not_false]) ?_
  clear b2
  refine T_n 1 [(1, vp ra), (27, .bool false), (28, vp ra)] ?_
  rcases ra with _ | i
  ·rw [onPtr_none] at h
   refine T_ne 2 [(1, vp none), (30, .bool true)] ?_
   refine T_t 30 kk9 kk10 ?_
   refine T_sr 3 kk11 kk12 ?_
   refine T_ne 1 [(0, .bool false)] ?_
   refine S_ret (by kernel_rfl) ?_
   show At _ _ _ _ _ (Q .ret)
   exact S_done (fn := Tryz.f21) [.bool false] hQ (show ResOK _ _ _ [.tmp 0] _ from .tmp (by kernel_rfl) (.nil)) h
  ·rw [onPtr_some] at h
   refine T_ne 2 [(1, vp (some i)), (30, .bool false)] ?_
   refine T_f 30 kk9 kk10 ?_
   refine T_kt ?_
   refine T_sr 4 kk13 kk14 ?_
   refine T_n 1 [(1, vp (some i)), (32, vp (some i))] ?_
   refine N_call (some 33) 22 #[vp (some i), .string (ByteArray.mk #[97, 98])] (fun _=>by kernel_rfl) h ?_; clear h
   rintro ai H2 ⟨p, ab, rfl, h⟩
   refine ⟨[(1, vp (some i)), (33, .tuple #[vu p, vi ab])], pk, ?_⟩
   refine T_ne 5 [(1, vp (some i)), (3, vu p)] ?_
   refine T_sr 5 kk15 kk16 ?_
   refine T_n 1 [(1, vp (some i)), (3, vu p), (37, vp (some i))] ?_
   refine N_call (some 38) 22 #[vp (some i), .string (ByteArray.mk #[195, 177])] (fun _=>by kernel_rfl) h ?_; clear h
   rintro al H3 ⟨r, aa, rfl, h⟩
   refine ⟨[(1, vp (some i)), (3, vu p), (38, .tuple #[vu r, vi aa])], pk, ?_⟩
   refine T_ne 5 [(1, vp (some i)), (3, vu p), (5, vu r)] ?_
   refine T_sr 6 kk17 kk18 ?_
   refine T_n 3 [(1, vp (some i)), (3, vu p), (42, vp (some i)), (43, vu p), (44, vu r)] ?_
   refine N_new (some 45) (fun b => vs (pa b) 2 2) (.cells #[vu p, vu r] 35) (fun _=>by kernel_rfl) ?_
   intro b H4 e3 e4
   replace h := h b H4 e3 e4
   refine ⟨[(1, vp (some i)), (3, vu p), (42, vp (some i)), (45, vs (pa b) 2 2)], pk, ?_⟩
   refine N_call (some 46) 28 #[vp (some i), vi 24, vs (pa b) 2 2] (fun _=>by kernel_rfl) h ?_; clear h
   rintro am H5 ⟨q, o, rfl, h⟩
   refine ⟨[(1, vp (some i)), (3, vu p), (46, .tuple #[vu q, vi o])], pk, ?_⟩
   refine T_ne 5 [(1, vp (some i)), (3, vu p), (7, vu q), (8, vi o)] ?_
   refine T_sr 7 kk19 kk20 ?_
   refine T_n 2 [(1, vp (some i)), (3, vu p), (7, vu q), (8, vi o), (50, vp (some i)), (51, vu q)] ?_
   refine N_call (some 52) 50 #[vp (some i), vu q] (fun _=>by kernel_rfl) h ?_; clear h
   rintro an H6 ⟨n, k, rfl, h⟩
   refine ⟨[(1, vp (some i)), (3, vu p), (7, vu q), (8, vi o), (52, .tuple #[.string n, vi k])], pk, ?_⟩
   refine T_ne 5 [(1, vp (some i)), (3, vu p), (7, vu q), (8, vi o), (9, .string n), (10, vi k)] ?_
   refine T_sr 8 kk21 kk22 ?_
   refine T_n 2 [(1, vp (some i)), (3, vu p), (7, vu q), (8, vi o), (9, .string n), (10, vi k), (56, vp (some i)), (57, vu q)] ?_
   refine N_new (some 58) (fun b => vs (pa b) 1 1) (.cells #[vu q] 35) (fun _=>by kernel_rfl) ?_
   intro x H7 e5 e6
   replace h := h x H7 e5 e6
   refine ⟨[(1, vp (some i)), (3, vu p), (7, vu q), (8, vi o), (9, .string n), (10, vi k), (56, vp (some i)), (58, vs (pa x) 1 1)], pk, ?_⟩
   refine N_call (some 59) 28 #[vp (some i), vi 17, vs (pa x) 1 1] (fun _=>by kernel_rfl) h ?_; clear h
   rintro ao H8 ⟨m, f, rfl, h⟩
   refine ⟨[(1, vp (some i)), (3, vu p), (7, vu q), (8, vi o), (9, .string n), (10, vi k), (59, .tuple #[vu m, vi f])], pk, ?_⟩
   refine T_ne 5 [(1, vp (some i)), (3, vu p), (7, vu q), (8, vi o), (9, .string n), (10, vi k), (11, vu m), (12, vi f)] ?_
   refine T_sr 9 kk23 kk24 ?_
   refine T_n 2 [(1, vp (some i)), (3, vu p), (8, vi o), (9, .string n), (10, vi k), (11, vu m), (12, vi f), (63, vp (some i)), (64, vu q)] ?_
   refine N_new (some 65) (fun b => vs (pa b) 3 3) (.cells #[vu q, vu 16, vu 8] 35) (fun _=>by kernel_rfl) ?_
   intro u H9 e7 e8
   replace h := h u H9 e7 e8
   refine ⟨[(1, vp (some i)), (3, vu p), (8, vi o), (9, .string n), (10, vi k), (11, vu m), (12, vi f), (63, vp (some i)), (65, vs (pa u) 3 3)], pk, ?_⟩
   refine N_call (some 66) 28 #[vp (some i), vi 23, vs (pa u) 3 3] (fun _=>by kernel_rfl) h ?_; clear h
   rintro ak ad ⟨ac, g, rfl, h⟩
   refine ⟨[(1, vp (some i)), (3, vu p), (8, vi o), (9, .string n), (10, vi k), (11, vu m), (12, vi f), (66, .tuple #[vu ac, vi g])], pk, ?_⟩
   refine T_ne 5 [(1, vp (some i)), (3, vu p), (8, vi o), (9, .string n), (10, vi k), (11, vu m), (12, vi f), (14, vi g)] ?_
   refine T_sr 10 kk25 kk26 ?_
   refine T_n 2 [(1, vp (some i)), (3, vu p), (8, vi o), (9, .string n), (10, vi k), (11, vu m), (12, vi f), (14, vi g), (70, vp (some i)), (71, vu p)] ?_
   refine N_new (some 72) (fun b => vs (pa b) 1 1) (.cells #[vu p] 35) (fun _=>by kernel_rfl) ?_
   intro s H11 e9 e10
   replace h := h s H11 e9 e10
   refine ⟨[(1, vp (some i)), (3, vu p), (8, vi o), (9, .string n), (10, vi k), (11, vu m), (12, vi f), (14, vi g), (70, vp (some i)), (72, vs (pa s) 1 1)], pk, ?_⟩
   refine N_call (some 73) 28 #[vp (some i), vi 28, vs (pa s) 1 1] (fun _=>by kernel_rfl) h ?_; clear h
   rintro aj ag ⟨d, j, rfl, h⟩
   refine ⟨[(1, vp (some i)), (3, vu p), (8, vi o), (9, .string n), (10, vi k), (11, vu m), (12, vi f), (14, vi g), (73, .tuple #[vu d, vi j])], pk, ?_⟩
   refine T_ne 5 [(1, vp (some i)), (3, vu p), (8, vi o), (9, .string n), (10, vi k), (11, vu m), (12, vi f), (14, vi g), (15, vu d), (16, vi j)] ?_
   refine T_sr 11 kk27 kk28 ?_
   refine T_n 2 [(1, vp (some i)), (8, vi o), (9, .string n), (10, vi k), (11, vu m), (12, vi f), (14, vi g), (15, vu d), (16, vi j), (77, vp (some i)), (78, vu p)] ?_
   refine N_new (some 79) (fun b => vs (pa b) 1 1) (.cells #[vu p] 35) (fun _=>by kernel_rfl) ?_
   intro t H13 e11 e12
   replace h := h t H13 e11 e12
   refine ⟨[(1, vp (some i)), (8, vi o), (9, .string n), (10, vi k), (11, vu m), (12, vi f), (14, vi g), (15, vu d), (16, vi j), (77, vp (some i)), (79, vs (pa t) 1 1)], pk, ?_⟩
   refine N_call (some 80) 28 #[vp (some i), vi 28, vs (pa t) 1 1] (fun _=>by kernel_rfl) h ?_; clear h
   rintro ah af ⟨e, l, rfl, h⟩
   refine ⟨[(1, vp (some i)), (8, vi o), (9, .string n), (10, vi k), (11, vu m), (12, vi f), (14, vi g), (15, vu d), (16, vi j), (80, .tuple #[vu e, vi l])], pk, ?_⟩
   refine T_ne 5 [(1, vp (some i)), (8, vi o), (9, .string n), (10, vi k), (11, vu m), (12, vi f), (14, vi g), (15, vu d), (16, vi j), (17, vu e), (18, vi l)] ?_
   refine T_sr 12 kk29 kk30 ?_
   refine T_n 1 [(8, vi o), (9, .string n), (10, vi k), (11, vu m), (12, vi f), (14, vi g), (15, vu d), (16, vi j), (17, vu e), (18, vi l), (84, vp (some i))] ?_
   refine N_new (some 85) (fun b => vs (pa b) 1 1) (.cells #[vu 40] 35) (fun _=>by kernel_rfl) ?_
   intro y H15 e13 e14
   replace h := h y H15 e13 e14
   refine ⟨[(8, vi o), (9, .string n), (10, vi k), (11, vu m), (12, vi f), (14, vi g), (15, vu d), (16, vi j), (17, vu e), (18, vi l), (84, vp (some i)), (85, vs (pa y) 1 1)], pk, ?_⟩
   refine N_call (some 86) 28 #[vp (some i), vi 16, vs (pa y) 1 1] (fun _=>by kernel_rfl) h ?_; clear h
   rintro ae ap ⟨z, a, rfl, h⟩
   refine ⟨[(8, vi o), (9, .string n), (10, vi k), (11, vu m), (12, vi f), (14, vi g), (15, vu d), (16, vi j), (17, vu e), (18, vi l), (86, .tuple #[vu z, vi a])], pk, ?_⟩
   refine T_ne 5 [(8, vi o), (9, .string n), (10, vi k), (11, vu m), (12, vi f), (14, vi g), (15, vu d), (16, vi j), (17, vu e), (18, vi l), (20, vi a)] ?_
   refine T_sr 13 kk31 kk32 ?_
   refine N_cut [(0, .bool ((((((((((o == 0) && (n.toList == (ByteArray.mk #[97, 98, 195, 177]).toList)) && (k == 0)) && (m == 24)) && (f == 0)) && (g == 4)) && (j == 0)) && (l == 0)) && (d == e)) && (a == 3)))] ?_ ?_
   ·refine S_then ?_
    refine S_ret (by kernel_rfl) ?_
    show At _ _ _ _ _ (Q .ret)
    exact S_done (fn := Tryz.f21) [.bool ((((((((((o == 0) && (n.toList == (ByteArray.mk #[97, 98, 195, 177]).toList)) && (k == 0)) && (m == 24)) && (f == 0)) && (g == 4)) && (j == 0)) && (l == 0)) && (d == e)) && (a == 3))] hQ (show ResOK _ _ _ [.tmp 0] _ from .tmp (by kernel_rfl) (.nil)) h
   ·intro hk
    refine T_n 3 [(9, .string n), (10, vi k), (11, vu m), (12, vi f), (14, vi g), (15, vu d), (16, vi j), (17, vu e), (18, vi l), (20, vi a), (91, .bool (o == 0))] ?_
    by_cases c15 : o = 0
    ·have b16 : (o == 0) = true := beq_iff_eq.mpr c15
     refine N_env [(9, .string n), (10, vi k), (11, vu m), (12, vi f), (14, vi g), (15, vu d), (16, vi j), (17, vu e), (18, vi l), (20, vi a), (91, .bool true)] (by simp only [b16, Bool.not_true, Bool.not_false]) ?_
     refine T_n 4 [(10, vi k), (11, vu m), (12, vi f), (14, vi g), (15, vu d), (16, vi j), (17, vu e), (18, vi l), (20, vi a), (95, .bool (n.toList == (ByteArray.mk #[97, 98, 195, 177]).toList))] ?_
     by_cases c17 : n.toList = (ByteArray.mk #[97, 98, 195, 177]).toList
     ·have b18 : (n.toList == (ByteArray.mk #[97, 98, 195, 177]).toList) = true := beq_iff_eq.mpr c17
      refine N_env [(10, vi k), (11, vu m), (12, vi f), (14, vi g), (15, vu d), (16, vi j), (17, vu e), (18, vi l), (20, vi a), (95, .bool true)] (by simp only [b18, Bool.not_true, Bool.not_false]) ?_
      refine T_n 4 [(11, vu m), (12, vi f), (14, vi g), (15, vu d), (16, vi j), (17, vu e), (18, vi l), (20, vi a), (99, .bool (k == 0))] ?_
      by_cases c19 : k = 0
      ·have b20 : (k == 0) = true := beq_iff_eq.mpr c19
       refine N_env [(11, vu m), (12, vi f), (14, vi g), (15, vu d), (16, vi j), (17, vu e), (18, vi l), (20, vi a), (99, .bool true)] (by simp only [b20, Bool.not_true, Bool.not_false]) ?_
       refine T_n 4 [(12, vi f), (14, vi g), (15, vu d), (16, vi j), (17, vu e), (18, vi l), (20, vi a), (103, .bool (m == 24))] ?_
       by_cases c21 : m = 24
       ·have b22 : (m == 24) = true := beq_iff_eq.mpr c21
        refine N_env [(12, vi f), (14, vi g), (15, vu d), (16, vi j), (17, vu e), (18, vi l), (20, vi a), (103, .bool true)] (by simp only [b22, Bool.not_true, Bool.not_false]) ?_
        refine T_n 4 [(14, vi g), (15, vu d), (16, vi j), (17, vu e), (18, vi l), (20, vi a), (107, .bool (f == 0))] ?_
        by_cases c23 : f = 0
        ·have b24 : (f == 0) = true := beq_iff_eq.mpr c23
         refine N_env [(14, vi g), (15, vu d), (16, vi j), (17, vu e), (18, vi l), (20, vi a), (107, .bool true)] (by simp only [b24, Bool.not_true, Bool.not_false]) ?_
         refine T_n 4 [(15, vu d), (16, vi j), (17, vu e), (18, vi l), (20, vi a), (111, .bool (g == 4))] ?_
         by_cases c25 : g = 4
         ·have b26 : (g == 4) = true := beq_iff_eq.mpr c25
          refine N_env [(15, vu d), (16, vi j), (17, vu e), (18, vi l), (20, vi a), (111, .bool true)] (by simp only [b26, Bool.not_true, Bool.not_false]) ?_
          refine T_n 4 [(15, vu d), (17, vu e), (18, vi l), (20, vi a), (115, .bool (j == 0))] ?_
          by_cases c27 : j = 0
          ·have b28 : (j == 0) = true := beq_iff_eq.mpr c27
           refine N_env [(15, vu d), (17, vu e), (18, vi l), (20, vi a), (115, .bool true)] (by simp only [b28, Bool.not_true, Bool.not_false]) ?_
           refine T_n 4 [(15, vu d), (17, vu e), (20, vi a), (119, .bool (l == 0))] ?_
           by_cases c29 : l = 0
           ·have b30 : (l == 0) = true := beq_iff_eq.mpr c29
            refine N_env [(15, vu d), (17, vu e), (20, vi a), (119, .bool true)] (by simp only [b30, Bool.not_true, Bool.not_false]) ?_
            refine T_n 5 [(20, vi a), (124, .bool (d == e))] ?_
            by_cases c31 : d = e
            ·have b32 : (d == e) = true := beq_iff_eq.mpr c31
             refine N_env [(20, vi a), (124, .bool true)] (by simp only [b32, Bool.not_true, Bool.not_false]) ?_
             refine T_n 4 [(0, .bool (a == 3))] ?_
             refine N_end (by kernel_rfl) ?_
             refine S_env [(0, .bool ((((((((((o == 0) && (n.toList == (ByteArray.mk #[97, 98, 195, 177]).toList)) && (k == 0)) && (m == 24)) && (f == 0)) && (g == 4)) && (j == 0)) && (l == 0)) && (d == e)) && (a == 3)))] (by simp only [b16, b18, b20, b22, b24, b26, b28, b30, b32, Bool.true_or, Bool.false_or, Bool.or_true, Bool.or_false, Bool.true_and, Bool.false_and, Bool.and_true, Bool.and_false, Bool.not_true, Bool.not_false, cond_true, cond_false]) ?_
             exact hk
            ·have b32 : (d == e) = false := beq_eq_false_iff_ne.mpr c31
             refine N_env [(20, vi a), (124, .bool false)] (by simp only [b32, Bool.not_true, Bool.not_false]) ?_
             refine T_n 4 [(0, .bool false)] ?_
             refine N_end (by kernel_rfl) ?_
             refine S_env [(0, .bool ((((((((((o == 0) && (n.toList == (ByteArray.mk #[97, 98, 195, 177]).toList)) && (k == 0)) && (m == 24)) && (f == 0)) && (g == 4)) && (j == 0)) && (l == 0)) && (d == e)) && (a == 3)))] (by simp only [b16, b18, b20, b22, b24, b26, b28, b30, b32, Bool.true_or, Bool.false_or, Bool.or_true, Bool.or_false, Bool.true_and, Bool.false_and, Bool.and_true, Bool.and_false, Bool.not_true, Bool.not_false, cond_true, cond_false]) ?_
             exact hk
           ·have b30 : (l == 0) = false := beq_eq_false_iff_ne.mpr c29
            refine N_env [(15, vu d), (17, vu e), (20, vi a), (119, .bool false)] (by simp only [b30, Bool.not_true, Bool.not_false]) ?_
            refine T_n 9 [(0, .bool false)] ?_
            refine N_end (by kernel_rfl) ?_
            refine S_env [(0, .bool ((((((((((o == 0) && (n.toList == (ByteArray.mk #[97, 98, 195, 177]).toList)) && (k == 0)) && (m == 24)) && (f == 0)) && (g == 4)) && (j == 0)) && (l == 0)) && (d == e)) && (a == 3)))] (by simp only [b16, b18, b20, b22, b24, b26, b28, b30, Bool.true_or, Bool.false_or, Bool.or_true, Bool.or_false, Bool.true_and, Bool.false_and, Bool.and_true, Bool.and_false, Bool.not_true, Bool.not_false, cond_true, cond_false]) ?_
            exact hk
          ·have b28 : (j == 0) = false := beq_eq_false_iff_ne.mpr c27
           refine N_env [(15, vu d), (17, vu e), (18, vi l), (20, vi a), (115, .bool false)] (by simp only [b28, Bool.not_true, Bool.not_false]) ?_
           refine T_n 13 [(0, .bool false)] ?_
           refine N_end (by kernel_rfl) ?_
           refine S_env [(0, .bool ((((((((((o == 0) && (n.toList == (ByteArray.mk #[97, 98, 195, 177]).toList)) && (k == 0)) && (m == 24)) && (f == 0)) && (g == 4)) && (j == 0)) && (l == 0)) && (d == e)) && (a == 3)))] (by simp only [b16, b18, b20, b22, b24, b26, b28, Bool.true_or, Bool.false_or, Bool.or_true, Bool.or_false, Bool.true_and, Bool.false_and, Bool.and_true, Bool.and_false, Bool.not_true, Bool.not_false, cond_true, cond_false]) ?_
           exact hk
         ·have b26 : (g == 4) = false := beq_eq_false_iff_ne.mpr c25
          refine N_env [(15, vu d), (16, vi j), (17, vu e), (18, vi l), (20, vi a), (111, .bool false)] (by simp only [b26, Bool.not_true, Bool.not_false]) ?_
          refine T_n 17 [(0, .bool false)] ?_
          refine N_end (by kernel_rfl) ?_
          refine S_env [(0, .bool ((((((((((o == 0) && (n.toList == (ByteArray.mk #[97, 98, 195, 177]).toList)) && (k == 0)) && (m == 24)) && (f == 0)) && (g == 4)) && (j == 0)) && (l == 0)) && (d == e)) && (a == 3)))] (by simp only [b16, b18, b20, b22, b24, b26, Bool.true_or, Bool.false_or, Bool.or_true, Bool.or_false, Bool.true_and, Bool.false_and, Bool.and_true, Bool.and_false, Bool.not_true, Bool.not_false, cond_true, cond_false]) ?_
          exact hk
        ·have b24 : (f == 0) = false := beq_eq_false_iff_ne.mpr c23
         refine N_env [(14, vi g), (15, vu d), (16, vi j), (17, vu e), (18, vi l), (20, vi a), (107, .bool false)] (by simp only [b24, Bool.not_true, Bool.not_false]) ?_
         refine T_n 21 [(0, .bool false)] ?_
         refine N_end (by kernel_rfl) ?_
         refine S_env [(0, .bool ((((((((((o == 0) && (n.toList == (ByteArray.mk #[97, 98, 195, 177]).toList)) && (k == 0)) && (m == 24)) && (f == 0)) && (g == 4)) && (j == 0)) && (l == 0)) && (d == e)) && (a == 3)))] (by simp only [b16, b18, b20, b22, b24, Bool.true_or, Bool.false_or, Bool.or_true, Bool.or_false, Bool.true_and, Bool.false_and, Bool.and_true, Bool.and_false, Bool.not_true, Bool.not_false, cond_true, cond_false]) ?_
         exact hk
       ·have b22 : (m == 24) = false := beq_eq_false_iff_ne.mpr c21
        refine N_env [(12, vi f), (14, vi g), (15, vu d), (16, vi j), (17, vu e), (18, vi l), (20, vi a), (103, .bool false)] (by simp only [b22, Bool.not_true, Bool.not_false]) ?_
        refine T_n 25 [(0, .bool false)] ?_
        refine N_end (by kernel_rfl) ?_
        refine S_env [(0, .bool ((((((((((o == 0) && (n.toList == (ByteArray.mk #[97, 98, 195, 177]).toList)) && (k == 0)) && (m == 24)) && (f == 0)) && (g == 4)) && (j == 0)) && (l == 0)) && (d == e)) && (a == 3)))] (by simp only [b16, b18, b20, b22, Bool.true_or, Bool.false_or, Bool.or_true, Bool.or_false, Bool.true_and, Bool.false_and, Bool.and_true, Bool.and_false, Bool.not_true, Bool.not_false, cond_true, cond_false]) ?_
        exact hk
      ·have b20 : (k == 0) = false := beq_eq_false_iff_ne.mpr c19
       refine N_env [(11, vu m), (12, vi f), (14, vi g), (15, vu d), (16, vi j), (17, vu e), (18, vi l), (20, vi a), (99, .bool false)] (by simp only [b20, Bool.not_true, Bool.not_false]) ?_
       refine T_n 29 [(0, .bool false)] ?_
       refine N_end (by kernel_rfl) ?_
       refine S_env [(0, .bool ((((((((((o == 0) && (n.toList == (ByteArray.mk #[97, 98, 195, 177]).toList)) && (k == 0)) && (m == 24)) && (f == 0)) && (g == 4)) && (j == 0)) && (l == 0)) && (d == e)) && (a == 3)))] (by simp only [b16, b18, b20, Bool.true_or, Bool.false_or, Bool.or_true, Bool.or_false, Bool.true_and, Bool.false_and, Bool.and_true, Bool.and_false, Bool.not_true, Bool.not_false, cond_true, cond_false]) ?_
       exact hk
     ·have b18 : (n.toList == (ByteArray.mk #[97, 98, 195, 177]).toList) = false := beq_eq_false_iff_ne.mpr c17
      refine N_env [(10, vi k), (11, vu m), (12, vi f), (14, vi g), (15, vu d), (16, vi j), (17, vu e), (18, vi l), (20, vi a), (95, .bool false)] (by simp only [b18, Bool.not_true, Bool.not_false]) ?_
      refine T_n 33 [(0, .bool false)] ?_
      refine N_end (by kernel_rfl) ?_
      refine S_env [(0, .bool ((((((((((o == 0) && (n.toList == (ByteArray.mk #[97, 98, 195, 177]).toList)) && (k == 0)) && (m == 24)) && (f == 0)) && (g == 4)) && (j == 0)) && (l == 0)) && (d == e)) && (a == 3)))] (by simp only [b16, b18, Bool.true_or, Bool.false_or, Bool.or_true, Bool.or_false, Bool.true_and, Bool.false_and, Bool.and_true, Bool.and_false, Bool.not_true, Bool.not_false, cond_true, cond_false]) ?_
      exact hk
    ·have b16 : (o == 0) = false := beq_eq_false_iff_ne.mpr c15
     refine N_env [(9, .string n), (10, vi k), (11, vu m), (12, vi f), (14, vi g), (15, vu d), (16, vi j), (17, vu e), (18, vi l), (20, vi a), (91, .bool false)] (by simp only [b16, Bool.not_true, Bool.not_false]) ?_
     refine T_n 37 [(0, .bool false)] ?_
     refine N_end (by kernel_rfl) ?_
     refine S_env [(0, .bool ((((((((((o == 0) && (n.toList == (ByteArray.mk #[97, 98, 195, 177]).toList)) && (k == 0)) && (m == 24)) && (f == 0)) && (g == 4)) && (j == 0)) && (l == 0)) && (d == e)) && (a == 3)))] (by simp only [b16, Bool.true_or, Bool.false_or, Bool.or_true, Bool.or_false, Bool.true_and, Bool.false_and, Bool.and_true, Bool.and_false, Bool.not_true, Bool.not_false, cond_true, cond_false]) ?_
     exact hk
 ·rw [if_neg c1] at h
  have b2 : (rb != 0) = true := bne_iff_ne.mpr c1
  refine N_env [(1, vp ra), (27, .bool true)] (by simp only [b2, Bool.not_true, Bool.not_false]) ?_
  clear b2
  refine T_ne 3 [(1, vp ra), (30, .bool true)] ?_
  refine T_t 30 kk9 kk10 ?_
  refine T_sr 3 kk11 kk12 ?_
  refine T_ne 1 [(0, .bool false)] ?_
  refine S_ret (by kernel_rfl) ?_
  show At _ _ _ _ _ (Q .ret)
  exact S_done (fn := Tryz.f21) [.bool false] hQ (show ResOK _ _ _ [.tmp 0] _ from .tmp (by kernel_rfl) (.nil)) h
end morainelaw23_awake

end Go.Proofs.YthlohokmnajpoaaGreatDoor
