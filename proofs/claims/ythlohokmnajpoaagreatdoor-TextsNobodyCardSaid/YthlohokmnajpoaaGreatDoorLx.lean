/-
 Written by a program of mine (gen.py): for functions of this translation a predicate transformer over heaps (.pt), and the proof that it is sound for the call (.link).
-/
import Derived.Test.YthlohokmnajpoaaGreatDoorFnsC
set_option linter.unusedSimpArgs false
set_option linter.unusedVariables false
set_option maxHeartbeats 1000000
noncomputable section
namespace Go.Proofs.YthlohokmnajpoaaGreatDoor
open Go
/-! moraine/morainelaw23.awake -/
namespace morainelaw23_awake
def kk0 := Func.code Tryz.f21
def kk1 := Code.fa kk0
def kk2 := Code.fb kk0
def kk3 := Code.fa kk2
def kk4 := Code.fb kk2
def kk5 := Code.fa kk4
def kk6 := Code.fb kk4
def kk7 := Code.fa kk5
def kk8 := Code.fb kk5
def kk9 := Code.fa kk8
def kk10 := Code.fb kk8
def kk11 := Code.fa kk9
def kk12 := Code.fb kk9
def kk13 := Code.fa kk6
def kk14 := Code.fb kk6
def kk15 := Code.fa kk14
def kk16 := Code.fb kk14
def kk17 := Code.fa kk16
def kk18 := Code.fb kk16
def kk19 := Code.fa kk18
def kk20 := Code.fb kk18
def kk21 := Code.fa kk20
def kk22 := Code.fb kk20
def kk23 := Code.fa kk22
def kk24 := Code.fb kk22
def kk25 := Code.fa kk24
def kk26 := Code.fb kk24
def kk27 := Code.fa kk26
def kk28 := Code.fb kk26
def kk29 := Code.fa kk28
def kk30 := Code.fb kk28
def kk31 := Code.fa kk30
def kk32 := Code.fb kk30
end morainelaw23_awake
def morainelaw23_awake.pt  (H : Array Obj) (R : Value → Array Obj → Prop) : Prop :=
 obj_New.C 8 H (fun v H1 => ∃ ra : Option Addr, ∃ rb : Int, v = .tuple #[.pointer ra, .int .i64 rb] ∧ 
 if rb = 0 then (
 onPtr ra (
 R (.bool false) H1) (fun i =>
 obj_Heap_String.C (some i) (ByteArray.mk #[97, 98]) H1 (fun ao H2 => ∃ p : Int, ∃ ab : Int, ao = .tuple #[.int .u64 p, .int .i64 ab] ∧ 
 obj_Heap_String.C (some i) (ByteArray.mk #[195, 177]) H2 (fun ap H3 => ∃ r : Int, ∃ aa : Int, ap = .tuple #[.int .u64 r, .int .i64 aa] ∧ 
 ∀ (b : Nat) (H4 : Array Obj), b = H3.size → H4 = H3.push (.cells #[.int .u64 p, .int .u64 r] 35) →
 texts_Apply.C (some i) 24 (some (Addr.mk b 0 none)) 2 2 H4 (fun an H5 => ∃ q : Int, ∃ o : Int, an = .tuple #[.int .u64 q, .int .i64 o] ∧ 
 obj_Heap_Text.C (some i) q H5 (fun ak H6 => ∃ n : ByteArray, ∃ j : Int, ak = .tuple #[.string n, .int .i64 j] ∧ 
 ∀ (y : Nat) (H7 : Array Obj), y = H6.size → H7 = H6.push (.cells #[.int .u64 q] 35) →
 texts_Apply.C (some i) 17 (some (Addr.mk y 0 none)) 1 1 H7 (fun ah H8 => ∃ m : Int, ∃ e : Int, ah = .tuple #[.int .u64 m, .int .i64 e] ∧ 
 ∀ (x : Nat) (H9 : Array Obj), x = H8.size → H9 = H8.push (.cells #[.int .u64 q, .int .u64 16, .int .u64 8] 35) →
 texts_Apply.C (some i) 23 (some (Addr.mk x 0 none)) 3 3 H9 (fun am ag => ∃ ac : Int, ∃ g : Int, am = .tuple #[.int .u64 ac, .int .i64 g] ∧ 
 ∀ (t : Nat) (H11 : Array Obj), t = ag.size → H11 = ag.push (.cells #[.int .u64 p] 35) →
 texts_Apply.C (some i) 28 (some (Addr.mk t 0 none)) 1 1 H11 (fun aj ad => ∃ d : Int, ∃ k : Int, aj = .tuple #[.int .u64 d, .int .i64 k] ∧ 
 ∀ (u : Nat) (H13 : Array Obj), u = ad.size → H13 = ad.push (.cells #[.int .u64 p] 35) →
 texts_Apply.C (some i) 28 (some (Addr.mk u 0 none)) 1 1 H13 (fun ai ae => ∃ f : Int, ∃ l : Int, ai = .tuple #[.int .u64 f, .int .i64 l] ∧ 
 ∀ (s : Nat) (H15 : Array Obj), s = ae.size → H15 = ae.push (.cells #[.int .u64 40] 35) →
 texts_Apply.C (some i) 16 (some (Addr.mk s 0 none)) 1 1 H15 (fun af al => ∃ z : Int, ∃ a : Int, af = .tuple #[.int .u64 z, .int .i64 a] ∧ 
 R (.bool ((((((((((o == 0) && (n.toList == (ByteArray.mk #[97, 98, 195, 177]).toList)) && (j == 0)) && (m == 24)) && (e == 0)) && (g == 4)) && (k == 0)) && (l == 0)) && (d == f)) && (a == 3))) al)))))))))))
 else
 R (.bool false) H1)
namespace morainelaw23_awake
set_option maxRecDepth 100000 in
theorem link  {H : Array Obj} {R : Value → Array Obj → Prop} (h : pt  H R) : C  H R := by
 refine S_enter (fn := Tryz.f21) (c := kk0) 128 Tryz.func21 (by kernel_rfl) (by kernel_rfl) (Nat.le_of_ble_eq_true (by kernel_rfl)) ?_
 intro w0 Q hQ
 unfold pt at h
 refine T_su [] ?_
 refine T_sr 0 kk1 kk2 ?_
 refine T_ne 1 [] ?_
 refine T_sr 1 kk3 kk4 ?_
 refine N_call (some 22) 13 #[vi 8] (fun _=>by kernel_rfl) h ?_; clear h
 rintro v H1 ⟨ra, rb, rfl, h⟩
 refine ⟨[(22, .tuple #[vp ra, vi rb])], pk, ?_⟩
 refine T_ne 5 [(1, vp ra), (2, vi rb)] ?_
 refine T_s kk5 kk6 ?_
 refine T_sr 2 kk7 kk8 ?_
 refine T_n 3 [(1, vp ra), (27, .bool (rb != 0))] ?_
 by_cases c1 : rb = 0
 ·rw [if_pos c1] at h
  have b2 : (rb != 0) = false := bne_eq_false_iff_eq.mpr c1
  refine N_env [(1, vp ra), (27, .bool false)] (by simp only [b2, Bool.not_true, Bool.not_false]) ?_
  clear b2
  refine T_n 1 [(1, vp ra), (27, .bool false), (28, vp ra)] ?_
  rcases ra with _ | i
  ·rw [onPtr_none] at h
   refine T_ne 2 [(1, vp none), (30, .bool true)] ?_
   refine T_t 30 kk9 kk10 ?_
   refine T_sr 3 kk11 kk12 ?_
   refine T_ne 1 [(0, .bool false)] ?_
   refine S_ret (by kernel_rfl) ?_
   show At _ _ _ _ _ (Q .ret)
   exact S_done (fn := Tryz.f21) [.bool false] hQ (show ResOK _ _ _ [.tmp 0] _ from .tmp (by kernel_rfl) (.nil)) h
  ·rw [onPtr_some] at h
   refine T_ne 2 [(1, vp (some i)), (30, .bool false)] ?_
   refine T_f 30 kk9 kk10 ?_
   refine T_kt ?_
   refine T_sr 4 kk13 kk14 ?_
   refine T_n 1 [(1, vp (some i)), (32, vp (some i))] ?_
   refine N_call (some 33) 22 #[vp (some i), .string (ByteArray.mk #[97, 98])] (fun _=>by kernel_rfl) h ?_; clear h
   rintro ao H2 ⟨p, ab, rfl, h⟩
   refine ⟨[(1, vp (some i)), (33, .tuple #[vu p, vi ab])], pk, ?_⟩
   refine T_ne 5 [(1, vp (some i)), (3, vu p)] ?_
   refine T_sr 5 kk15 kk16 ?_
   refine T_n 1 [(1, vp (some i)), (3, vu p), (37, vp (some i))] ?_
   refine N_call (some 38) 22 #[vp (some i), .string (ByteArray.mk #[195, 177])] (fun _=>by kernel_rfl) h ?_; clear h
   rintro ap H3 ⟨r, aa, rfl, h⟩
   refine ⟨[(1, vp (some i)), (3, vu p), (38, .tuple #[vu r, vi aa])], pk, ?_⟩
   refine T_ne 5 [(1, vp (some i)), (3, vu p), (5, vu r)] ?_
   refine T_sr 6 kk17 kk18 ?_
   refine T_n 3 [(1, vp (some i)), (3, vu p), (42, vp (some i)), (43, vu p), (44, vu r)] ?_
   refine N_new (some 45) (fun b => vs (pa b) 2 2) (.cells #[vu p, vu r] 35) (fun _=>by kernel_rfl) ?_
   intro b H4 e3 e4
   replace h := h b H4 e3 e4
   refine ⟨[(1, vp (some i)), (3, vu p), (42, vp (some i)), (45, vs (pa b) 2 2)], pk, ?_⟩
   refine N_call (some 46) 28 #[vp (some i), vi 24, vs (pa b) 2 2] (fun _=>by kernel_rfl) h ?_; clear h
   rintro an H5 ⟨q, o, rfl, h⟩
   refine ⟨[(1, vp (some i)), (3, vu p), (46, .tuple #[vu q, vi o])], pk, ?_⟩
   refine T_ne 5 [(1, vp (some i)), (3, vu p), (7, vu q), (8, vi o)] ?_
   refine T_sr 7 kk19 kk20 ?_
   refine T_n 2 [(1, vp (some i)), (3, vu p), (7, vu q), (8, vi o), (50, vp (some i)), (51, vu q)] ?_
   refine N_call (some 52) 50 #[vp (some i), vu q] (fun _=>by kernel_rfl) h ?_; clear h
   rintro ak H6 ⟨n, j, rfl, h⟩
   refine ⟨[(1, vp (some i)), (3, vu p), (7, vu q), (8, vi o), (52, .tuple #[.string n, vi j])], pk, ?_⟩
   refine T_ne 5 [(1, vp (some i)), (3, vu p), (7, vu q), (8, vi o), (9, .string n), (10, vi j)] ?_
   refine T_sr 8 kk21 kk22 ?_
   refine T_n 2 [(1, vp (some i)), (3, vu p), (7, vu q), (8, vi o), (9, .string n), (10, vi j), (56, vp (some i)), (57, vu q)] ?_
   refine N_new (some 58) (fun b => vs (pa b) 1 1) (.cells #[vu q] 35) (fun _=>by kernel_rfl) ?_
   intro y H7 e5 e6
   replace h := h y H7 e5 e6
   refine ⟨[(1, vp (some i)), (3, vu p), (7, vu q), (8, vi o), (9, .string n), (10, vi j), (56, vp (some i)), (58, vs (pa y) 1 1)], pk, ?_⟩
   refine N_call (some 59) 28 #[vp (some i), vi 17, vs (pa y) 1 1] (fun _=>by kernel_rfl) h ?_; clear h
   rintro ah H8 ⟨m, e, rfl, h⟩
   refine ⟨[(1, vp (some i)), (3, vu p), (7, vu q), (8, vi o), (9, .string n), (10, vi j), (59, .tuple #[vu m, vi e])], pk, ?_⟩
   refine T_ne 5 [(1, vp (some i)), (3, vu p), (7, vu q), (8, vi o), (9, .string n), (10, vi j), (11, vu m), (12, vi e)] ?_
   refine T_sr 9 kk23 kk24 ?_
   refine T_n 2 [(1, vp (some i)), (3, vu p), (8, vi o), (9, .string n), (10, vi j), (11, vu m), (12, vi e), (63, vp (some i)), (64, vu q)] ?_
   refine N_new (some 65) (fun b => vs (pa b) 3 3) (.cells #[vu q, vu 16, vu 8] 35) (fun _=>by kernel_rfl) ?_
   intro x H9 e7 e8
   replace h := h x H9 e7 e8
   refine ⟨[(1, vp (some i)), (3, vu p), (8, vi o), (9, .string n), (10, vi j), (11, vu m), (12, vi e), (63, vp (some i)), (65, vs (pa x) 3 3)], pk, ?_⟩
   refine N_call (some 66) 28 #[vp (some i), vi 23, vs (pa x) 3 3] (fun _=>by kernel_rfl) h ?_; clear h
   rintro am ag ⟨ac, g, rfl, h⟩
   refine ⟨[(1, vp (some i)), (3, vu p), (8, vi o), (9, .string n), (10, vi j), (11, vu m), (12, vi e), (66, .tuple #[vu ac, vi g])], pk, ?_⟩
   refine T_ne 5 [(1, vp (some i)), (3, vu p), (8, vi o), (9, .string n), (10, vi j), (11, vu m), (12, vi e), (14, vi g)] ?_
   refine T_sr 10 kk25 kk26 ?_
   refine T_n 2 [(1, vp (some i)), (3, vu p), (8, vi o), (9, .string n), (10, vi j), (11, vu m), (12, vi e), (14, vi g), (70, vp (some i)), (71, vu p)] ?_
   refine N_new (some 72) (fun b => vs (pa b) 1 1) (.cells #[vu p] 35) (fun _=>by kernel_rfl) ?_
   intro t H11 e9 e10
   replace h := h t H11 e9 e10
   refine ⟨[(1, vp (some i)), (3, vu p), (8, vi o), (9, .string n), (10, vi j), (11, vu m), (12, vi e), (14, vi g), (70, vp (some i)), (72, vs (pa t) 1 1)], pk, ?_⟩
   refine N_call (some 73) 28 #[vp (some i), vi 28, vs (pa t) 1 1] (fun _=>by kernel_rfl) h ?_; clear h
   rintro aj ad ⟨d, k, rfl, h⟩
   refine ⟨[(1, vp (some i)), (3, vu p), (8, vi o), (9, .string n), (10, vi j), (11, vu m), (12, vi e), (14, vi g), (73, .tuple #[vu d, vi k])], pk, ?_⟩
   refine T_ne 5 [(1, vp (some i)), (3, vu p), (8, vi o), (9, .string n), (10, vi j), (11, vu m), (12, vi e), (14, vi g), (15, vu d), (16, vi k)] ?_
   refine T_sr 11 kk27 kk28 ?_
   refine T_n 2 [(1, vp (some i)), (8, vi o), (9, .string n), (10, vi j), (11, vu m), (12, vi e), (14, vi g), (15, vu d), (16, vi k), (77, vp (some i)), (78, vu p)] ?_
   refine N_new (some 79) (fun b => vs (pa b) 1 1) (.cells #[vu p] 35) (fun _=>by kernel_rfl) ?_
   intro u H13 e11 e12
   replace h := h u H13 e11 e12
   refine ⟨[(1, vp (some i)), (8, vi o), (9, .string n), (10, vi j), (11, vu m), (12, vi e), (14, vi g), (15, vu d), (16, vi k), (77, vp (some i)), (79, vs (pa u) 1 1)], pk, ?_⟩
   refine N_call (some 80) 28 #[vp (some i), vi 28, vs (pa u) 1 1] (fun _=>by kernel_rfl) h ?_; clear h
   rintro ai ae ⟨f, l, rfl, h⟩
   refine ⟨[(1, vp (some i)), (8, vi o), (9, .string n), (10, vi j), (11, vu m), (12, vi e), (14, vi g), (15, vu d), (16, vi k), (80, .tuple #[vu f, vi l])], pk, ?_⟩
   refine T_ne 5 [(1, vp (some i)), (8, vi o), (9, .string n), (10, vi j), (11, vu m), (12, vi e), (14, vi g), (15, vu d), (16, vi k), (17, vu f), (18, vi l)] ?_
   refine T_sr 12 kk29 kk30 ?_
   refine T_n 1 [(8, vi o), (9, .string n), (10, vi j), (11, vu m), (12, vi e), (14, vi g), (15, vu d), (16, vi k), (17, vu f), (18, vi l), (84, vp (some i))] ?_
   refine N_new (some 85) (fun b => vs (pa b) 1 1) (.cells #[vu 40] 35) (fun _=>by kernel_rfl) ?_
   intro s H15 e13 e14
   replace h := h s H15 e13 e14
   refine ⟨[(8, vi o), (9, .string n), (10, vi j), (11, vu m), (12, vi e), (14, vi g), (15, vu d), (16, vi k), (17, vu f), (18, vi l), (84, vp (some i)), (85, vs (pa s) 1 1)], pk, ?_⟩
   refine N_call (some 86) 28 #[vp (some i), vi 16, vs (pa s) 1 1] (fun _=>by kernel_rfl) h ?_; clear h
   rintro af al ⟨z, a, rfl, h⟩
   refine ⟨[(8, vi o), (9, .string n), (10, vi j), (11, vu m), (12, vi e), (14, vi g), (15, vu d), (16, vi k), (17, vu f), (18, vi l), (86, .tuple #[vu z, vi a])], pk, ?_⟩
   refine T_ne 5 [(8, vi o), (9, .string n), (10, vi j), (11, vu m), (12, vi e), (14, vi g), (15, vu d), (16, vi k), (17, vu f), (18, vi l), (20, vi a)] ?_
   refine T_sr 13 kk31 kk32 ?_
   refine N_cut [(0, .bool ((((((((((o == 0) && (n.toList == (ByteArray.mk #[97, 98, 195, 177]).toList)) && (j == 0)) && (m == 24)) && (e == 0)) && (g == 4)) && (k == 0)) && (l == 0)) && (d == f)) && (a == 3)))] ?_ ?_
   ·refine S_then ?_
    refine S_ret (by kernel_rfl) ?_
    show At _ _ _ _ _ (Q .ret)
    exact S_done (fn := Tryz.f21) [.bool ((((((((((o == 0) && (n.toList == (ByteArray.mk #[97, 98, 195, 177]).toList)) && (j == 0)) && (m == 24)) && (e == 0)) && (g == 4)) && (k == 0)) && (l == 0)) && (d == f)) && (a == 3))] hQ (show ResOK _ _ _ [.tmp 0] _ from .tmp (by kernel_rfl) (.nil)) h
   ·intro hk
    refine T_n 3 [(9, .string n), (10, vi j), (11, vu m), (12, vi e), (14, vi g), (15, vu d), (16, vi k), (17, vu f), (18, vi l), (20, vi a), (91, .bool (o == 0))] ?_
    by_cases c15 : o = 0
    ·have b16 : (o == 0) = true := beq_iff_eq.mpr c15
     refine N_env [(9, .string n), (10, vi j), (11, vu m), (12, vi e), (14, vi g), (15, vu d), (16, vi k), (17, vu f), (18, vi l), (20, vi a), (91, .bool true)] (by simp only [b16, Bool.not_true, Bool.not_false]) ?_
     refine T_n 4 [(10, vi j), (11, vu m), (12, vi e), (14, vi g), (15, vu d), (16, vi k), (17, vu f), (18, vi l), (20, vi a), (95, .bool (n.toList == (ByteArray.mk #[97, 98, 195, 177]).toList))] ?_
     by_cases c17 : n.toList = (ByteArray.mk #[97, 98, 195, 177]).toList
     ·have b18 : (n.toList == (ByteArray.mk #[97, 98, 195, 177]).toList) = true := beq_iff_eq.mpr c17
      refine N_env [(10, vi j), (11, vu m), (12, vi e), (14, vi g), (15, vu d), (16, vi k), (17, vu f), (18, vi l), (20, vi a), (95, .bool true)] (by simp only [b18, Bool.not_true, Bool.not_false]) ?_
      refine T_n 4 [(11, vu m), (12, vi e), (14, vi g), (15, vu d), (16, vi k), (17, vu f), (18, vi l), (20, vi a), (99, .bool (j == 0))] ?_
      by_cases c19 : j = 0
      ·have b20 : (j == 0) = true := beq_iff_eq.mpr c19
       refine N_env [(11, vu m), (12, vi e), (14, vi g), (15, vu d), (16, vi k), (17, vu f), (18, vi l), (20, vi a), (99, .bool true)] (by simp only [b20, Bool.not_true, Bool.not_false]) ?_
       refine T_n 4 [(12, vi e), (14, vi g), (15, vu d), (16, vi k), (17, vu f), (18, vi l), (20, vi a), (103, .bool (m == 24))] ?_
       by_cases c21 : m = 24
       ·have b22 : (m == 24) = true := beq_iff_eq.mpr c21
        refine N_env [(12, vi e), (14, vi g), (15, vu d), (16, vi k), (17, vu f), (18, vi l), (20, vi a), (103, .bool true)] (by simp only [b22, Bool.not_true, Bool.not_false]) ?_
        refine T_n 4 [(14, vi g), (15, vu d), (16, vi k), (17, vu f), (18, vi l), (20, vi a), (107, .bool (e == 0))] ?_
        by_cases c23 : e = 0
        ·have b24 : (e == 0) = true := beq_iff_eq.mpr c23
         refine N_env [(14, vi g), (15, vu d), (16, vi k), (17, vu f), (18, vi l), (20, vi a), (107, .bool true)] (by simp only [b24, Bool.not_true, Bool.not_false]) ?_
         refine T_n 4 [(15, vu d), (16, vi k), (17, vu f), (18, vi l), (20, vi a), (111, .bool (g == 4))] ?_
         by_cases c25 : g = 4
         ·have b26 : (g == 4) = true := beq_iff_eq.mpr c25
          refine N_env [(15, vu d), (16, vi k), (17, vu f), (18, vi l), (20, vi a), (111, .bool true)] (by simp only [b26, Bool.not_true, Bool.not_false]) ?_
          refine T_n 4 [(15, vu d), (17, vu f), (18, vi l), (20, vi a), (115, .bool (k == 0))] ?_
          by_cases c27 : k = 0
          ·have b28 : (k == 0) = true := beq_iff_eq.mpr c27
           refine N_env [(15, vu d), (17, vu f), (18, vi l), (20, vi a), (115, .bool true)] (by simp only [b28, Bool.not_true, Bool.not_false]) ?_
           refine T_n 4 [(15, vu d), (17, vu f), (20, vi a), (119, .bool (l == 0))] ?_
           by_cases c29 : l = 0
           ·have b30 : (l == 0) = true := beq_iff_eq.mpr c29
            refine N_env [(15, vu d), (17, vu f), (20, vi a), (119, .bool true)] (by simp only [b30, Bool.not_true, Bool.not_false]) ?_
            refine T_n 5 [(20, vi a), (124, .bool (d == f))] ?_
            by_cases c31 : d = f
            ·have b32 : (d == f) = true := beq_iff_eq.mpr c31
             refine N_env [(20, vi a), (124, .bool true)] (by simp only [b32, Bool.not_true, Bool.not_false]) ?_
             refine T_n 4 [(0, .bool (a == 3))] ?_
             refine N_end (by kernel_rfl) ?_
             refine S_env [(0, .bool ((((((((((o == 0) && (n.toList == (ByteArray.mk #[97, 98, 195, 177]).toList)) && (j == 0)) && (m == 24)) && (e == 0)) && (g == 4)) && (k == 0)) && (l == 0)) && (d == f)) && (a == 3)))] (by simp only [b16, b18, b20, b22, b24, b26, b28, b30, b32, Bool.true_or, Bool.false_or, Bool.or_true, Bool.or_false, Bool.true_and, Bool.false_and, Bool.and_true, Bool.and_false, Bool.not_true, Bool.not_false, cond_true, cond_false]) ?_
             exact hk
            ·have b32 : (d == f) = false := beq_eq_false_iff_ne.mpr c31
             refine N_env [(20, vi a), (124, .bool false)] (by simp only [b32, Bool.not_true, Bool.not_false]) ?_
             refine T_n 4 [(0, .bool false)] ?_
             refine N_end (by kernel_rfl) ?_
             refine S_env [(0, .bool ((((((((((o == 0) && (n.toList == (ByteArray.mk #[97, 98, 195, 177]).toList)) && (j == 0)) && (m == 24)) && (e == 0)) && (g == 4)) && (k == 0)) && (l == 0)) && (d == f)) && (a == 3)))] (by simp only [b16, b18, b20, b22, b24, b26, b28, b30, b32, Bool.true_or, Bool.false_or, Bool.or_true, Bool.or_false, Bool.true_and, Bool.false_and, Bool.and_true, Bool.and_false, Bool.not_true, Bool.not_false, cond_true, cond_false]) ?_
             exact hk
           ·have b30 : (l == 0) = false := beq_eq_false_iff_ne.mpr c29
            refine N_env [(15, vu d), (17, vu f), (20, vi a), (119, .bool false)] (by simp only [b30, Bool.not_true, Bool.not_false]) ?_
            refine T_n 9 [(0, .bool false)] ?_
            refine N_end (by kernel_rfl) ?_
            refine S_env [(0, .bool ((((((((((o == 0) && (n.toList == (ByteArray.mk #[97, 98, 195, 177]).toList)) && (j == 0)) && (m == 24)) && (e == 0)) && (g == 4)) && (k == 0)) && (l == 0)) && (d == f)) && (a == 3)))] (by simp only [b16, b18, b20, b22, b24, b26, b28, b30, Bool.true_or, Bool.false_or, Bool.or_true, Bool.or_false, Bool.true_and, Bool.false_and, Bool.and_true, Bool.and_false, Bool.not_true, Bool.not_false, cond_true, cond_false]) ?_
            exact hk
          ·have b28 : (k == 0) = false := beq_eq_false_iff_ne.mpr c27
           refine N_env [(15, vu d), (17, vu f), (18, vi l), (20, vi a), (115, .bool false)] (by simp only [b28, Bool.not_true, Bool.not_false]) ?_
           refine T_n 13 [(0, .bool false)] ?_
           refine N_end (by kernel_rfl) ?_
           refine S_env [(0, .bool ((((((((((o == 0) && (n.toList == (ByteArray.mk #[97, 98, 195, 177]).toList)) && (j == 0)) && (m == 24)) && (e == 0)) && (g == 4)) && (k == 0)) && (l == 0)) && (d == f)) && (a == 3)))] (by simp only [b16, b18, b20, b22, b24, b26, b28, Bool.true_or, Bool.false_or, Bool.or_true, Bool.or_false, Bool.true_and, Bool.false_and, Bool.and_true, Bool.and_false, Bool.not_true, Bool.not_false, cond_true, cond_false]) ?_
           exact hk
         ·have b26 : (g == 4) = false := beq_eq_false_iff_ne.mpr c25
          refine N_env [(15, vu d), (16, vi k), (17, vu f), (18, vi l), (20, vi a), (111, .bool false)] (by simp only [b26, Bool.not_true, Bool.not_false]) ?_
          refine T_n 17 [(0, .bool false)] ?_
          refine N_end (by kernel_rfl) ?_
          refine S_env [(0, .bool ((((((((((o == 0) && (n.toList == (ByteArray.mk #[97, 98, 195, 177]).toList)) && (j == 0)) && (m == 24)) && (e == 0)) && (g == 4)) && (k == 0)) && (l == 0)) && (d == f)) && (a == 3)))] (by simp only [b16, b18, b20, b22, b24, b26, Bool.true_or, Bool.false_or, Bool.or_true, Bool.or_false, Bool.true_and, Bool.false_and, Bool.and_true, Bool.and_false, Bool.not_true, Bool.not_false, cond_true, cond_false]) ?_
          exact hk
        ·have b24 : (e == 0) = false := beq_eq_false_iff_ne.mpr c23
         refine N_env [(14, vi g), (15, vu d), (16, vi k), (17, vu f), (18, vi l), (20, vi a), (107, .bool false)] (by simp only [b24, Bool.not_true, Bool.not_false]) ?_
         refine T_n 21 [(0, .bool false)] ?_
         refine N_end (by kernel_rfl) ?_
         refine S_env [(0, .bool ((((((((((o == 0) && (n.toList == (ByteArray.mk #[97, 98, 195, 177]).toList)) && (j == 0)) && (m == 24)) && (e == 0)) && (g == 4)) && (k == 0)) && (l == 0)) && (d == f)) && (a == 3)))] (by simp only [b16, b18, b20, b22, b24, Bool.true_or, Bool.false_or, Bool.or_true, Bool.or_false, Bool.true_and, Bool.false_and, Bool.and_true, Bool.and_false, Bool.not_true, Bool.not_false, cond_true, cond_false]) ?_
         exact hk
       ·have b22 : (m == 24) = false := beq_eq_false_iff_ne.mpr c21
        refine N_env [(12, vi e), (14, vi g), (15, vu d), (16, vi k), (17, vu f), (18, vi l), (20, vi a), (103, .bool false)] (by simp only [b22, Bool.not_true, Bool.not_false]) ?_
        refine T_n 25 [(0, .bool false)] ?_
        refine N_end (by kernel_rfl) ?_
        refine S_env [(0, .bool ((((((((((o == 0) && (n.toList == (ByteArray.mk #[97, 98, 195, 177]).toList)) && (j == 0)) && (m == 24)) && (e == 0)) && (g == 4)) && (k == 0)) && (l == 0)) && (d == f)) && (a == 3)))] (by simp only [b16, b18, b20, b22, Bool.true_or, Bool.false_or, Bool.or_true, Bool.or_false, Bool.true_and, Bool.false_and, Bool.and_true, Bool.and_false, Bool.not_true, Bool.not_false, cond_true, cond_false]) ?_
        exact hk
      ·have b20 : (j == 0) = false := beq_eq_false_iff_ne.mpr c19
       refine N_env [(11, vu m), (12, vi e), (14, vi g), (15, vu d), (16, vi k), (17, vu f), (18, vi l), (20, vi a), (99, .bool false)] (by simp only [b20, Bool.not_true, Bool.not_false]) ?_
       refine T_n 29 [(0, .bool false)] ?_
       refine N_end (by kernel_rfl) ?_
       refine S_env [(0, .bool ((((((((((o == 0) && (n.toList == (ByteArray.mk #[97, 98, 195, 177]).toList)) && (j == 0)) && (m == 24)) && (e == 0)) && (g == 4)) && (k == 0)) && (l == 0)) && (d == f)) && (a == 3)))] (by simp only [b16, b18, b20, Bool.true_or, Bool.false_or, Bool.or_true, Bool.or_false, Bool.true_and, Bool.false_and, Bool.and_true, Bool.and_false, Bool.not_true, Bool.not_false, cond_true, cond_false]) ?_
       exact hk
     ·have b18 : (n.toList == (ByteArray.mk #[97, 98, 195, 177]).toList) = false := beq_eq_false_iff_ne.mpr c17
      refine N_env [(10, vi j), (11, vu m), (12, vi e), (14, vi g), (15, vu d), (16, vi k), (17, vu f), (18, vi l), (20, vi a), (95, .bool false)] (by simp only [b18, Bool.not_true, Bool.not_false]) ?_
      refine T_n 33 [(0, .bool false)] ?_
      refine N_end (by kernel_rfl) ?_
      refine S_env [(0, .bool ((((((((((o == 0) && (n.toList == (ByteArray.mk #[97, 98, 195, 177]).toList)) && (j == 0)) && (m == 24)) && (e == 0)) && (g == 4)) && (k == 0)) && (l == 0)) && (d == f)) && (a == 3)))] (by simp only [b16, b18, Bool.true_or, Bool.false_or, Bool.or_true, Bool.or_false, Bool.true_and, Bool.false_and, Bool.and_true, Bool.and_false, Bool.not_true, Bool.not_false, cond_true, cond_false]) ?_
      exact hk
    ·have b16 : (o == 0) = false := beq_eq_false_iff_ne.mpr c15
     refine N_env [(9, .string n), (10, vi j), (11, vu m), (12, vi e), (14, vi g), (15, vu d), (16, vi k), (17, vu f), (18, vi l), (20, vi a), (91, .bool false)] (by simp only [b16, Bool.not_true, Bool.not_false]) ?_
     refine T_n 37 [(0, .bool false)] ?_
     refine N_end (by kernel_rfl) ?_
     refine S_env [(0, .bool ((((((((((o == 0) && (n.toList == (ByteArray.mk #[97, 98, 195, 177]).toList)) && (j == 0)) && (m == 24)) && (e == 0)) && (g == 4)) && (k == 0)) && (l == 0)) && (d == f)) && (a == 3)))] (by simp only [b16, Bool.true_or, Bool.false_or, Bool.or_true, Bool.or_false, Bool.true_and, Bool.false_and, Bool.and_true, Bool.and_false, Bool.not_true, Bool.not_false, cond_true, cond_false]) ?_
     exact hk
 ·rw [if_neg c1] at h
  have b2 : (rb != 0) = true := bne_iff_ne.mpr c1
  refine N_env [(1, vp ra), (27, .bool true)] (by simp only [b2, Bool.not_true, Bool.not_false]) ?_
  clear b2
  refine T_ne 3 [(1, vp ra), (30, .bool true)] ?_
  refine T_t 30 kk9 kk10 ?_
  refine T_sr 3 kk11 kk12 ?_
  refine T_ne 1 [(0, .bool false)] ?_
  refine S_ret (by kernel_rfl) ?_
  show At _ _ _ _ _ (Q .ret)
  exact S_done (fn := Tryz.f21) [.bool false] hQ (show ResOK _ _ _ [.tmp 0] _ from .tmp (by kernel_rfl) (.nil)) h
end morainelaw23_awake

/-! moraine/morainelaw23.TextsNobody -/
namespace morainelaw23_TextsNobody
def kk0 := Func.code Tryz.f9
def kk1 := Code.fa kk0
def kk2 := Code.fb kk0
def kk3 := Code.fa kk2
def kk4 := Code.fb kk2
def kk5 := Code.fa kk3
def kk6 := Code.fb kk3
def kk7 := Code.fa kk6
def kk8 := Code.fb kk6
def kk9 := Code.fa kk7
def kk10 := Code.fb kk7
def kk11 := Code.fa kk4
def kk12 := Code.fb kk4
def kk13 := Code.fa kk12
def kk14 := Code.fb kk12
def kk15 := Code.fa kk14
def kk16 := Code.fb kk14
def kk17 := Code.fa kk16
def kk18 := Code.fb kk16
def kk19 := Code.fa kk18
def kk20 := Code.fb kk18
def kk21 := Code.fa kk19
def kk22 := Code.fb kk19
def kk23 := Code.fa kk22
def kk24 := Code.fb kk22
def kk25 := Code.fa kk23
def kk26 := Code.fb kk23
def kk27 := Code.fa kk20
def kk28 := Code.fb kk20
def kk29 := Code.fa kk27
def kk30 := Code.fb kk27
def kk31 := Code.fa kk30
def kk32 := Code.fb kk30
def kk33 := Code.fa kk31
def kk34 := Code.fb kk31
def kk35 := Code.fa kk34
def kk36 := Code.fb kk34
def kk37 := Code.fa kk28
def kk38 := Code.fb kk28
end morainelaw23_TextsNobody
def morainelaw23_TextsNobody.pt (nv : Int) (argsB : Option Addr) (argsN : Nat) (argsC : Nat) (H : Array Obj) (R : Value → Array Obj → Prop) : Prop :=
 if (argsN : Int) > 100 then (
 morainelaw23_awake.C  H (fun v H1 => ∃ x : Bool, v = .bool x ∧ 
 R (.bool x) H1))
 else
 texts_Apply.C none nv argsB argsN argsC H (fun ao H2 => ∃ ra : Int, ∃ rb : Int, ao = .tuple #[.int .u64 ra, .int .i64 rb] ∧ 
 ∀ (b : Nat) (H3 : Array Obj), b = H2.size → H3 = H2.push (.cells #[.pointer none, .slice none 0 0, .slice none 0 0, .int .u64 0] 51) →
 texts_Apply.C (some (Addr.mk b 0 none)) nv argsB argsN argsC H3 (fun ap H4 => ∃ e : Int, ∃ d : Int, ap = .tuple #[.int .u64 e, .int .i64 d] ∧ 
 obj_New.C 8 H4 (fun am H5 => ∃ a : Option Addr, ∃ f : Int, am = .tuple #[.pointer a, .int .i64 f] ∧ 
 if (((((f != 0) || (ra != 0)) || (rb != 1)) || (e != 0)) || (d != 1)) = true then (
 R (.bool false) H5)
 else
 if nv < 0 then (
 texts_Apply.C a nv argsB argsN argsC H5 (fun ak H6 => ∃ j : Int, ∃ i : Int, ak = .tuple #[.int .u64 j, .int .i64 i] ∧ 
 if j = 0 then (
 if i = 1 then (
 ∃ p : Addr, a = some p ∧
 ∃ ab : Option Addr, hat H6 p = some (.pointer ab) ∧
 ∃ y : Addr, ab = some y ∧
 ∃ r : Option Addr, hat H6 y = some (.pointer r) ∧
 space_Space_Words.C r none 0 0 H6 (fun ah H7 => ∃ n : Int, ah = .int .i64 n ∧ 
 if n = 0 then (
 morainelaw23_awake.C  H7 (fun al H8 => ∃ q : Bool, al = .bool q ∧ 
 R (.bool q) H8))
 else
 R (.bool false) H7))
 else
 R (.bool false) H6)
 else
 R (.bool false) H6))
 else
 texts_Prims.C  H5 (fun aj H9 => ∃ xB : Option Addr, ∃ xN : Nat, ∃ xC : Nat, aj = .slice xB xN xC ∧ 
 if nv ≥ (xN : Int) then (
 texts_Apply.C a nv argsB argsN argsC H9 (fun ai s => ∃ k : Int, ∃ g : Int, ai = .tuple #[.int .u64 k, .int .i64 g] ∧ 
 if k = 0 then (
 if g = 1 then (
 ∃ l : Addr, a = some l ∧
 ∃ z : Option Addr, hat s l = some (.pointer z) ∧
 ∃ aa : Addr, z = some aa ∧
 ∃ t : Option Addr, hat s aa = some (.pointer t) ∧
 space_Space_Words.C t none 0 0 s (fun ad ae => ∃ o : Int, ad = .int .i64 o ∧ 
 if o = 0 then (
 morainelaw23_awake.C  ae (fun ac ag => ∃ u : Bool, ac = .bool u ∧ 
 R (.bool u) ag))
 else
 R (.bool false) ae))
 else
 R (.bool false) s)
 else
 R (.bool false) s))
 else
 morainelaw23_awake.C  H9 (fun af an => ∃ m : Bool, af = .bool m ∧ 
 R (.bool m) an)))))
namespace morainelaw23_TextsNobody
set_option maxRecDepth 100000 in
theorem link {nv : Int} {argsB : Option Addr} {argsN : Nat} {argsC : Nat} {H : Array Obj} {R : Value → Array Obj → Prop} (h : pt nv argsB argsN argsC H R) : C nv argsB argsN argsC H R := by
 refine S_enter (fn := Tryz.f9) (c := kk0) 91 Tryz.func9 (by kernel_rfl) (by kernel_rfl) (Nat.le_of_ble_eq_true (by kernel_rfl)) ?_
 intro w0 Q hQ
 unfold pt at h
 refine T_su [(0, vi nv), (1, vs argsB argsN argsC)] ?_
 refine T_sr 0 kk1 kk2 ?_
 refine T_ne 1 [(0, vi nv), (1, vs argsB argsN argsC)] ?_
 refine T_s kk3 kk4 ?_
 refine T_sr 1 kk5 kk6 ?_
 refine T_ne 3 [(0, vi nv), (1, vs argsB argsN argsC), (16, .bool (decide ((argsN : Int) > 100)))] ?_
 by_cases c1 : (argsN : Int) > 100
 ·rw [if_pos c1] at h
  have b2 : (decide ((argsN : Int) > 100)) = true := decide_eq_true c1
  refine S_env [(0, vi nv), (1, vs argsB argsN argsC), (16, .bool true)] (by simp only [b2, Bool.not_true, Bool.not_false]) ?_
  clear b2
  refine T_t 16 kk7 kk8 ?_
  refine T_sr 2 kk9 kk10 ?_
  refine T_nu [] ?_
  refine N_call (some 17) 21 #[] (fun _=>by kernel_rfl) h ?_; clear h
  rintro v H1 ⟨x, rfl, h⟩
  refine ⟨[(17, .bool x)], pk, ?_⟩
  refine T_ne 1 [(4, .bool x)] ?_
  refine S_ret (by kernel_rfl) ?_
  show At _ _ _ _ _ (Q .ret)
  exact S_done (fn := Tryz.f9) [.bool x] hQ (show ResOK _ _ _ [.tmp 4] _ from .tmp (by kernel_rfl) (.nil)) h
 ·rw [if_neg c1] at h
  have b2 : (decide ((argsN : Int) > 100)) = false := decide_eq_false c1
  refine S_env [(0, vi nv), (1, vs argsB argsN argsC), (16, .bool false)] (by simp only [b2, Bool.not_true, Bool.not_false]) ?_
  clear b2
  refine T_f 16 kk7 kk8 ?_
  refine T_kt ?_
  refine T_sr 3 kk11 kk12 ?_
  refine T_ne 1 [(0, vi nv), (1, vs argsB argsN argsC), (5, vp none)] ?_
  refine T_sr 4 kk13 kk14 ?_
  refine T_n 3 [(0, vi nv), (1, vs argsB argsN argsC), (19, vp none), (20, vi nv), (21, vs argsB argsN argsC)] ?_
  refine N_call (some 22) 28 #[vp none, vi nv, vs argsB argsN argsC] (fun _=>by kernel_rfl) h ?_; clear h
  rintro ao H2 ⟨ra, rb, rfl, h⟩
  refine ⟨[(0, vi nv), (1, vs argsB argsN argsC), (22, .tuple #[vu ra, vi rb])], pk, ?_⟩
  refine T_ne 5 [(0, vi nv), (1, vs argsB argsN argsC), (6, vu ra), (7, vi rb)] ?_
  refine T_sr 5 kk15 kk16 ?_
  refine T_n 1 [(0, vi nv), (1, vs argsB argsN argsC), (6, vu ra), (7, vi rb), (26, .agg #[vp none, vs none 0 0, vs none 0 0, vu 0])] ?_
  refine N_new (some 27) (fun b => vp (pa b)) (.cells #[vp none, vs none 0 0, vs none 0 0, vu 0] 51) (fun _=>by kernel_rfl) ?_
  intro b H3 e3 e4
  replace h := h b H3 e3 e4
  refine ⟨[(0, vi nv), (1, vs argsB argsN argsC), (6, vu ra), (7, vi rb), (27, vp (pa b))], pk, ?_⟩
  refine T_n 2 [(0, vi nv), (1, vs argsB argsN argsC), (6, vu ra), (7, vi rb), (27, vp (pa b)), (28, vi nv), (29, vs argsB argsN argsC)] ?_
  refine N_call (some 30) 28 #[vp (pa b), vi nv, vs argsB argsN argsC] (fun _=>by kernel_rfl) h ?_; clear h
  rintro ap H4 ⟨e, d, rfl, h⟩
  refine ⟨[(0, vi nv), (1, vs argsB argsN argsC), (6, vu ra), (7, vi rb), (30, .tuple #[vu e, vi d])], pk, ?_⟩
  refine T_ne 5 [(0, vi nv), (1, vs argsB argsN argsC), (6, vu ra), (7, vi rb), (8, vu e), (9, vi d)] ?_
  refine T_sr 6 kk17 kk18 ?_
  refine N_call (some 34) 13 #[vi 8] (fun _=>by kernel_rfl) h ?_; clear h
  rintro am H5 ⟨a, f, rfl, h⟩
  refine ⟨[(0, vi nv), (1, vs argsB argsN argsC), (6, vu ra), (7, vi rb), (8, vu e), (9, vi d), (34, .tuple #[vp a, vi f])], pk, ?_⟩
  refine T_ne 5 [(0, vi nv), (1, vs argsB argsN argsC), (6, vu ra), (7, vi rb), (8, vu e), (9, vi d), (10, vp a), (11, vi f)] ?_
  refine T_s kk19 kk20 ?_
  refine T_sr 7 kk21 kk22 ?_
  refine N_cut [(0, vi nv), (1, vs argsB argsN argsC), (10, vp a), (54, .bool (((((f != 0) || (ra != 0)) || (rb != 1)) || (e != 0)) || (d != 1)))] ?_ ?_
  ·refine S_then ?_
   by_cases c13 : (((((f != 0) || (ra != 0)) || (rb != 1)) || (e != 0)) || (d != 1)) = true
   ·rw [if_pos c13] at h
    have b14 : (((((f != 0) || (ra != 0)) || (rb != 1)) || (e != 0)) || (d != 1)) = true := c13
    refine S_env [(0, vi nv), (1, vs argsB argsN argsC), (10, vp a), (54, .bool true)] (by simp only [b14, Bool.not_true, Bool.not_false]) ?_
    clear b14
    refine T_t 54 kk23 kk24 ?_
    refine T_sr 8 kk25 kk26 ?_
    refine T_ne 1 [(4, .bool false)] ?_
    refine S_ret (by kernel_rfl) ?_
    show At _ _ _ _ _ (Q .ret)
    exact S_done (fn := Tryz.f9) [.bool false] hQ (show ResOK _ _ _ [.tmp 4] _ from .tmp (by kernel_rfl) (.nil)) h
   ·rw [if_neg c13] at h
    have b14 : (((((f != 0) || (ra != 0)) || (rb != 1)) || (e != 0)) || (d != 1)) = false := eq_false_of_ne_true c13
    refine S_env [(0, vi nv), (1, vs argsB argsN argsC), (10, vp a), (54, .bool false)] (by simp only [b14, Bool.not_true, Bool.not_false]) ?_
    clear b14
    refine T_f 54 kk23 kk24 ?_
    refine T_kt ?_
    refine T_s kk27 kk28 ?_
    refine T_sr 9 kk29 kk30 ?_
    refine T_n 3 [(0, vi nv), (1, vs argsB argsN argsC), (10, vp a), (57, .bool (decide (nv < 0)))] ?_
    by_cases c15 : nv < 0
    ·rw [if_pos c15] at h
     have b16 : (decide (nv < 0)) = true := decide_eq_true c15
     refine N_env [(0, vi nv), (1, vs argsB argsN argsC), (10, vp a), (57, .bool true)] (by simp only [b16, Bool.not_true, Bool.not_false]) ?_
     clear b16
     refine T_ne 5 [(0, vi nv), (1, vs argsB argsN argsC), (10, vp a), (62, .bool true)] ?_
     refine T_t 62 kk31 kk32 ?_
     refine T_sr 10 kk33 kk34 ?_
     refine T_n 3 [(10, vp a), (64, vp a), (65, vi nv), (66, vs argsB argsN argsC)] ?_
     refine N_call (some 67) 28 #[vp a, vi nv, vs argsB argsN argsC] (fun _=>by kernel_rfl) h ?_; clear h
     rintro ak H6 ⟨j, i, rfl, h⟩
     refine ⟨[(10, vp a), (67, .tuple #[vu j, vi i])], pk, ?_⟩
     refine T_ne 5 [(10, vp a), (12, vu j), (13, vi i)] ?_
     refine T_sr 11 kk35 kk36 ?_
     refine T_n 3 [(10, vp a), (13, vi i), (72, .bool (j == 0))] ?_
     by_cases c17 : j = 0
     ·rw [if_pos c17] at h
      have b18 : (j == 0) = true := beq_iff_eq.mpr c17
      refine N_env [(10, vp a), (13, vi i), (72, .bool true)] (by simp only [b18, Bool.not_true, Bool.not_false]) ?_
      clear b18
      refine T_n 4 [(10, vp a), (76, .bool (i == 1))] ?_
      by_cases c19 : i = 1
      ·rw [if_pos c19] at h
       have b20 : (i == 1) = true := beq_iff_eq.mpr c19
       refine N_env [(10, vp a), (76, .bool true)] (by simp only [b20, Bool.not_true, Bool.not_false]) ?_
       clear b20
       refine T_n 1 [(76, .bool true), (77, vp a)] ?_
       obtain ⟨p, rfl, h⟩ := h
       refine T_n 2 [(76, .bool true), (79, vp (some p))] ?_
       obtain ⟨ab, q21, h⟩ := h
       refine T_l (some 80) 48 q21 [(76, .bool true), (80, vp ab)] ?_
       obtain ⟨y, rfl, h⟩ := h
       refine T_n 2 [(76, .bool true), (82, vp (some y))] ?_
       obtain ⟨r, q22, h⟩ := h
       refine T_l (some 83) 52 q22 [(76, .bool true), (83, vp r)] ?_
       refine N_call (some 84) 27 #[vp r, vs none 0 0] (fun _=>by kernel_rfl) h ?_; clear h
       rintro ah H7 ⟨n, rfl, h⟩
       refine ⟨[(76, .bool true), (84, vi n)], pk, ?_⟩
       refine T_n 3 [(87, .bool (n == 0))] ?_
       by_cases c23 : n = 0
       ·rw [if_pos c23] at h
        have b24 : (n == 0) = true := beq_iff_eq.mpr c23
        refine N_env [(87, .bool true)] (by simp only [b24, Bool.not_true, Bool.not_false]) ?_
        clear b24
        refine N_call (some 88) 21 #[] (fun _=>by kernel_rfl) h ?_; clear h
        rintro al H8 ⟨q, rfl, h⟩
        refine ⟨[(87, .bool true), (88, .bool q)], pk, ?_⟩
        refine T_ne 2 [(4, .bool q)] ?_
        refine S_ret (by kernel_rfl) ?_
        show At _ _ _ _ _ (Q .ret)
        exact S_done (fn := Tryz.f9) [.bool q] hQ (show ResOK _ _ _ [.tmp 4] _ from .tmp (by kernel_rfl) (.nil)) h
       ·rw [if_neg c23] at h
        have b24 : (n == 0) = false := beq_eq_false_iff_ne.mpr c23
        refine N_env [(87, .bool false)] (by simp only [b24, Bool.not_true, Bool.not_false]) ?_
        clear b24
        refine T_ne 3 [(4, .bool false)] ?_
        refine S_ret (by kernel_rfl) ?_
        show At _ _ _ _ _ (Q .ret)
        exact S_done (fn := Tryz.f9) [.bool false] hQ (show ResOK _ _ _ [.tmp 4] _ from .tmp (by kernel_rfl) (.nil)) h
      ·rw [if_neg c19] at h
       have b20 : (i == 1) = false := beq_eq_false_iff_ne.mpr c19
       refine N_env [(10, vp a), (76, .bool false)] (by simp only [b20, Bool.not_true, Bool.not_false]) ?_
       clear b20
       refine T_ne 14 [(4, .bool false)] ?_
       refine S_ret (by kernel_rfl) ?_
       show At _ _ _ _ _ (Q .ret)
       exact S_done (fn := Tryz.f9) [.bool false] hQ (show ResOK _ _ _ [.tmp 4] _ from .tmp (by kernel_rfl) (.nil)) h
     ·rw [if_neg c17] at h
      have b18 : (j == 0) = false := beq_eq_false_iff_ne.mpr c17
      refine N_env [(10, vp a), (13, vi i), (72, .bool false)] (by simp only [b18, Bool.not_true, Bool.not_false]) ?_
      clear b18
      refine T_ne 18 [(4, .bool false)] ?_
      refine S_ret (by kernel_rfl) ?_
      show At _ _ _ _ _ (Q .ret)
      exact S_done (fn := Tryz.f9) [.bool false] hQ (show ResOK _ _ _ [.tmp 4] _ from .tmp (by kernel_rfl) (.nil)) h
    ·rw [if_neg c15] at h
     have b16 : (decide (nv < 0)) = false := decide_eq_false c15
     refine N_env [(0, vi nv), (1, vs argsB argsN argsC), (10, vp a), (57, .bool false)] (by simp only [b16, Bool.not_true, Bool.not_false]) ?_
     clear b16
     refine T_n 1 [(0, vi nv), (1, vs argsB argsN argsC), (10, vp a), (57, .bool false), (58, vi nv)] ?_
     refine N_call (some 59) 29 #[] (fun _=>by kernel_rfl) h ?_; clear h
     rintro aj H9 ⟨xB, xN, xC, rfl, h⟩
     refine ⟨[(0, vi nv), (1, vs argsB argsN argsC), (10, vp a), (57, .bool false), (58, vi nv), (59, vs xB xN xC)], pk, ?_⟩
     refine T_ne 3 [(0, vi nv), (1, vs argsB argsN argsC), (10, vp a), (62, .bool (decide (nv ≥ (xN : Int))))] ?_
     by_cases c25 : nv ≥ (xN : Int)
     ·rw [if_pos c25] at h
      have b26 : (decide (nv ≥ (xN : Int))) = true := decide_eq_true c25
      refine S_env [(0, vi nv), (1, vs argsB argsN argsC), (10, vp a), (62, .bool true)] (by simp only [b26, Bool.not_true, Bool.not_false]) ?_
      clear b26
      refine T_t 62 kk31 kk32 ?_
      refine T_sr 10 kk33 kk34 ?_
      refine T_n 3 [(10, vp a), (64, vp a), (65, vi nv), (66, vs argsB argsN argsC)] ?_
      refine N_call (some 67) 28 #[vp a, vi nv, vs argsB argsN argsC] (fun _=>by kernel_rfl) h ?_; clear h
      rintro ai s ⟨k, g, rfl, h⟩
      refine ⟨[(10, vp a), (67, .tuple #[vu k, vi g])], pk, ?_⟩
      refine T_ne 5 [(10, vp a), (12, vu k), (13, vi g)] ?_
      refine T_sr 11 kk35 kk36 ?_
      refine T_n 3 [(10, vp a), (13, vi g), (72, .bool (k == 0))] ?_
      by_cases c27 : k = 0
      ·rw [if_pos c27] at h
       have b28 : (k == 0) = true := beq_iff_eq.mpr c27
       refine N_env [(10, vp a), (13, vi g), (72, .bool true)] (by simp only [b28, Bool.not_true, Bool.not_false]) ?_
       clear b28
       refine T_n 4 [(10, vp a), (76, .bool (g == 1))] ?_
       by_cases c29 : g = 1
       ·rw [if_pos c29] at h
        have b30 : (g == 1) = true := beq_iff_eq.mpr c29
        refine N_env [(10, vp a), (76, .bool true)] (by simp only [b30, Bool.not_true, Bool.not_false]) ?_
        clear b30
        refine T_n 1 [(76, .bool true), (77, vp a)] ?_
        obtain ⟨l, rfl, h⟩ := h
        refine T_n 2 [(76, .bool true), (79, vp (some l))] ?_
        obtain ⟨z, q31, h⟩ := h
        refine T_l (some 80) 48 q31 [(76, .bool true), (80, vp z)] ?_
        obtain ⟨aa, rfl, h⟩ := h
        refine T_n 2 [(76, .bool true), (82, vp (some aa))] ?_
        obtain ⟨t, q32, h⟩ := h
        refine T_l (some 83) 52 q32 [(76, .bool true), (83, vp t)] ?_
        refine N_call (some 84) 27 #[vp t, vs none 0 0] (fun _=>by kernel_rfl) h ?_; clear h
        rintro ad ae ⟨o, rfl, h⟩
        refine ⟨[(76, .bool true), (84, vi o)], pk, ?_⟩
        refine T_n 3 [(87, .bool (o == 0))] ?_
        by_cases c33 : o = 0
        ·rw [if_pos c33] at h
         have b34 : (o == 0) = true := beq_iff_eq.mpr c33
         refine N_env [(87, .bool true)] (by simp only [b34, Bool.not_true, Bool.not_false]) ?_
         clear b34
         refine N_call (some 88) 21 #[] (fun _=>by kernel_rfl) h ?_; clear h
         rintro ac ag ⟨u, rfl, h⟩
         refine ⟨[(87, .bool true), (88, .bool u)], pk, ?_⟩
         refine T_ne 2 [(4, .bool u)] ?_
         refine S_ret (by kernel_rfl) ?_
         show At _ _ _ _ _ (Q .ret)
         exact S_done (fn := Tryz.f9) [.bool u] hQ (show ResOK _ _ _ [.tmp 4] _ from .tmp (by kernel_rfl) (.nil)) h
        ·rw [if_neg c33] at h
         have b34 : (o == 0) = false := beq_eq_false_iff_ne.mpr c33
         refine N_env [(87, .bool false)] (by simp only [b34, Bool.not_true, Bool.not_false]) ?_
         clear b34
         refine T_ne 3 [(4, .bool false)] ?_
         refine S_ret (by kernel_rfl) ?_
         show At _ _ _ _ _ (Q .ret)
         exact S_done (fn := Tryz.f9) [.bool false] hQ (show ResOK _ _ _ [.tmp 4] _ from .tmp (by kernel_rfl) (.nil)) h
       ·rw [if_neg c29] at h
        have b30 : (g == 1) = false := beq_eq_false_iff_ne.mpr c29
        refine N_env [(10, vp a), (76, .bool false)] (by simp only [b30, Bool.not_true, Bool.not_false]) ?_
        clear b30
        refine T_ne 14 [(4, .bool false)] ?_
        refine S_ret (by kernel_rfl) ?_
        show At _ _ _ _ _ (Q .ret)
        exact S_done (fn := Tryz.f9) [.bool false] hQ (show ResOK _ _ _ [.tmp 4] _ from .tmp (by kernel_rfl) (.nil)) h
      ·rw [if_neg c27] at h
       have b28 : (k == 0) = false := beq_eq_false_iff_ne.mpr c27
       refine N_env [(10, vp a), (13, vi g), (72, .bool false)] (by simp only [b28, Bool.not_true, Bool.not_false]) ?_
       clear b28
       refine T_ne 18 [(4, .bool false)] ?_
       refine S_ret (by kernel_rfl) ?_
       show At _ _ _ _ _ (Q .ret)
       exact S_done (fn := Tryz.f9) [.bool false] hQ (show ResOK _ _ _ [.tmp 4] _ from .tmp (by kernel_rfl) (.nil)) h
     ·rw [if_neg c25] at h
      have b26 : (decide (nv ≥ (xN : Int))) = false := decide_eq_false c25
      refine S_env [(0, vi nv), (1, vs argsB argsN argsC), (10, vp a), (62, .bool false)] (by simp only [b26, Bool.not_true, Bool.not_false]) ?_
      clear b26
      refine T_f 62 kk31 kk32 ?_
      refine T_kt ?_
      refine T_sr 12 kk37 kk38 ?_
      refine T_nu [] ?_
      refine N_call (some 90) 21 #[] (fun _=>by kernel_rfl) h ?_; clear h
      rintro af an ⟨m, rfl, h⟩
      refine ⟨[(90, .bool m)], pk, ?_⟩
      refine T_ne 1 [(4, .bool m)] ?_
      refine S_ret (by kernel_rfl) ?_
      show At _ _ _ _ _ (Q .ret)
      exact S_done (fn := Tryz.f9) [.bool m] hQ (show ResOK _ _ _ [.tmp 4] _ from .tmp (by kernel_rfl) (.nil)) h
  ·intro hk
   refine T_n 3 [(0, vi nv), (1, vs argsB argsN argsC), (6, vu ra), (7, vi rb), (8, vu e), (9, vi d), (10, vp a), (39, .bool (f != 0))] ?_
   by_cases c5 : f = 0
   ·have b6 : (f != 0) = false := bne_eq_false_iff_eq.mpr c5
    refine N_env [(0, vi nv), (1, vs argsB argsN argsC), (6, vu ra), (7, vi rb), (8, vu e), (9, vi d), (10, vp a), (39, .bool false)] (by simp only [b6, Bool.not_true, Bool.not_false]) ?_
    refine T_n 4 [(0, vi nv), (1, vs argsB argsN argsC), (7, vi rb), (8, vu e), (9, vi d), (10, vp a), (43, .bool (ra != 0))] ?_
    by_cases c7 : ra = 0
    ·have b8 : (ra != 0) = false := bne_eq_false_iff_eq.mpr c7
     refine N_env [(0, vi nv), (1, vs argsB argsN argsC), (7, vi rb), (8, vu e), (9, vi d), (10, vp a), (43, .bool false)] (by simp only [b8, Bool.not_true, Bool.not_false]) ?_
     refine T_n 4 [(0, vi nv), (1, vs argsB argsN argsC), (8, vu e), (9, vi d), (10, vp a), (47, .bool (rb != 1))] ?_
     by_cases c9 : rb = 1
     ·have b10 : (rb != 1) = false := bne_eq_false_iff_eq.mpr c9
      refine N_env [(0, vi nv), (1, vs argsB argsN argsC), (8, vu e), (9, vi d), (10, vp a), (47, .bool false)] (by simp only [b10, Bool.not_true, Bool.not_false]) ?_
      refine T_n 4 [(0, vi nv), (1, vs argsB argsN argsC), (9, vi d), (10, vp a), (51, .bool (e != 0))] ?_
      by_cases c11 : e = 0
      ·have b12 : (e != 0) = false := bne_eq_false_iff_eq.mpr c11
       refine N_env [(0, vi nv), (1, vs argsB argsN argsC), (9, vi d), (10, vp a), (51, .bool false)] (by simp only [b12, Bool.not_true, Bool.not_false]) ?_
       refine T_n 3 [(0, vi nv), (1, vs argsB argsN argsC), (10, vp a), (54, .bool (d != 1))] ?_
       refine N_end (by kernel_rfl) ?_
       refine S_env [(0, vi nv), (1, vs argsB argsN argsC), (10, vp a), (54, .bool (((((f != 0) || (ra != 0)) || (rb != 1)) || (e != 0)) || (d != 1)))] (by simp only [b6, b8, b10, b12, Bool.true_or, Bool.false_or, Bool.or_true, Bool.or_false, Bool.true_and, Bool.false_and, Bool.and_true, Bool.and_false, Bool.not_true, Bool.not_false, cond_true, cond_false]) ?_
       exact hk
      ·have b12 : (e != 0) = true := bne_iff_ne.mpr c11
       refine N_env [(0, vi nv), (1, vs argsB argsN argsC), (9, vi d), (10, vp a), (51, .bool true)] (by simp only [b12, Bool.not_true, Bool.not_false]) ?_
       refine T_n 3 [(0, vi nv), (1, vs argsB argsN argsC), (10, vp a), (54, .bool true)] ?_
       refine N_end (by kernel_rfl) ?_
       refine S_env [(0, vi nv), (1, vs argsB argsN argsC), (10, vp a), (54, .bool (((((f != 0) || (ra != 0)) || (rb != 1)) || (e != 0)) || (d != 1)))] (by simp only [b6, b8, b10, b12, Bool.true_or, Bool.false_or, Bool.or_true, Bool.or_false, Bool.true_and, Bool.false_and, Bool.and_true, Bool.and_false, Bool.not_true, Bool.not_false, cond_true, cond_false]) ?_
       exact hk
     ·have b10 : (rb != 1) = true := bne_iff_ne.mpr c9
      refine N_env [(0, vi nv), (1, vs argsB argsN argsC), (8, vu e), (9, vi d), (10, vp a), (47, .bool true)] (by simp only [b10, Bool.not_true, Bool.not_false]) ?_
      refine T_n 7 [(0, vi nv), (1, vs argsB argsN argsC), (10, vp a), (54, .bool true)] ?_
      refine N_end (by kernel_rfl) ?_
      refine S_env [(0, vi nv), (1, vs argsB argsN argsC), (10, vp a), (54, .bool (((((f != 0) || (ra != 0)) || (rb != 1)) || (e != 0)) || (d != 1)))] (by simp only [b6, b8, b10, Bool.true_or, Bool.false_or, Bool.or_true, Bool.or_false, Bool.true_and, Bool.false_and, Bool.and_true, Bool.and_false, Bool.not_true, Bool.not_false, cond_true, cond_false]) ?_
      exact hk
    ·have b8 : (ra != 0) = true := bne_iff_ne.mpr c7
     refine N_env [(0, vi nv), (1, vs argsB argsN argsC), (7, vi rb), (8, vu e), (9, vi d), (10, vp a), (43, .bool true)] (by simp only [b8, Bool.not_true, Bool.not_false]) ?_
     refine T_n 11 [(0, vi nv), (1, vs argsB argsN argsC), (10, vp a), (54, .bool true)] ?_
     refine N_end (by kernel_rfl) ?_
     refine S_env [(0, vi nv), (1, vs argsB argsN argsC), (10, vp a), (54, .bool (((((f != 0) || (ra != 0)) || (rb != 1)) || (e != 0)) || (d != 1)))] (by simp only [b6, b8, Bool.true_or, Bool.false_or, Bool.or_true, Bool.or_false, Bool.true_and, Bool.false_and, Bool.and_true, Bool.and_false, Bool.not_true, Bool.not_false, cond_true, cond_false]) ?_
     exact hk
   ·have b6 : (f != 0) = true := bne_iff_ne.mpr c5
    refine N_env [(0, vi nv), (1, vs argsB argsN argsC), (6, vu ra), (7, vi rb), (8, vu e), (9, vi d), (10, vp a), (39, .bool true)] (by simp only [b6, Bool.not_true, Bool.not_false]) ?_
    refine T_n 15 [(0, vi nv), (1, vs argsB argsN argsC), (10, vp a), (54, .bool true)] ?_
    refine N_end (by kernel_rfl) ?_
    refine S_env [(0, vi nv), (1, vs argsB argsN argsC), (10, vp a), (54, .bool (((((f != 0) || (ra != 0)) || (rb != 1)) || (e != 0)) || (d != 1)))] (by simp only [b6, Bool.true_or, Bool.false_or, Bool.or_true, Bool.or_false, Bool.true_and, Bool.false_and, Bool.and_true, Bool.and_false, Bool.not_true, Bool.not_false, cond_true, cond_false]) ?_
    exact hk
end morainelaw23_TextsNobody

end Go.Proofs.YthlohokmnajpoaaGreatDoor
