/-
  Written by a program of mine (gen.py): for functions of this translation a predicate transformer over heaps (.pt), and the proof that it is sound for the call (.link).
-/
import Derived.Test.YtfohlkiikppefaaFnsC
set_option linter.unusedSimpArgs false
set_option linter.unusedVariables false
set_option maxHeartbeats 1000000
noncomputable section
namespace Go.Proofs.Ytfohlkiikppefaa
open Go
/-! moraine/morainelaw10.ObjNobody -/
namespace morainelaw10_ObjNobody
def kk0 := Func.code Try.f9
def kk1 := Code.fa kk0
def kk2 := Code.fb kk0
def kk3 := Code.fa kk2
def kk4 := Code.fb kk2
def kk5 := Code.fa kk4
def kk6 := Code.fb kk4
def kk7 := Code.fa kk6
def kk8 := Code.fb kk6
def kk9 := Code.fa kk7
def kk10 := Code.fb kk7
def kk11 := Code.fa kk10
def kk12 := Code.fa kk11
def kk13 := Code.fa kk12
def kk14 := Code.fb kk12
def kk15 := Code.fa kk13
def kk16 := Code.fb kk13
def kk17 := Code.fa kk16
def kk18 := Code.fb kk16
def kk19 := Code.fa kk14
def kk20 := Code.fb kk14
def kk21 := Code.fa kk19
def kk22 := Code.fa kk21
def kk23 := Code.fb kk21
def kk24 := Code.fa kk23
def kk25 := Code.fb kk23
def kk26 := Code.fa kk25
def kk27 := Code.fb kk25
def kk28 := Code.fa kk27
def kk29 := Code.fb kk27
def kk30 := Code.fa kk29
def kk31 := Code.fb kk29
def kk32 := Code.fa kk31
def kk33 := Code.fb kk31
def kk34 := Code.fa kk33
def kk35 := Code.fb kk33
def kk36 := Code.fa kk35
def kk37 := Code.fb kk35
def kk38 := Code.fa kk37
def kk39 := Code.fb kk37
def kk40 := Code.fa kk39
def kk41 := Code.fb kk39
def kk42 := Code.fa kk41
def kk43 := Code.fb kk41
def kk44 := Code.fa kk42
def kk45 := Code.fb kk42
def kk46 := Code.fa kk8
def kk47 := Code.fb kk8
end morainelaw10_ObjNobody
def morainelaw10_ObjNobody.pt (wv : Int) (kind : Int) (i : Int) (H : Array Obj) (R : Value → Array Obj → Prop) : Prop :=
 ∀ (b : Nat) (H1 : Array Obj), b = H.size → H1 = H.push (.cells #[.pointer none, .slice none 0 0, .slice none 0 0, .int .u64 0] 60) →
 ∀ (b_2 : Nat) (H2 : Array Obj), b_2 = H1.size → H2 = H1.push (.cells #[.pointer none, .pointer (some (Addr.mk b 0 none))] 23) →
 ∃ (I13 : Int → Array Obj → Prop) (m13 : Int → Array Obj → Nat), I13 0 H2 ∧ ∀ (k : Int) (H3 : Array Obj), I13 k H3 →
 if k < (2 : Int) then (
  ((0 : Int) ≤ k ∧ k < (2 : Int)) ∧
  ∃ x : Option Addr, hat H3 ((Addr.mk b_2 0 none).add (Int.toNat k * 1)) = some (.pointer x) ∧
  obj_Heap_Cons.C x wv wv H3 (fun v H4 => ∃ ra : Int, ∃ rb : Int, v = .tuple #[.int .u64 ra, .int .i64 rb] ∧ 
   obj_Heap_Weak.C x wv wv H4 (fun v_2 H5 => ∃ ra_2 : Int, ∃ rb_2 : Int, v_2 = .tuple #[.int .u64 ra_2, .int .i64 rb_2] ∧ 
    obj_Heap_Vector.C x 3 wv H5 (fun v_3 H6 => ∃ ra_3 : Int, ∃ rb_3 : Int, v_3 = .tuple #[.int .u64 ra_3, .int .i64 rb_3] ∧ 
     obj_Heap_String.C x (ByteArray.mk #[97]) H6 (fun v_4 H7 => ∃ ra_4 : Int, ∃ rb_4 : Int, v_4 = .tuple #[.int .u64 ra_4, .int .i64 rb_4] ∧ 
      obj_Heap_Car.C x wv H7 (fun v_5 H8 => ∃ ra_5 : Int, ∃ rb_5 : Int, v_5 = .tuple #[.int .u64 ra_5, .int .i64 rb_5] ∧ 
       obj_Heap_Get.C x wv kind i H8 (fun v_6 H9 => ∃ ra_6 : Int, ∃ rb_6 : Int, v_6 = .tuple #[.int .u64 ra_6, .int .i64 rb_6] ∧ 
        obj_Heap_Text.C x wv H9 (fun v_7 H10 => ∃ ra_7 : ByteArray, ∃ rb_7 : Int, v_7 = .tuple #[.string ra_7, .int .i64 rb_7] ∧ 
         obj_Heap_Next.C x H10 (fun _ H11 =>
          if rb = 2 then (
           if rb_2 = 2 then (
            if rb_3 = 2 then (
             if rb_4 = 2 then (
              if rb_5 = 3 then (
               if rb_6 = 3 then (
                if rb_7 = 3 then (
                 obj_Heap_SetCar.C x wv wv H11 (fun v_9 H12 => ∃ x_2 : Int, v_9 = .int .i64 x_2 ∧ 
                  if x_2 = 3 then (
                   obj_Heap_Set.C x wv kind i wv H12 (fun v_10 H13 => ∃ x_3 : Int, v_10 = .int .i64 x_3 ∧ 
                    if x_3 = 3 then (
                     obj_Heap_Pair.C x wv H13 (fun v_11 H14 => ∃ x_4 : Bool, v_11 = .bool x_4 ∧ 
                      if x_4 = true then (
                       R (.bool false) H14)
                      else
                      obj_Heap_Type.C x wv H14 (fun v_12 H15 => ∃ x_5 : Int, v_12 = .int .i64 x_5 ∧ 
                       if x_5 = 0 then (
                        obj_Heap_Size.C x wv H15 (fun v_13 H16 => ∃ x_6 : Int, v_13 = .int .i64 x_6 ∧ 
                         if x_6 = 0 then (
                          obj_Heap_Epoch.C x H16 (fun v_14 H17 => ∃ x_7 : Int, v_14 = .int .u64 x_7 ∧ 
                           if x_7 = 0 then (
                            (I13 (IntKind.wrap .i64 (k + 1)) H17 ∧ m13 (IntKind.wrap .i64 (k + 1)) H17 < m13 k H3))
                           else
                           R (.bool false) H17))
                         else
                         R (.bool false) H16))
                       else
                       R (.bool false) H15)))
                    else
                    R (.bool false) H13))
                  else
                  R (.bool false) H12))
                else
                R (.bool false) H11)
               else
               R (.bool false) H11)
              else
              R (.bool false) H11)
             else
             R (.bool false) H11)
            else
            R (.bool false) H11)
           else
           R (.bool false) H11)
          else
          R (.bool false) H11)))))))))
 else
 obj_Heap_Copy.C none H3 (fun v_15 H18 => ∃ x_8 : Option Addr, v_15 = .pointer x_8 ∧ 
  onPtr x_8 (
   morainelaw10_awake.C  H18 (fun v_16 H19 => ∃ x_9 : Bool, v_16 = .bool x_9 ∧ 
    R (.bool x_9) H19)) (fun x8A =>
   R (.bool false) H18))
namespace morainelaw10_ObjNobody
set_option maxRecDepth 100000 in
theorem link {wv : Int} {kind : Int} {i : Int} {H : Array Obj} {R : Value → Array Obj → Prop} (h : pt wv kind i H R) : C wv kind i H R := by
  refine S_enter (fn := Try.f9) (c := kk0) 156 Try.func9 (by kernel_rfl) (by kernel_rfl) (Nat.le_of_ble_eq_true (by kernel_rfl)) ?_
  intro w0 Q hQ
  unfold pt at h
  refine S_sub [(0, .int .u64 wv), (1, .int .i64 kind), (2, .int .i64 i)] (sb (by kernel_rfl)) ?_
  refine S_seq kk1 kk2 (by kernel_rfl) ?_
  refine S_region 0 (Code.ops kk1) (by kernel_rfl) ?_
  refine N_run 1 [(0, .int .u64 wv), (1, .int .i64 kind), (2, .int .i64 i)] (fun w => by kernel_rfl) ?_
  refine N_end (by kernel_rfl) ?_
  refine S_then ?_
  refine S_seq kk3 kk4 (by kernel_rfl) ?_
  refine S_region 1 (Code.ops kk3) (by kernel_rfl) ?_
  refine N_run 1 [(0, .int .u64 wv), (1, .int .i64 kind), (2, .int .i64 i), (7, .pointer none)] (fun w => by kernel_rfl) ?_
  refine N_end (by kernel_rfl) ?_
  refine S_then ?_
  refine S_seq kk5 kk6 (by kernel_rfl) ?_
  refine S_region 2 (Code.ops kk5) (by kernel_rfl) ?_
  refine N_run 2 [(0, .int .u64 wv), (1, .int .i64 kind), (2, .int .i64 i), (7, .pointer none), (25, .pointer none), (26, .agg #[.pointer none, .slice none 0 0, .slice none 0 0, .int .u64 0])] (fun w => by kernel_rfl) ?_
  refine N_new (some 27) (fun b => .pointer (some (Addr.mk b 0 none))) (.cells #[.pointer none, .slice none 0 0, .slice none 0 0, .int .u64 0] 60) (fun w => by kernel_rfl) ?_
  intro b H1 e1 e2
  replace h := h b H1 e1 e2
  refine ⟨[(0, .int .u64 wv), (1, .int .i64 kind), (2, .int .i64 i), (7, .pointer none), (25, .pointer none), (27, .pointer (some (Addr.mk b 0 none)))], ps (by kernel_rfl), ?_⟩
  refine N_new (some 28) (fun b => .slice (some (Addr.mk b 0 none)) 2 2) (.cells #[.pointer none, .pointer (some (Addr.mk b 0 none))] 23) (fun w => by kernel_rfl) ?_
  intro b_2 H2 e3 e4
  replace h := h b_2 H2 e3 e4
  refine ⟨[(0, .int .u64 wv), (1, .int .i64 kind), (2, .int .i64 i), (7, .pointer none), (28, .slice (some (Addr.mk b_2 0 none)) 2 2)], ps (by kernel_rfl), ?_⟩
  refine N_run 1 [(0, .int .u64 wv), (1, .int .i64 kind), (2, .int .i64 i), (7, .pointer none), (8, .slice (some (Addr.mk b_2 0 none)) 2 2)] (fun w => by kernel_rfl) ?_
  refine N_end (by kernel_rfl) ?_
  refine S_then ?_
  refine S_seq kk7 kk8 (by kernel_rfl) ?_
  refine S_seq kk9 kk10 (by kernel_rfl) ?_
  refine S_region 3 (Code.ops kk9) (by kernel_rfl) ?_
  refine N_run 1 [(0, .int .u64 wv), (1, .int .i64 kind), (2, .int .i64 i), (7, .pointer none), (8, .slice (some (Addr.mk b_2 0 none)) 2 2), (9, .int .i64 0)] (fun w => by kernel_rfl) ?_
  refine N_end (by kernel_rfl) ?_
  refine S_then ?_
  refine S_block 0 kk11 (by kernel_rfl) ?_
  obtain ⟨I13, m13, i5, i6⟩ := h
  refine S_loop (x := kk12) (σ := Int) (fun s_ => [(0, .int .u64 wv), (1, .int .i64 kind), (2, .int .i64 i), (7, .pointer none), (8, .slice (some (Addr.mk b_2 0 none)) 2 2), (9, .int .i64 s_)]) (fun s_ H => I13 s_ H) (fun s_ H => m13 s_ H) (0 : Int) (by kernel_rfl) i5 (sb (by kernel_rfl)) ?_
  rintro k H3 i7
  have h := i6 k H3 i7
  refine S_sub [(0, .int .u64 wv), (1, .int .i64 kind), (2, .int .i64 i), (7, .pointer none), (8, .slice (some (Addr.mk b_2 0 none)) 2 2), (9, .int .i64 k)] (sb (by kernel_rfl)) ?_
  refine S_seq kk13 kk14 (by kernel_rfl) ?_
  refine S_seq kk15 kk16 (by kernel_rfl) ?_
  refine S_region 4 (Code.ops kk15) (by kernel_rfl) ?_
  refine N_run 4 [(0, .int .u64 wv), (1, .int .i64 kind), (2, .int .i64 i), (7, .pointer none), (8, .slice (some (Addr.mk b_2 0 none)) 2 2), (9, .int .i64 k), (32, .bool (decide (k < (2 : Int))))] (fun w => by kernel_rfl) ?_
  refine N_end (by kernel_rfl) ?_
  refine S_then ?_
  by_cases c8 : k < (2 : Int)
  · rw [if_pos c8] at h
    have b9 : (decide (k < (2 : Int))) = true := decide_eq_true c8
    refine S_env [(0, .int .u64 wv), (1, .int .i64 kind), (2, .int .i64 i), (7, .pointer none), (8, .slice (some (Addr.mk b_2 0 none)) 2 2), (9, .int .i64 k), (32, .bool true)] (by simp only [b9, Bool.not_true, Bool.not_false]) ?_
    clear b9
    refine S_condT (.tmp 32) kk17 kk18 (by kernel_rfl) (by kernel_rfl) ?_
    refine S_skip (by kernel_rfl) ?_
    refine S_then ?_
    refine S_seq kk19 kk20 (by kernel_rfl) ?_
    refine S_block 1 kk21 (by kernel_rfl) ?_
    refine S_seq kk22 kk23 (by kernel_rfl) ?_
    refine S_region 6 (Code.ops kk22) (by kernel_rfl) ?_
    refine N_run 2 [(0, .int .u64 wv), (1, .int .i64 kind), (2, .int .i64 i), (7, .pointer none), (8, .slice (some (Addr.mk b_2 0 none)) 2 2), (9, .int .i64 k), (35, .slice (some (Addr.mk b_2 0 none)) 2 2), (36, .int .i64 k)] (fun w => by kernel_rfl) ?_
    obtain ⟨q10, h⟩ := h
    refine N_val (some 37) (indexAtN 61 (.slice (some (Addr.mk b_2 0 none)) 2 2) (.int .i64 k)) (.pointer (some ((Addr.mk b_2 0 none).add (Int.toNat k * 1)))) (fun w => by kernel_rfl) (fun w _ => indexAt_run (P := Try.prog) (t := 61) (elem := 23) (sz := 1) (a := (Addr.mk b_2 0 none)) (len := 2) (cap := 2) (k := .i64) (i := k) Try.underlying61 (fun w => by kernel_rfl) q10.1 q10.2 w) [(0, .int .u64 wv), (1, .int .i64 kind), (2, .int .i64 i), (7, .pointer none), (8, .slice (some (Addr.mk b_2 0 none)) 2 2), (9, .int .i64 k), (37, .pointer (some ((Addr.mk b_2 0 none).add (Int.toNat k * 1))))] (ps (by kernel_rfl)) ?_
    obtain ⟨x, q11, h⟩ := h
    refine N_val (some 38) (loadN 23 (.pointer (some ((Addr.mk b_2 0 none).add (Int.toNat k * 1))))) (.pointer x) (fun w => by kernel_rfl) (loadN_run (loadOK_one (fun w => by kernel_rfl) q11)) [(0, .int .u64 wv), (1, .int .i64 kind), (2, .int .i64 i), (7, .pointer none), (8, .slice (some (Addr.mk b_2 0 none)) 2 2), (9, .int .i64 k), (38, .pointer x)] (ps (by kernel_rfl)) ?_
    refine N_run 1 [(0, .int .u64 wv), (1, .int .i64 kind), (2, .int .i64 i), (7, .pointer none), (8, .slice (some (Addr.mk b_2 0 none)) 2 2), (9, .int .i64 k), (10, .pointer x)] (fun w => by kernel_rfl) ?_
    refine N_end (by kernel_rfl) ?_
    refine S_then ?_
    refine S_seq kk24 kk25 (by kernel_rfl) ?_
    refine S_region 7 (Code.ops kk24) (by kernel_rfl) ?_
    refine N_run 3 [(0, .int .u64 wv), (1, .int .i64 kind), (2, .int .i64 i), (7, .pointer none), (8, .slice (some (Addr.mk b_2 0 none)) 2 2), (9, .int .i64 k), (10, .pointer x), (40, .pointer x), (41, .int .u64 wv), (42, .int .u64 wv)] (fun w => by kernel_rfl) ?_
    refine N_call (some 43) 27 #[.pointer x, .int .u64 wv, .int .u64 wv] (fun w => by kernel_rfl) h ?_; clear h
    rintro v H4 ⟨ra, rb, rfl, h⟩
    refine ⟨[(0, .int .u64 wv), (1, .int .i64 kind), (2, .int .i64 i), (7, .pointer none), (8, .slice (some (Addr.mk b_2 0 none)) 2 2), (9, .int .i64 k), (10, .pointer x), (43, .tuple #[.int .u64 ra, .int .i64 rb])], ps (by kernel_rfl), ?_⟩
    refine N_run 5 [(0, .int .u64 wv), (1, .int .i64 kind), (2, .int .i64 i), (7, .pointer none), (8, .slice (some (Addr.mk b_2 0 none)) 2 2), (9, .int .i64 k), (10, .pointer x), (12, .int .i64 rb)] (fun w => by kernel_rfl) ?_
    refine N_end (by kernel_rfl) ?_
    refine S_then ?_
    refine S_seq kk26 kk27 (by kernel_rfl) ?_
    refine S_region 8 (Code.ops kk26) (by kernel_rfl) ?_
    refine N_run 3 [(0, .int .u64 wv), (1, .int .i64 kind), (2, .int .i64 i), (7, .pointer none), (8, .slice (some (Addr.mk b_2 0 none)) 2 2), (9, .int .i64 k), (10, .pointer x), (12, .int .i64 rb), (47, .pointer x), (48, .int .u64 wv), (49, .int .u64 wv)] (fun w => by kernel_rfl) ?_
    refine N_call (some 50) 28 #[.pointer x, .int .u64 wv, .int .u64 wv] (fun w => by kernel_rfl) h ?_; clear h
    rintro v_2 H5 ⟨ra_2, rb_2, rfl, h⟩
    refine ⟨[(0, .int .u64 wv), (1, .int .i64 kind), (2, .int .i64 i), (7, .pointer none), (8, .slice (some (Addr.mk b_2 0 none)) 2 2), (9, .int .i64 k), (10, .pointer x), (12, .int .i64 rb), (50, .tuple #[.int .u64 ra_2, .int .i64 rb_2])], ps (by kernel_rfl), ?_⟩
    refine N_run 5 [(0, .int .u64 wv), (1, .int .i64 kind), (2, .int .i64 i), (7, .pointer none), (8, .slice (some (Addr.mk b_2 0 none)) 2 2), (9, .int .i64 k), (10, .pointer x), (12, .int .i64 rb), (14, .int .i64 rb_2)] (fun w => by kernel_rfl) ?_
    refine N_end (by kernel_rfl) ?_
    refine S_then ?_
    refine S_seq kk28 kk29 (by kernel_rfl) ?_
    refine S_region 9 (Code.ops kk28) (by kernel_rfl) ?_
    refine N_run 2 [(0, .int .u64 wv), (1, .int .i64 kind), (2, .int .i64 i), (7, .pointer none), (8, .slice (some (Addr.mk b_2 0 none)) 2 2), (9, .int .i64 k), (10, .pointer x), (12, .int .i64 rb), (14, .int .i64 rb_2), (54, .pointer x), (55, .int .u64 wv)] (fun w => by kernel_rfl) ?_
    refine N_call (some 56) 46 #[.pointer x, .int .i64 3, .int .u64 wv] (fun w => by kernel_rfl) h ?_; clear h
    rintro v_3 H6 ⟨ra_3, rb_3, rfl, h⟩
    refine ⟨[(0, .int .u64 wv), (1, .int .i64 kind), (2, .int .i64 i), (7, .pointer none), (8, .slice (some (Addr.mk b_2 0 none)) 2 2), (9, .int .i64 k), (10, .pointer x), (12, .int .i64 rb), (14, .int .i64 rb_2), (56, .tuple #[.int .u64 ra_3, .int .i64 rb_3])], ps (by kernel_rfl), ?_⟩
    refine N_run 5 [(0, .int .u64 wv), (1, .int .i64 kind), (2, .int .i64 i), (7, .pointer none), (8, .slice (some (Addr.mk b_2 0 none)) 2 2), (9, .int .i64 k), (10, .pointer x), (12, .int .i64 rb), (14, .int .i64 rb_2), (16, .int .i64 rb_3)] (fun w => by kernel_rfl) ?_
    refine N_end (by kernel_rfl) ?_
    refine S_then ?_
    refine S_seq kk30 kk31 (by kernel_rfl) ?_
    refine S_region 10 (Code.ops kk30) (by kernel_rfl) ?_
    refine N_run 1 [(0, .int .u64 wv), (1, .int .i64 kind), (2, .int .i64 i), (7, .pointer none), (8, .slice (some (Addr.mk b_2 0 none)) 2 2), (9, .int .i64 k), (10, .pointer x), (12, .int .i64 rb), (14, .int .i64 rb_2), (16, .int .i64 rb_3), (60, .pointer x)] (fun w => by kernel_rfl) ?_
    refine N_call (some 61) 39 #[.pointer x, .string (ByteArray.mk #[97])] (fun w => by kernel_rfl) h ?_; clear h
    rintro v_4 H7 ⟨ra_4, rb_4, rfl, h⟩
    refine ⟨[(0, .int .u64 wv), (1, .int .i64 kind), (2, .int .i64 i), (7, .pointer none), (8, .slice (some (Addr.mk b_2 0 none)) 2 2), (9, .int .i64 k), (10, .pointer x), (12, .int .i64 rb), (14, .int .i64 rb_2), (16, .int .i64 rb_3), (61, .tuple #[.int .u64 ra_4, .int .i64 rb_4])], ps (by kernel_rfl), ?_⟩
    refine N_run 5 [(0, .int .u64 wv), (1, .int .i64 kind), (2, .int .i64 i), (7, .pointer none), (8, .slice (some (Addr.mk b_2 0 none)) 2 2), (9, .int .i64 k), (10, .pointer x), (12, .int .i64 rb), (14, .int .i64 rb_2), (16, .int .i64 rb_3), (18, .int .i64 rb_4)] (fun w => by kernel_rfl) ?_
    refine N_end (by kernel_rfl) ?_
    refine S_then ?_
    refine S_seq kk32 kk33 (by kernel_rfl) ?_
    refine S_region 11 (Code.ops kk32) (by kernel_rfl) ?_
    refine N_run 2 [(0, .int .u64 wv), (1, .int .i64 kind), (2, .int .i64 i), (7, .pointer none), (8, .slice (some (Addr.mk b_2 0 none)) 2 2), (9, .int .i64 k), (10, .pointer x), (12, .int .i64 rb), (14, .int .i64 rb_2), (16, .int .i64 rb_3), (18, .int .i64 rb_4), (65, .pointer x), (66, .int .u64 wv)] (fun w => by kernel_rfl) ?_
    refine N_call (some 67) 33 #[.pointer x, .int .u64 wv] (fun w => by kernel_rfl) h ?_; clear h
    rintro v_5 H8 ⟨ra_5, rb_5, rfl, h⟩
    refine ⟨[(0, .int .u64 wv), (1, .int .i64 kind), (2, .int .i64 i), (7, .pointer none), (8, .slice (some (Addr.mk b_2 0 none)) 2 2), (9, .int .i64 k), (10, .pointer x), (12, .int .i64 rb), (14, .int .i64 rb_2), (16, .int .i64 rb_3), (18, .int .i64 rb_4), (67, .tuple #[.int .u64 ra_5, .int .i64 rb_5])], ps (by kernel_rfl), ?_⟩
    refine N_run 5 [(0, .int .u64 wv), (1, .int .i64 kind), (2, .int .i64 i), (7, .pointer none), (8, .slice (some (Addr.mk b_2 0 none)) 2 2), (9, .int .i64 k), (10, .pointer x), (12, .int .i64 rb), (14, .int .i64 rb_2), (16, .int .i64 rb_3), (18, .int .i64 rb_4), (20, .int .i64 rb_5)] (fun w => by kernel_rfl) ?_
    refine N_end (by kernel_rfl) ?_
    refine S_then ?_
    refine S_seq kk34 kk35 (by kernel_rfl) ?_
    refine S_region 12 (Code.ops kk34) (by kernel_rfl) ?_
    refine N_run 4 [(0, .int .u64 wv), (1, .int .i64 kind), (2, .int .i64 i), (7, .pointer none), (8, .slice (some (Addr.mk b_2 0 none)) 2 2), (9, .int .i64 k), (10, .pointer x), (12, .int .i64 rb), (14, .int .i64 rb_2), (16, .int .i64 rb_3), (18, .int .i64 rb_4), (20, .int .i64 rb_5), (71, .pointer x), (72, .int .u64 wv), (73, .int .i64 kind), (74, .int .i64 i)] (fun w => by kernel_rfl) ?_
    refine N_call (some 75) 38 #[.pointer x, .int .u64 wv, .int .i64 kind, .int .i64 i] (fun w => by kernel_rfl) h ?_; clear h
    rintro v_6 H9 ⟨ra_6, rb_6, rfl, h⟩
    refine ⟨[(0, .int .u64 wv), (1, .int .i64 kind), (2, .int .i64 i), (7, .pointer none), (8, .slice (some (Addr.mk b_2 0 none)) 2 2), (9, .int .i64 k), (10, .pointer x), (12, .int .i64 rb), (14, .int .i64 rb_2), (16, .int .i64 rb_3), (18, .int .i64 rb_4), (20, .int .i64 rb_5), (75, .tuple #[.int .u64 ra_6, .int .i64 rb_6])], ps (by kernel_rfl), ?_⟩
    refine N_run 5 [(0, .int .u64 wv), (1, .int .i64 kind), (2, .int .i64 i), (7, .pointer none), (8, .slice (some (Addr.mk b_2 0 none)) 2 2), (9, .int .i64 k), (10, .pointer x), (12, .int .i64 rb), (14, .int .i64 rb_2), (16, .int .i64 rb_3), (18, .int .i64 rb_4), (20, .int .i64 rb_5), (22, .int .i64 rb_6)] (fun w => by kernel_rfl) ?_
    refine N_end (by kernel_rfl) ?_
    refine S_then ?_
    refine S_seq kk36 kk37 (by kernel_rfl) ?_
    refine S_region 13 (Code.ops kk36) (by kernel_rfl) ?_
    refine N_run 2 [(0, .int .u64 wv), (1, .int .i64 kind), (2, .int .i64 i), (7, .pointer none), (8, .slice (some (Addr.mk b_2 0 none)) 2 2), (9, .int .i64 k), (10, .pointer x), (12, .int .i64 rb), (14, .int .i64 rb_2), (16, .int .i64 rb_3), (18, .int .i64 rb_4), (20, .int .i64 rb_5), (22, .int .i64 rb_6), (79, .pointer x), (80, .int .u64 wv)] (fun w => by kernel_rfl) ?_
    refine N_call (some 81) 40 #[.pointer x, .int .u64 wv] (fun w => by kernel_rfl) h ?_; clear h
    rintro v_7 H10 ⟨ra_7, rb_7, rfl, h⟩
    refine ⟨[(0, .int .u64 wv), (1, .int .i64 kind), (2, .int .i64 i), (7, .pointer none), (8, .slice (some (Addr.mk b_2 0 none)) 2 2), (9, .int .i64 k), (10, .pointer x), (12, .int .i64 rb), (14, .int .i64 rb_2), (16, .int .i64 rb_3), (18, .int .i64 rb_4), (20, .int .i64 rb_5), (22, .int .i64 rb_6), (81, .tuple #[.string ra_7, .int .i64 rb_7])], ps (by kernel_rfl), ?_⟩
    refine N_run 5 [(0, .int .u64 wv), (1, .int .i64 kind), (2, .int .i64 i), (7, .pointer none), (8, .slice (some (Addr.mk b_2 0 none)) 2 2), (9, .int .i64 k), (10, .pointer x), (12, .int .i64 rb), (14, .int .i64 rb_2), (16, .int .i64 rb_3), (18, .int .i64 rb_4), (20, .int .i64 rb_5), (22, .int .i64 rb_6), (24, .int .i64 rb_7)] (fun w => by kernel_rfl) ?_
    refine N_end (by kernel_rfl) ?_
    refine S_then ?_
    refine S_seq kk38 kk39 (by kernel_rfl) ?_
    refine S_region 14 (Code.ops kk38) (by kernel_rfl) ?_
    refine N_run 1 [(0, .int .u64 wv), (1, .int .i64 kind), (2, .int .i64 i), (7, .pointer none), (8, .slice (some (Addr.mk b_2 0 none)) 2 2), (9, .int .i64 k), (10, .pointer x), (12, .int .i64 rb), (14, .int .i64 rb_2), (16, .int .i64 rb_3), (18, .int .i64 rb_4), (20, .int .i64 rb_5), (22, .int .i64 rb_6), (24, .int .i64 rb_7), (84, .pointer x)] (fun w => by kernel_rfl) ?_
    refine N_call (some 85) 47 #[.pointer x] (fun w => by kernel_rfl) h ?_; clear h
    intro v_8 H11 h
    refine ⟨[(0, .int .u64 wv), (1, .int .i64 kind), (2, .int .i64 i), (7, .pointer none), (8, .slice (some (Addr.mk b_2 0 none)) 2 2), (9, .int .i64 k), (10, .pointer x), (12, .int .i64 rb), (14, .int .i64 rb_2), (16, .int .i64 rb_3), (18, .int .i64 rb_4), (20, .int .i64 rb_5), (22, .int .i64 rb_6), (24, .int .i64 rb_7)], ps (by kernel_rfl), ?_⟩
    refine N_end (by kernel_rfl) ?_
    refine S_then ?_
    refine S_seq kk40 kk41 (by kernel_rfl) ?_
    refine S_region 15 (Code.ops kk40) (by kernel_rfl) ?_
    refine N_run 3 [(0, .int .u64 wv), (1, .int .i64 kind), (2, .int .i64 i), (7, .pointer none), (8, .slice (some (Addr.mk b_2 0 none)) 2 2), (9, .int .i64 k), (10, .pointer x), (14, .int .i64 rb_2), (16, .int .i64 rb_3), (18, .int .i64 rb_4), (20, .int .i64 rb_5), (22, .int .i64 rb_6), (24, .int .i64 rb_7), (88, .bool (rb != 2))] (fun w => by kernel_rfl) ?_
    by_cases c12 : rb = 2
    · rw [if_pos c12] at h
      have b13 : (rb != 2) = false := bne_eq_false_iff_eq.mpr c12
      refine N_env [(0, .int .u64 wv), (1, .int .i64 kind), (2, .int .i64 i), (7, .pointer none), (8, .slice (some (Addr.mk b_2 0 none)) 2 2), (9, .int .i64 k), (10, .pointer x), (14, .int .i64 rb_2), (16, .int .i64 rb_3), (18, .int .i64 rb_4), (20, .int .i64 rb_5), (22, .int .i64 rb_6), (24, .int .i64 rb_7), (88, .bool false)] (by simp only [b13, Bool.not_true, Bool.not_false]) ?_
      clear b13
      refine N_run 4 [(0, .int .u64 wv), (1, .int .i64 kind), (2, .int .i64 i), (7, .pointer none), (8, .slice (some (Addr.mk b_2 0 none)) 2 2), (9, .int .i64 k), (10, .pointer x), (16, .int .i64 rb_3), (18, .int .i64 rb_4), (20, .int .i64 rb_5), (22, .int .i64 rb_6), (24, .int .i64 rb_7), (92, .bool (rb_2 != 2))] (fun w => by kernel_rfl) ?_
      by_cases c14 : rb_2 = 2
      · rw [if_pos c14] at h
        have b15 : (rb_2 != 2) = false := bne_eq_false_iff_eq.mpr c14
        refine N_env [(0, .int .u64 wv), (1, .int .i64 kind), (2, .int .i64 i), (7, .pointer none), (8, .slice (some (Addr.mk b_2 0 none)) 2 2), (9, .int .i64 k), (10, .pointer x), (16, .int .i64 rb_3), (18, .int .i64 rb_4), (20, .int .i64 rb_5), (22, .int .i64 rb_6), (24, .int .i64 rb_7), (92, .bool false)] (by simp only [b15, Bool.not_true, Bool.not_false]) ?_
        clear b15
        refine N_run 4 [(0, .int .u64 wv), (1, .int .i64 kind), (2, .int .i64 i), (7, .pointer none), (8, .slice (some (Addr.mk b_2 0 none)) 2 2), (9, .int .i64 k), (10, .pointer x), (18, .int .i64 rb_4), (20, .int .i64 rb_5), (22, .int .i64 rb_6), (24, .int .i64 rb_7), (96, .bool (rb_3 != 2))] (fun w => by kernel_rfl) ?_
        by_cases c16 : rb_3 = 2
        · rw [if_pos c16] at h
          have b17 : (rb_3 != 2) = false := bne_eq_false_iff_eq.mpr c16
          refine N_env [(0, .int .u64 wv), (1, .int .i64 kind), (2, .int .i64 i), (7, .pointer none), (8, .slice (some (Addr.mk b_2 0 none)) 2 2), (9, .int .i64 k), (10, .pointer x), (18, .int .i64 rb_4), (20, .int .i64 rb_5), (22, .int .i64 rb_6), (24, .int .i64 rb_7), (96, .bool false)] (by simp only [b17, Bool.not_true, Bool.not_false]) ?_
          clear b17
          refine N_run 4 [(0, .int .u64 wv), (1, .int .i64 kind), (2, .int .i64 i), (7, .pointer none), (8, .slice (some (Addr.mk b_2 0 none)) 2 2), (9, .int .i64 k), (10, .pointer x), (20, .int .i64 rb_5), (22, .int .i64 rb_6), (24, .int .i64 rb_7), (100, .bool (rb_4 != 2))] (fun w => by kernel_rfl) ?_
          by_cases c18 : rb_4 = 2
          · rw [if_pos c18] at h
            have b19 : (rb_4 != 2) = false := bne_eq_false_iff_eq.mpr c18
            refine N_env [(0, .int .u64 wv), (1, .int .i64 kind), (2, .int .i64 i), (7, .pointer none), (8, .slice (some (Addr.mk b_2 0 none)) 2 2), (9, .int .i64 k), (10, .pointer x), (20, .int .i64 rb_5), (22, .int .i64 rb_6), (24, .int .i64 rb_7), (100, .bool false)] (by simp only [b19, Bool.not_true, Bool.not_false]) ?_
            clear b19
            refine N_run 4 [(0, .int .u64 wv), (1, .int .i64 kind), (2, .int .i64 i), (7, .pointer none), (8, .slice (some (Addr.mk b_2 0 none)) 2 2), (9, .int .i64 k), (10, .pointer x), (22, .int .i64 rb_6), (24, .int .i64 rb_7), (104, .bool (rb_5 != 3))] (fun w => by kernel_rfl) ?_
            by_cases c20 : rb_5 = 3
            · rw [if_pos c20] at h
              have b21 : (rb_5 != 3) = false := bne_eq_false_iff_eq.mpr c20
              refine N_env [(0, .int .u64 wv), (1, .int .i64 kind), (2, .int .i64 i), (7, .pointer none), (8, .slice (some (Addr.mk b_2 0 none)) 2 2), (9, .int .i64 k), (10, .pointer x), (22, .int .i64 rb_6), (24, .int .i64 rb_7), (104, .bool false)] (by simp only [b21, Bool.not_true, Bool.not_false]) ?_
              clear b21
              refine N_run 4 [(0, .int .u64 wv), (1, .int .i64 kind), (2, .int .i64 i), (7, .pointer none), (8, .slice (some (Addr.mk b_2 0 none)) 2 2), (9, .int .i64 k), (10, .pointer x), (24, .int .i64 rb_7), (108, .bool (rb_6 != 3))] (fun w => by kernel_rfl) ?_
              by_cases c22 : rb_6 = 3
              · rw [if_pos c22] at h
                have b23 : (rb_6 != 3) = false := bne_eq_false_iff_eq.mpr c22
                refine N_env [(0, .int .u64 wv), (1, .int .i64 kind), (2, .int .i64 i), (7, .pointer none), (8, .slice (some (Addr.mk b_2 0 none)) 2 2), (9, .int .i64 k), (10, .pointer x), (24, .int .i64 rb_7), (108, .bool false)] (by simp only [b23, Bool.not_true, Bool.not_false]) ?_
                clear b23
                refine N_run 4 [(0, .int .u64 wv), (1, .int .i64 kind), (2, .int .i64 i), (7, .pointer none), (8, .slice (some (Addr.mk b_2 0 none)) 2 2), (9, .int .i64 k), (10, .pointer x), (112, .bool (rb_7 != 3))] (fun w => by kernel_rfl) ?_
                by_cases c24 : rb_7 = 3
                · rw [if_pos c24] at h
                  have b25 : (rb_7 != 3) = false := bne_eq_false_iff_eq.mpr c24
                  refine N_env [(0, .int .u64 wv), (1, .int .i64 kind), (2, .int .i64 i), (7, .pointer none), (8, .slice (some (Addr.mk b_2 0 none)) 2 2), (9, .int .i64 k), (10, .pointer x), (112, .bool false)] (by simp only [b25, Bool.not_true, Bool.not_false]) ?_
                  clear b25
                  refine N_run 3 [(0, .int .u64 wv), (1, .int .i64 kind), (2, .int .i64 i), (7, .pointer none), (8, .slice (some (Addr.mk b_2 0 none)) 2 2), (9, .int .i64 k), (10, .pointer x), (112, .bool false), (113, .pointer x), (114, .int .u64 wv), (115, .int .u64 wv)] (fun w => by kernel_rfl) ?_
                  refine N_call (some 116) 48 #[.pointer x, .int .u64 wv, .int .u64 wv] (fun w => by kernel_rfl) h ?_; clear h
                  rintro v_9 H12 ⟨x_2, rfl, h⟩
                  refine ⟨[(0, .int .u64 wv), (1, .int .i64 kind), (2, .int .i64 i), (7, .pointer none), (8, .slice (some (Addr.mk b_2 0 none)) 2 2), (9, .int .i64 k), (10, .pointer x), (112, .bool false), (116, .int .i64 x_2)], ps (by kernel_rfl), ?_⟩
                  refine N_run 3 [(0, .int .u64 wv), (1, .int .i64 kind), (2, .int .i64 i), (7, .pointer none), (8, .slice (some (Addr.mk b_2 0 none)) 2 2), (9, .int .i64 k), (10, .pointer x), (119, .bool (x_2 != 3))] (fun w => by kernel_rfl) ?_
                  by_cases c26 : x_2 = 3
                  · rw [if_pos c26] at h
                    have b27 : (x_2 != 3) = false := bne_eq_false_iff_eq.mpr c26
                    refine N_env [(0, .int .u64 wv), (1, .int .i64 kind), (2, .int .i64 i), (7, .pointer none), (8, .slice (some (Addr.mk b_2 0 none)) 2 2), (9, .int .i64 k), (10, .pointer x), (119, .bool false)] (by simp only [b27, Bool.not_true, Bool.not_false]) ?_
                    clear b27
                    refine N_run 5 [(0, .int .u64 wv), (1, .int .i64 kind), (2, .int .i64 i), (7, .pointer none), (8, .slice (some (Addr.mk b_2 0 none)) 2 2), (9, .int .i64 k), (10, .pointer x), (119, .bool false), (120, .pointer x), (121, .int .u64 wv), (122, .int .i64 kind), (123, .int .i64 i), (124, .int .u64 wv)] (fun w => by kernel_rfl) ?_
                    refine N_call (some 125) 32 #[.pointer x, .int .u64 wv, .int .i64 kind, .int .i64 i, .int .u64 wv] (fun w => by kernel_rfl) h ?_; clear h
                    rintro v_10 H13 ⟨x_3, rfl, h⟩
                    refine ⟨[(0, .int .u64 wv), (1, .int .i64 kind), (2, .int .i64 i), (7, .pointer none), (8, .slice (some (Addr.mk b_2 0 none)) 2 2), (9, .int .i64 k), (10, .pointer x), (119, .bool false), (125, .int .i64 x_3)], ps (by kernel_rfl), ?_⟩
                    refine N_run 3 [(0, .int .u64 wv), (1, .int .i64 kind), (2, .int .i64 i), (7, .pointer none), (8, .slice (some (Addr.mk b_2 0 none)) 2 2), (9, .int .i64 k), (10, .pointer x), (128, .bool (x_3 != 3))] (fun w => by kernel_rfl) ?_
                    by_cases c28 : x_3 = 3
                    · rw [if_pos c28] at h
                      have b29 : (x_3 != 3) = false := bne_eq_false_iff_eq.mpr c28
                      refine N_env [(0, .int .u64 wv), (1, .int .i64 kind), (2, .int .i64 i), (7, .pointer none), (8, .slice (some (Addr.mk b_2 0 none)) 2 2), (9, .int .i64 k), (10, .pointer x), (128, .bool false)] (by simp only [b29, Bool.not_true, Bool.not_false]) ?_
                      clear b29
                      refine N_run 2 [(0, .int .u64 wv), (1, .int .i64 kind), (2, .int .i64 i), (7, .pointer none), (8, .slice (some (Addr.mk b_2 0 none)) 2 2), (9, .int .i64 k), (10, .pointer x), (128, .bool false), (129, .pointer x), (130, .int .u64 wv)] (fun w => by kernel_rfl) ?_
                      refine N_call (some 131) 49 #[.pointer x, .int .u64 wv] (fun w => by kernel_rfl) h ?_; clear h
                      rintro v_11 H14 ⟨x_4, rfl, h⟩
                      refine ⟨[(0, .int .u64 wv), (1, .int .i64 kind), (2, .int .i64 i), (7, .pointer none), (8, .slice (some (Addr.mk b_2 0 none)) 2 2), (9, .int .i64 k), (10, .pointer x), (128, .bool false), (131, .bool x_4)], ps (by kernel_rfl), ?_⟩
                      refine N_run 2 [(0, .int .u64 wv), (1, .int .i64 kind), (2, .int .i64 i), (7, .pointer none), (8, .slice (some (Addr.mk b_2 0 none)) 2 2), (9, .int .i64 k), (10, .pointer x), (133, .bool x_4)] (fun w => by kernel_rfl) ?_
                      by_cases c30 : x_4 = true
                      · rw [if_pos c30] at h
                        have b31 : x_4 = true := c30
                        refine N_env [(0, .int .u64 wv), (1, .int .i64 kind), (2, .int .i64 i), (7, .pointer none), (8, .slice (some (Addr.mk b_2 0 none)) 2 2), (9, .int .i64 k), (10, .pointer x), (133, .bool true)] (by simp only [b31, Bool.not_true, Bool.not_false]) ?_
                        clear b31
                        refine N_run 16 [(0, .int .u64 wv), (1, .int .i64 kind), (2, .int .i64 i), (7, .pointer none), (8, .slice (some (Addr.mk b_2 0 none)) 2 2), (9, .int .i64 k), (149, .bool true)] (fun w => by kernel_rfl) ?_
                        refine N_end (by kernel_rfl) ?_
                        refine S_then ?_
                        refine S_condT (.tmp 149) kk42 kk43 (by kernel_rfl) (by kernel_rfl) ?_
                        refine S_seq kk44 kk45 (by kernel_rfl) ?_
                        refine S_region 16 (Code.ops kk44) (by kernel_rfl) ?_
                        refine N_run 1 [(6, .bool false)] (fun w => by kernel_rfl) ?_
                        refine N_end (by kernel_rfl) ?_
                        refine S_then ?_
                        refine S_ret (by kernel_rfl) ?_
                        show At _ _ _ _ _ (Q .ret)
                        exact S_done (fn := Try.f9) [.bool false] hQ (show ResOK _ _ _ [.tmp 6] _ from .tmp (by kernel_rfl) (.nil)) h
                      · rw [if_neg c30] at h
                        have b31 : x_4 = false := eq_false_of_ne_true c30
                        refine N_env [(0, .int .u64 wv), (1, .int .i64 kind), (2, .int .i64 i), (7, .pointer none), (8, .slice (some (Addr.mk b_2 0 none)) 2 2), (9, .int .i64 k), (10, .pointer x), (133, .bool false)] (by simp only [b31, Bool.not_true, Bool.not_false]) ?_
                        clear b31
                        refine N_run 2 [(0, .int .u64 wv), (1, .int .i64 kind), (2, .int .i64 i), (7, .pointer none), (8, .slice (some (Addr.mk b_2 0 none)) 2 2), (9, .int .i64 k), (10, .pointer x), (133, .bool false), (134, .pointer x), (135, .int .u64 wv)] (fun w => by kernel_rfl) ?_
                        refine N_call (some 136) 36 #[.pointer x, .int .u64 wv] (fun w => by kernel_rfl) h ?_; clear h
                        rintro v_12 H15 ⟨x_5, rfl, h⟩
                        refine ⟨[(0, .int .u64 wv), (1, .int .i64 kind), (2, .int .i64 i), (7, .pointer none), (8, .slice (some (Addr.mk b_2 0 none)) 2 2), (9, .int .i64 k), (10, .pointer x), (133, .bool false), (136, .int .i64 x_5)], ps (by kernel_rfl), ?_⟩
                        refine N_run 3 [(0, .int .u64 wv), (1, .int .i64 kind), (2, .int .i64 i), (7, .pointer none), (8, .slice (some (Addr.mk b_2 0 none)) 2 2), (9, .int .i64 k), (10, .pointer x), (139, .bool (x_5 != 0))] (fun w => by kernel_rfl) ?_
                        by_cases c32 : x_5 = 0
                        · rw [if_pos c32] at h
                          have b33 : (x_5 != 0) = false := bne_eq_false_iff_eq.mpr c32
                          refine N_env [(0, .int .u64 wv), (1, .int .i64 kind), (2, .int .i64 i), (7, .pointer none), (8, .slice (some (Addr.mk b_2 0 none)) 2 2), (9, .int .i64 k), (10, .pointer x), (139, .bool false)] (by simp only [b33, Bool.not_true, Bool.not_false]) ?_
                          clear b33
                          refine N_run 2 [(0, .int .u64 wv), (1, .int .i64 kind), (2, .int .i64 i), (7, .pointer none), (8, .slice (some (Addr.mk b_2 0 none)) 2 2), (9, .int .i64 k), (10, .pointer x), (139, .bool false), (140, .pointer x), (141, .int .u64 wv)] (fun w => by kernel_rfl) ?_
                          refine N_call (some 142) 35 #[.pointer x, .int .u64 wv] (fun w => by kernel_rfl) h ?_; clear h
                          rintro v_13 H16 ⟨x_6, rfl, h⟩
                          refine ⟨[(0, .int .u64 wv), (1, .int .i64 kind), (2, .int .i64 i), (7, .pointer none), (8, .slice (some (Addr.mk b_2 0 none)) 2 2), (9, .int .i64 k), (10, .pointer x), (139, .bool false), (142, .int .i64 x_6)], ps (by kernel_rfl), ?_⟩
                          refine N_run 3 [(0, .int .u64 wv), (1, .int .i64 kind), (2, .int .i64 i), (7, .pointer none), (8, .slice (some (Addr.mk b_2 0 none)) 2 2), (9, .int .i64 k), (10, .pointer x), (145, .bool (x_6 != 0))] (fun w => by kernel_rfl) ?_
                          by_cases c34 : x_6 = 0
                          · rw [if_pos c34] at h
                            have b35 : (x_6 != 0) = false := bne_eq_false_iff_eq.mpr c34
                            refine N_env [(0, .int .u64 wv), (1, .int .i64 kind), (2, .int .i64 i), (7, .pointer none), (8, .slice (some (Addr.mk b_2 0 none)) 2 2), (9, .int .i64 k), (10, .pointer x), (145, .bool false)] (by simp only [b35, Bool.not_true, Bool.not_false]) ?_
                            clear b35
                            refine N_run 1 [(0, .int .u64 wv), (1, .int .i64 kind), (2, .int .i64 i), (7, .pointer none), (8, .slice (some (Addr.mk b_2 0 none)) 2 2), (9, .int .i64 k), (145, .bool false), (146, .pointer x)] (fun w => by kernel_rfl) ?_
                            refine N_call (some 147) 50 #[.pointer x] (fun w => by kernel_rfl) h ?_; clear h
                            rintro v_14 H17 ⟨x_7, rfl, h⟩
                            refine ⟨[(0, .int .u64 wv), (1, .int .i64 kind), (2, .int .i64 i), (7, .pointer none), (8, .slice (some (Addr.mk b_2 0 none)) 2 2), (9, .int .i64 k), (145, .bool false), (147, .int .u64 x_7)], ps (by kernel_rfl), ?_⟩
                            refine N_run 2 [(0, .int .u64 wv), (1, .int .i64 kind), (2, .int .i64 i), (7, .pointer none), (8, .slice (some (Addr.mk b_2 0 none)) 2 2), (9, .int .i64 k), (149, .bool (x_7 != 0))] (fun w => by kernel_rfl) ?_
                            refine N_end (by kernel_rfl) ?_
                            refine S_then ?_
                            by_cases c36 : x_7 = 0
                            · rw [if_pos c36] at h
                              have b37 : (x_7 != 0) = false := bne_eq_false_iff_eq.mpr c36
                              refine S_env [(0, .int .u64 wv), (1, .int .i64 kind), (2, .int .i64 i), (7, .pointer none), (8, .slice (some (Addr.mk b_2 0 none)) 2 2), (9, .int .i64 k), (149, .bool false)] (by simp only [b37, Bool.not_true, Bool.not_false]) ?_
                              clear b37
                              refine S_condF (.tmp 149) kk42 kk43 (by kernel_rfl) (by kernel_rfl) ?_
                              refine S_skip (by kernel_rfl) ?_
                              refine S_blockEnd ?_
                              refine S_then ?_
                              refine S_region 5 (Code.ops kk20) (by kernel_rfl) ?_
                              refine N_run 3 [(0, .int .u64 wv), (1, .int .i64 kind), (2, .int .i64 i), (7, .pointer none), (8, .slice (some (Addr.mk b_2 0 none)) 2 2), (9, .int .i64 (IntKind.wrap .i64 (k + 1)))] (fun w => by kernel_rfl) ?_
                              refine N_end (by kernel_rfl) ?_
                              refine S_then ?_
                              exact S_round ((IntKind.wrap .i64 (k + 1)) : Int) (sb (by kernel_rfl)) h
                            · rw [if_neg c36] at h
                              have b37 : (x_7 != 0) = true := bne_iff_ne.mpr c36
                              refine S_env [(0, .int .u64 wv), (1, .int .i64 kind), (2, .int .i64 i), (7, .pointer none), (8, .slice (some (Addr.mk b_2 0 none)) 2 2), (9, .int .i64 k), (149, .bool true)] (by simp only [b37, Bool.not_true, Bool.not_false]) ?_
                              clear b37
                              refine S_condT (.tmp 149) kk42 kk43 (by kernel_rfl) (by kernel_rfl) ?_
                              refine S_seq kk44 kk45 (by kernel_rfl) ?_
                              refine S_region 16 (Code.ops kk44) (by kernel_rfl) ?_
                              refine N_run 1 [(6, .bool false)] (fun w => by kernel_rfl) ?_
                              refine N_end (by kernel_rfl) ?_
                              refine S_then ?_
                              refine S_ret (by kernel_rfl) ?_
                              show At _ _ _ _ _ (Q .ret)
                              exact S_done (fn := Try.f9) [.bool false] hQ (show ResOK _ _ _ [.tmp 6] _ from .tmp (by kernel_rfl) (.nil)) h
                          · rw [if_neg c34] at h
                            have b35 : (x_6 != 0) = true := bne_iff_ne.mpr c34
                            refine N_env [(0, .int .u64 wv), (1, .int .i64 kind), (2, .int .i64 i), (7, .pointer none), (8, .slice (some (Addr.mk b_2 0 none)) 2 2), (9, .int .i64 k), (10, .pointer x), (145, .bool true)] (by simp only [b35, Bool.not_true, Bool.not_false]) ?_
                            clear b35
                            refine N_run 4 [(0, .int .u64 wv), (1, .int .i64 kind), (2, .int .i64 i), (7, .pointer none), (8, .slice (some (Addr.mk b_2 0 none)) 2 2), (9, .int .i64 k), (149, .bool true)] (fun w => by kernel_rfl) ?_
                            refine N_end (by kernel_rfl) ?_
                            refine S_then ?_
                            refine S_condT (.tmp 149) kk42 kk43 (by kernel_rfl) (by kernel_rfl) ?_
                            refine S_seq kk44 kk45 (by kernel_rfl) ?_
                            refine S_region 16 (Code.ops kk44) (by kernel_rfl) ?_
                            refine N_run 1 [(6, .bool false)] (fun w => by kernel_rfl) ?_
                            refine N_end (by kernel_rfl) ?_
                            refine S_then ?_
                            refine S_ret (by kernel_rfl) ?_
                            show At _ _ _ _ _ (Q .ret)
                            exact S_done (fn := Try.f9) [.bool false] hQ (show ResOK _ _ _ [.tmp 6] _ from .tmp (by kernel_rfl) (.nil)) h
                        · rw [if_neg c32] at h
                          have b33 : (x_5 != 0) = true := bne_iff_ne.mpr c32
                          refine N_env [(0, .int .u64 wv), (1, .int .i64 kind), (2, .int .i64 i), (7, .pointer none), (8, .slice (some (Addr.mk b_2 0 none)) 2 2), (9, .int .i64 k), (10, .pointer x), (139, .bool true)] (by simp only [b33, Bool.not_true, Bool.not_false]) ?_
                          clear b33
                          refine N_run 10 [(0, .int .u64 wv), (1, .int .i64 kind), (2, .int .i64 i), (7, .pointer none), (8, .slice (some (Addr.mk b_2 0 none)) 2 2), (9, .int .i64 k), (149, .bool true)] (fun w => by kernel_rfl) ?_
                          refine N_end (by kernel_rfl) ?_
                          refine S_then ?_
                          refine S_condT (.tmp 149) kk42 kk43 (by kernel_rfl) (by kernel_rfl) ?_
                          refine S_seq kk44 kk45 (by kernel_rfl) ?_
                          refine S_region 16 (Code.ops kk44) (by kernel_rfl) ?_
                          refine N_run 1 [(6, .bool false)] (fun w => by kernel_rfl) ?_
                          refine N_end (by kernel_rfl) ?_
                          refine S_then ?_
                          refine S_ret (by kernel_rfl) ?_
                          show At _ _ _ _ _ (Q .ret)
                          exact S_done (fn := Try.f9) [.bool false] hQ (show ResOK _ _ _ [.tmp 6] _ from .tmp (by kernel_rfl) (.nil)) h
                    · rw [if_neg c28] at h
                      have b29 : (x_3 != 3) = true := bne_iff_ne.mpr c28
                      refine N_env [(0, .int .u64 wv), (1, .int .i64 kind), (2, .int .i64 i), (7, .pointer none), (8, .slice (some (Addr.mk b_2 0 none)) 2 2), (9, .int .i64 k), (10, .pointer x), (128, .bool true)] (by simp only [b29, Bool.not_true, Bool.not_false]) ?_
                      clear b29
                      refine N_run 21 [(0, .int .u64 wv), (1, .int .i64 kind), (2, .int .i64 i), (7, .pointer none), (8, .slice (some (Addr.mk b_2 0 none)) 2 2), (9, .int .i64 k), (149, .bool true)] (fun w => by kernel_rfl) ?_
                      refine N_end (by kernel_rfl) ?_
                      refine S_then ?_
                      refine S_condT (.tmp 149) kk42 kk43 (by kernel_rfl) (by kernel_rfl) ?_
                      refine S_seq kk44 kk45 (by kernel_rfl) ?_
                      refine S_region 16 (Code.ops kk44) (by kernel_rfl) ?_
                      refine N_run 1 [(6, .bool false)] (fun w => by kernel_rfl) ?_
                      refine N_end (by kernel_rfl) ?_
                      refine S_then ?_
                      refine S_ret (by kernel_rfl) ?_
                      show At _ _ _ _ _ (Q .ret)
                      exact S_done (fn := Try.f9) [.bool false] hQ (show ResOK _ _ _ [.tmp 6] _ from .tmp (by kernel_rfl) (.nil)) h
                  · rw [if_neg c26] at h
                    have b27 : (x_2 != 3) = true := bne_iff_ne.mpr c26
                    refine N_env [(0, .int .u64 wv), (1, .int .i64 kind), (2, .int .i64 i), (7, .pointer none), (8, .slice (some (Addr.mk b_2 0 none)) 2 2), (9, .int .i64 k), (10, .pointer x), (119, .bool true)] (by simp only [b27, Bool.not_true, Bool.not_false]) ?_
                    clear b27
                    refine N_run 30 [(0, .int .u64 wv), (1, .int .i64 kind), (2, .int .i64 i), (7, .pointer none), (8, .slice (some (Addr.mk b_2 0 none)) 2 2), (9, .int .i64 k), (149, .bool true)] (fun w => by kernel_rfl) ?_
                    refine N_end (by kernel_rfl) ?_
                    refine S_then ?_
                    refine S_condT (.tmp 149) kk42 kk43 (by kernel_rfl) (by kernel_rfl) ?_
                    refine S_seq kk44 kk45 (by kernel_rfl) ?_
                    refine S_region 16 (Code.ops kk44) (by kernel_rfl) ?_
                    refine N_run 1 [(6, .bool false)] (fun w => by kernel_rfl) ?_
                    refine N_end (by kernel_rfl) ?_
                    refine S_then ?_
                    refine S_ret (by kernel_rfl) ?_
                    show At _ _ _ _ _ (Q .ret)
                    exact S_done (fn := Try.f9) [.bool false] hQ (show ResOK _ _ _ [.tmp 6] _ from .tmp (by kernel_rfl) (.nil)) h
                · rw [if_neg c24] at h
                  have b25 : (rb_7 != 3) = true := bne_iff_ne.mpr c24
                  refine N_env [(0, .int .u64 wv), (1, .int .i64 kind), (2, .int .i64 i), (7, .pointer none), (8, .slice (some (Addr.mk b_2 0 none)) 2 2), (9, .int .i64 k), (10, .pointer x), (112, .bool true)] (by simp only [b25, Bool.not_true, Bool.not_false]) ?_
                  clear b25
                  refine N_run 37 [(0, .int .u64 wv), (1, .int .i64 kind), (2, .int .i64 i), (7, .pointer none), (8, .slice (some (Addr.mk b_2 0 none)) 2 2), (9, .int .i64 k), (149, .bool true)] (fun w => by kernel_rfl) ?_
                  refine N_end (by kernel_rfl) ?_
                  refine S_then ?_
                  refine S_condT (.tmp 149) kk42 kk43 (by kernel_rfl) (by kernel_rfl) ?_
                  refine S_seq kk44 kk45 (by kernel_rfl) ?_
                  refine S_region 16 (Code.ops kk44) (by kernel_rfl) ?_
                  refine N_run 1 [(6, .bool false)] (fun w => by kernel_rfl) ?_
                  refine N_end (by kernel_rfl) ?_
                  refine S_then ?_
                  refine S_ret (by kernel_rfl) ?_
                  show At _ _ _ _ _ (Q .ret)
                  exact S_done (fn := Try.f9) [.bool false] hQ (show ResOK _ _ _ [.tmp 6] _ from .tmp (by kernel_rfl) (.nil)) h
              · rw [if_neg c22] at h
                have b23 : (rb_6 != 3) = true := bne_iff_ne.mpr c22
                refine N_env [(0, .int .u64 wv), (1, .int .i64 kind), (2, .int .i64 i), (7, .pointer none), (8, .slice (some (Addr.mk b_2 0 none)) 2 2), (9, .int .i64 k), (10, .pointer x), (24, .int .i64 rb_7), (108, .bool true)] (by simp only [b23, Bool.not_true, Bool.not_false]) ?_
                clear b23
                refine N_run 41 [(0, .int .u64 wv), (1, .int .i64 kind), (2, .int .i64 i), (7, .pointer none), (8, .slice (some (Addr.mk b_2 0 none)) 2 2), (9, .int .i64 k), (149, .bool true)] (fun w => by kernel_rfl) ?_
                refine N_end (by kernel_rfl) ?_
                refine S_then ?_
                refine S_condT (.tmp 149) kk42 kk43 (by kernel_rfl) (by kernel_rfl) ?_
                refine S_seq kk44 kk45 (by kernel_rfl) ?_
                refine S_region 16 (Code.ops kk44) (by kernel_rfl) ?_
                refine N_run 1 [(6, .bool false)] (fun w => by kernel_rfl) ?_
                refine N_end (by kernel_rfl) ?_
                refine S_then ?_
                refine S_ret (by kernel_rfl) ?_
                show At _ _ _ _ _ (Q .ret)
                exact S_done (fn := Try.f9) [.bool false] hQ (show ResOK _ _ _ [.tmp 6] _ from .tmp (by kernel_rfl) (.nil)) h
            · rw [if_neg c20] at h
              have b21 : (rb_5 != 3) = true := bne_iff_ne.mpr c20
              refine N_env [(0, .int .u64 wv), (1, .int .i64 kind), (2, .int .i64 i), (7, .pointer none), (8, .slice (some (Addr.mk b_2 0 none)) 2 2), (9, .int .i64 k), (10, .pointer x), (22, .int .i64 rb_6), (24, .int .i64 rb_7), (104, .bool true)] (by simp only [b21, Bool.not_true, Bool.not_false]) ?_
              clear b21
              refine N_run 45 [(0, .int .u64 wv), (1, .int .i64 kind), (2, .int .i64 i), (7, .pointer none), (8, .slice (some (Addr.mk b_2 0 none)) 2 2), (9, .int .i64 k), (149, .bool true)] (fun w => by kernel_rfl) ?_
              refine N_end (by kernel_rfl) ?_
              refine S_then ?_
              refine S_condT (.tmp 149) kk42 kk43 (by kernel_rfl) (by kernel_rfl) ?_
              refine S_seq kk44 kk45 (by kernel_rfl) ?_
              refine S_region 16 (Code.ops kk44) (by kernel_rfl) ?_
              refine N_run 1 [(6, .bool false)] (fun w => by kernel_rfl) ?_
              refine N_end (by kernel_rfl) ?_
              refine S_then ?_
              refine S_ret (by kernel_rfl) ?_
              show At _ _ _ _ _ (Q .ret)
              exact S_done (fn := Try.f9) [.bool false] hQ (show ResOK _ _ _ [.tmp 6] _ from .tmp (by kernel_rfl) (.nil)) h
          · rw [if_neg c18] at h
            have b19 : (rb_4 != 2) = true := bne_iff_ne.mpr c18
            refine N_env [(0, .int .u64 wv), (1, .int .i64 kind), (2, .int .i64 i), (7, .pointer none), (8, .slice (some (Addr.mk b_2 0 none)) 2 2), (9, .int .i64 k), (10, .pointer x), (20, .int .i64 rb_5), (22, .int .i64 rb_6), (24, .int .i64 rb_7), (100, .bool true)] (by simp only [b19, Bool.not_true, Bool.not_false]) ?_
            clear b19
            refine N_run 49 [(0, .int .u64 wv), (1, .int .i64 kind), (2, .int .i64 i), (7, .pointer none), (8, .slice (some (Addr.mk b_2 0 none)) 2 2), (9, .int .i64 k), (149, .bool true)] (fun w => by kernel_rfl) ?_
            refine N_end (by kernel_rfl) ?_
            refine S_then ?_
            refine S_condT (.tmp 149) kk42 kk43 (by kernel_rfl) (by kernel_rfl) ?_
            refine S_seq kk44 kk45 (by kernel_rfl) ?_
            refine S_region 16 (Code.ops kk44) (by kernel_rfl) ?_
            refine N_run 1 [(6, .bool false)] (fun w => by kernel_rfl) ?_
            refine N_end (by kernel_rfl) ?_
            refine S_then ?_
            refine S_ret (by kernel_rfl) ?_
            show At _ _ _ _ _ (Q .ret)
            exact S_done (fn := Try.f9) [.bool false] hQ (show ResOK _ _ _ [.tmp 6] _ from .tmp (by kernel_rfl) (.nil)) h
        · rw [if_neg c16] at h
          have b17 : (rb_3 != 2) = true := bne_iff_ne.mpr c16
          refine N_env [(0, .int .u64 wv), (1, .int .i64 kind), (2, .int .i64 i), (7, .pointer none), (8, .slice (some (Addr.mk b_2 0 none)) 2 2), (9, .int .i64 k), (10, .pointer x), (18, .int .i64 rb_4), (20, .int .i64 rb_5), (22, .int .i64 rb_6), (24, .int .i64 rb_7), (96, .bool true)] (by simp only [b17, Bool.not_true, Bool.not_false]) ?_
          clear b17
          refine N_run 53 [(0, .int .u64 wv), (1, .int .i64 kind), (2, .int .i64 i), (7, .pointer none), (8, .slice (some (Addr.mk b_2 0 none)) 2 2), (9, .int .i64 k), (149, .bool true)] (fun w => by kernel_rfl) ?_
          refine N_end (by kernel_rfl) ?_
          refine S_then ?_
          refine S_condT (.tmp 149) kk42 kk43 (by kernel_rfl) (by kernel_rfl) ?_
          refine S_seq kk44 kk45 (by kernel_rfl) ?_
          refine S_region 16 (Code.ops kk44) (by kernel_rfl) ?_
          refine N_run 1 [(6, .bool false)] (fun w => by kernel_rfl) ?_
          refine N_end (by kernel_rfl) ?_
          refine S_then ?_
          refine S_ret (by kernel_rfl) ?_
          show At _ _ _ _ _ (Q .ret)
          exact S_done (fn := Try.f9) [.bool false] hQ (show ResOK _ _ _ [.tmp 6] _ from .tmp (by kernel_rfl) (.nil)) h
      · rw [if_neg c14] at h
        have b15 : (rb_2 != 2) = true := bne_iff_ne.mpr c14
        refine N_env [(0, .int .u64 wv), (1, .int .i64 kind), (2, .int .i64 i), (7, .pointer none), (8, .slice (some (Addr.mk b_2 0 none)) 2 2), (9, .int .i64 k), (10, .pointer x), (16, .int .i64 rb_3), (18, .int .i64 rb_4), (20, .int .i64 rb_5), (22, .int .i64 rb_6), (24, .int .i64 rb_7), (92, .bool true)] (by simp only [b15, Bool.not_true, Bool.not_false]) ?_
        clear b15
        refine N_run 57 [(0, .int .u64 wv), (1, .int .i64 kind), (2, .int .i64 i), (7, .pointer none), (8, .slice (some (Addr.mk b_2 0 none)) 2 2), (9, .int .i64 k), (149, .bool true)] (fun w => by kernel_rfl) ?_
        refine N_end (by kernel_rfl) ?_
        refine S_then ?_
        refine S_condT (.tmp 149) kk42 kk43 (by kernel_rfl) (by kernel_rfl) ?_
        refine S_seq kk44 kk45 (by kernel_rfl) ?_
        refine S_region 16 (Code.ops kk44) (by kernel_rfl) ?_
        refine N_run 1 [(6, .bool false)] (fun w => by kernel_rfl) ?_
        refine N_end (by kernel_rfl) ?_
        refine S_then ?_
        refine S_ret (by kernel_rfl) ?_
        show At _ _ _ _ _ (Q .ret)
        exact S_done (fn := Try.f9) [.bool false] hQ (show ResOK _ _ _ [.tmp 6] _ from .tmp (by kernel_rfl) (.nil)) h
    · rw [if_neg c12] at h
      have b13 : (rb != 2) = true := bne_iff_ne.mpr c12
      refine N_env [(0, .int .u64 wv), (1, .int .i64 kind), (2, .int .i64 i), (7, .pointer none), (8, .slice (some (Addr.mk b_2 0 none)) 2 2), (9, .int .i64 k), (10, .pointer x), (14, .int .i64 rb_2), (16, .int .i64 rb_3), (18, .int .i64 rb_4), (20, .int .i64 rb_5), (22, .int .i64 rb_6), (24, .int .i64 rb_7), (88, .bool true)] (by simp only [b13, Bool.not_true, Bool.not_false]) ?_
      clear b13
      refine N_run 61 [(0, .int .u64 wv), (1, .int .i64 kind), (2, .int .i64 i), (7, .pointer none), (8, .slice (some (Addr.mk b_2 0 none)) 2 2), (9, .int .i64 k), (149, .bool true)] (fun w => by kernel_rfl) ?_
      refine N_end (by kernel_rfl) ?_
      refine S_then ?_
      refine S_condT (.tmp 149) kk42 kk43 (by kernel_rfl) (by kernel_rfl) ?_
      refine S_seq kk44 kk45 (by kernel_rfl) ?_
      refine S_region 16 (Code.ops kk44) (by kernel_rfl) ?_
      refine N_run 1 [(6, .bool false)] (fun w => by kernel_rfl) ?_
      refine N_end (by kernel_rfl) ?_
      refine S_then ?_
      refine S_ret (by kernel_rfl) ?_
      show At _ _ _ _ _ (Q .ret)
      exact S_done (fn := Try.f9) [.bool false] hQ (show ResOK _ _ _ [.tmp 6] _ from .tmp (by kernel_rfl) (.nil)) h
  · rw [if_neg c8] at h
    have b9 : (decide (k < (2 : Int))) = false := decide_eq_false c8
    refine S_env [(0, .int .u64 wv), (1, .int .i64 kind), (2, .int .i64 i), (7, .pointer none), (8, .slice (some (Addr.mk b_2 0 none)) 2 2), (9, .int .i64 k), (32, .bool false)] (by simp only [b9, Bool.not_true, Bool.not_false]) ?_
    clear b9
    refine S_condF (.tmp 32) kk17 kk18 (by kernel_rfl) (by kernel_rfl) ?_
    refine S_exit 0 (by kernel_rfl) ?_
    refine S_exitThen ?_
    refine S_exitThen ?_
    refine S_exitHere ?_
    refine S_then ?_
    refine S_seq kk46 kk47 (by kernel_rfl) ?_
    refine S_region 17 (Code.ops kk46) (by kernel_rfl) ?_
    refine N_run 1 [(150, .pointer none)] (fun w => by kernel_rfl) ?_
    refine N_call (some 151) 51 #[.pointer none] (fun w => by kernel_rfl) h ?_; clear h
    rintro v_15 H18 ⟨x_8, rfl, h⟩
    refine ⟨[(151, .pointer x_8)], ps (by kernel_rfl), ?_⟩
    rcases x_8 with _ | x8A
    · rw [onPtr_none] at h
      refine N_run 2 [(153, .bool true)] (fun w => by kernel_rfl) ?_
      refine N_call (some 154) 24 #[] (fun w => by kernel_rfl) h ?_; clear h
      rintro v_16 H19 ⟨x_9, rfl, h⟩
      refine ⟨[(153, .bool true), (154, .bool x_9)], ps (by kernel_rfl), ?_⟩
      refine N_run 2 [(6, .bool x_9)] (fun w => by kernel_rfl) ?_
      refine N_end (by kernel_rfl) ?_
      refine S_then ?_
      refine S_ret (by kernel_rfl) ?_
      show At _ _ _ _ _ (Q .ret)
      exact S_done (fn := Try.f9) [.bool x_9] hQ (show ResOK _ _ _ [.tmp 6] _ from .tmp (by kernel_rfl) (.nil)) h
    · rw [onPtr_some] at h
      refine N_run 5 [(6, .bool false)] (fun w => by kernel_rfl) ?_
      refine N_end (by kernel_rfl) ?_
      refine S_then ?_
      refine S_ret (by kernel_rfl) ?_
      show At _ _ _ _ _ (Q .ret)
      exact S_done (fn := Try.f9) [.bool false] hQ (show ResOK _ _ _ [.tmp 6] _ from .tmp (by kernel_rfl) (.nil)) h
end morainelaw10_ObjNobody

end Go.Proofs.Ytfohlkiikppefaa
