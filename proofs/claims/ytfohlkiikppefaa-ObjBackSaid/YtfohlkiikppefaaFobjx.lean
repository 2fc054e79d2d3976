/-
  Written by a program of mine (gen.py): for functions of this translation a predicate transformer over heaps (.pt), and the proof that it is sound for the call (.link).
-/
import Derived.Test.YtfohlkiikppefaaFnsC
set_option linter.unusedSimpArgs false
set_option linter.unusedVariables false
set_option maxHeartbeats 1000000
noncomputable section
namespace Go.Proofs.Ytfohlkiikppefaa
open Go
/-! (*moraine/obj.Heap).String -/
namespace obj_Heap_String
def kk0 := Func.code Try.f39
def kk1 := Code.fa kk0
def kk2 := Code.fb kk0
def kk3 := Code.fa kk2
def kk4 := Code.fb kk2
def kk5 := Code.fa kk4
def kk6 := Code.fb kk4
def kk7 := Code.fa kk5
def kk8 := Code.fb kk5
def kk9 := Code.fa kk8
def kk10 := Code.fa kk9
def kk11 := Code.fa kk10
def kk12 := Code.fb kk10
def kk13 := Code.fa kk12
def kk14 := Code.fb kk12
def kk15 := Code.fa kk13
def kk16 := Code.fb kk13
def kk17 := Code.fa kk14
def kk18 := Code.fa kk17
def kk19 := Code.fb kk17
def kk20 := Code.fa kk19
def kk21 := Code.fb kk19
def kk22 := Code.fa kk21
def kk23 := Code.fb kk21
def kk24 := Code.fa kk23
def kk25 := Code.fb kk23
def kk26 := Code.fa kk24
def kk27 := Code.fb kk24
def kk28 := Code.fa kk6
def kk29 := Code.fb kk6
end obj_Heap_String
def obj_Heap_String.pt (hv : Option Addr) (s : ByteArray) (H : Array Obj) (R : Value → Array Obj → Prop) : Prop :=
 ∀ (b : Nat) (H1 : Array Obj), b = H.size → H1 = H.push (.stringIter s 0) →
 ∃ (I11 : (Option Addr) → Nat → Nat → Array Obj → Prop) (m11 : (Option Addr) → Nat → Nat → Array Obj → Nat), I11 none 0 0 H1 ∧ ∀ (lB : Option Addr) (lN : Nat) (lC : Nat) (H2 : Array Obj), I11 lB lN lC H2 →
 ∃ (s_2 : ByteArray) (pos : Nat), H2[b]? = some (.stringIter s_2 pos) ∧
 if pos < s_2.size then (∀ H3 : Array Obj, H3 = setBlk H2 b (.stringIter s_2 (pos + (Utf8.decode s_2 pos).2)) →
  ∀ (b_2 : Nat) (H4 : Array Obj), b_2 = H3.size → H4 = H3.push (.cells #[.int .u64 (IntKind.wrap .u64 ((Utf8.decode s_2 pos).1 : Int))] 29) →
  appendK 1 29 8 [.int .u64 0] lB lN lC (some (Addr.mk b_2 0 none)) 1 H4 (fun ap apC H5 =>
   if ((lN + 1) : Int) > 62 then (
    R (.tuple #[.int .u64 0, .int .i64 6]) H5)
   else
   (I11 ap (lN + 1) apC H5 ∧ m11 ap (lN + 1) apC H5 < m11 lB lN lC H2)))
 else
 obj_Heap_Make.C hv 2 0 lB lN lC H2 (fun v H6 => ∃ ra : Int, ∃ rb : Int, v = .tuple #[.int .u64 ra, .int .i64 rb] ∧ 
  R (.tuple #[.int .u64 ra, .int .i64 rb]) H6)
namespace obj_Heap_String
set_option maxRecDepth 100000 in
theorem link {hv : Option Addr} {s : ByteArray} {H : Array Obj} {R : Value → Array Obj → Prop} (h : pt hv s H R) : C hv s H R := by
  refine S_enter (fn := Try.f39) (c := kk0) 27 Try.func39 (by kernel_rfl) (by kernel_rfl) (Nat.le_of_ble_eq_true (by kernel_rfl)) ?_
  intro w0 Q hQ
  unfold pt at h
  refine S_sub [(0, .pointer hv), (1, .string s)] (sb (by kernel_rfl)) ?_
  refine S_seq kk1 kk2 (by kernel_rfl) ?_
  refine S_region 0 (Code.ops kk1) (by kernel_rfl) ?_
  refine N_run 2 [(0, .pointer hv), (1, .string s)] (fun w => by kernel_rfl) ?_
  refine N_end (by kernel_rfl) ?_
  refine S_then ?_
  refine S_seq kk3 kk4 (by kernel_rfl) ?_
  refine S_region 1 (Code.ops kk3) (by kernel_rfl) ?_
  refine N_run 1 [(0, .pointer hv), (1, .string s), (6, .slice none 0 0)] (fun w => by kernel_rfl) ?_
  refine N_end (by kernel_rfl) ?_
  refine S_then ?_
  refine S_seq kk5 kk6 (by kernel_rfl) ?_
  refine S_seq kk7 kk8 (by kernel_rfl) ?_
  refine S_region 2 (Code.ops kk7) (by kernel_rfl) ?_
  refine N_run 1 [(0, .pointer hv), (6, .slice none 0 0), (9, .string s)] (fun w => by kernel_rfl) ?_
  refine N_new (some 10) (fun b => .pointer (some (Addr.mk b 0 none))) (.stringIter s 0) (fun w => by kernel_rfl) ?_
  intro b H1 e1 e2
  replace h := h b H1 e1 e2
  refine ⟨[(0, .pointer hv), (6, .slice none 0 0), (10, .pointer (some (Addr.mk b 0 none)))], ps (by kernel_rfl), ?_⟩
  refine N_end (by kernel_rfl) ?_
  refine S_then ?_
  refine S_block 0 kk9 (by kernel_rfl) ?_
  obtain ⟨I11, m11, i3, i4⟩ := h
  refine S_loop (x := kk10) (σ := (Option Addr) × Nat × Nat) (fun s_ => [(0, .pointer hv), (6, .slice s_.1 s_.2.1 s_.2.2), (10, .pointer (some (Addr.mk b 0 none)))]) (fun s_ H => I11 s_.1 s_.2.1 s_.2.2 H) (fun s_ H => m11 s_.1 s_.2.1 s_.2.2 H) ((none, 0, 0) : (Option Addr) × Nat × Nat) (by kernel_rfl) i3 (sb (by kernel_rfl)) ?_
  rintro ⟨lB, lN, lC⟩ H2 i5
  have h := i4 lB lN lC H2 i5
  refine S_sub [(0, .pointer hv), (6, .slice lB lN lC), (10, .pointer (some (Addr.mk b 0 none)))] (sb (by kernel_rfl)) ?_
  refine S_seq kk11 kk12 (by kernel_rfl) ?_
  refine S_region 3 (Code.ops kk11) (by kernel_rfl) ?_
  obtain ⟨s_2, pos, q6, h⟩ := h
  by_cases c7 : pos < s_2.size
  · rw [if_pos c7] at h
    refine N_op (some 11) (nextN (.pointer (some (Addr.mk b 0 none))) true 0) _ (fun w => by kernel_rfl) (next_go q6 c7) ?_
    rintro _ H3 ⟨rfl, e12⟩
    replace h := h H3 (by assumption)
    refine ⟨[(0, .pointer hv), (6, .slice lB lN lC), (10, .pointer (some (Addr.mk b 0 none))), (11, .tuple #[.bool true, .int .i64 (pos : Int), .int .i32 ((Utf8.decode s_2 pos).1 : Int)])], ps (by kernel_rfl), ?_⟩
    refine N_run 1 [(0, .pointer hv), (6, .slice lB lN lC), (10, .pointer (some (Addr.mk b 0 none))), (11, .tuple #[.bool true, .int .i64 (pos : Int), .int .i32 ((Utf8.decode s_2 pos).1 : Int)]), (12, .bool true)] (fun w => by kernel_rfl) ?_
    refine N_end (by kernel_rfl) ?_
    refine S_then ?_
    refine S_seq kk13 kk14 (by kernel_rfl) ?_
    refine S_condT (.tmp 12) kk15 kk16 (by kernel_rfl) (by kernel_rfl) ?_
    refine S_skip (by kernel_rfl) ?_
    refine S_then ?_
    refine S_block 1 kk17 (by kernel_rfl) ?_
    refine S_seq kk18 kk19 (by kernel_rfl) ?_
    refine S_region 4 (Code.ops kk18) (by kernel_rfl) ?_
    refine N_run 2 [(0, .pointer hv), (6, .slice lB lN lC), (8, .int .i32 ((Utf8.decode s_2 pos).1 : Int)), (10, .pointer (some (Addr.mk b 0 none)))] (fun w => by kernel_rfl) ?_
    refine N_end (by kernel_rfl) ?_
    refine S_then ?_
    refine S_seq kk20 kk21 (by kernel_rfl) ?_
    refine S_region 5 (Code.ops kk20) (by kernel_rfl) ?_
    refine N_run 3 [(0, .pointer hv), (10, .pointer (some (Addr.mk b 0 none))), (14, .slice lB lN lC), (16, .int .u64 (IntKind.wrap .u64 ((Utf8.decode s_2 pos).1 : Int)))] (fun w => by kernel_rfl) ?_
    refine N_new (some 17) (fun b => .slice (some (Addr.mk b 0 none)) 1 1) (.cells #[.int .u64 (IntKind.wrap .u64 ((Utf8.decode s_2 pos).1 : Int))] 29) (fun w => by kernel_rfl) ?_
    intro b_2 H4 e8 e9
    replace h := h b_2 H4 e8 e9
    refine ⟨[(0, .pointer hv), (10, .pointer (some (Addr.mk b 0 none))), (14, .slice lB lN lC), (17, .slice (some (Addr.mk b_2 0 none)) 1 1)], ps (by kernel_rfl), ?_⟩
    refine N_op (some 18) (appendN #[39, 39] 39 #[.slice lB lN lC, .slice (some (Addr.mk b_2 0 none)) 1 1]) _ (fun w => by kernel_rfl) (ss_append (T := 29) (sz := 1) (bytes := 8) (zero := (.int .u64 0 : Value)) Try.underlying39 Try.underlying39 rfl (show Try.prog.info? 29 = some Try.t29 from by kernel_rfl) (by kernel_rfl) (by kernel_rfl) (by decide) (by kernel_rfl) (by first | exact h | (simpa only [Value.cells, List.toList_toArray] using h))) ?_
    rintro _ H5 ⟨ap, apC, rfl, h⟩
    refine ⟨[(0, .pointer hv), (10, .pointer (some (Addr.mk b 0 none))), (18, .slice ap (lN + 1) apC)], ps (by kernel_rfl), ?_⟩
    refine N_run 1 [(0, .pointer hv), (6, .slice ap (lN + 1) apC), (10, .pointer (some (Addr.mk b 0 none)))] (fun w => by kernel_rfl) ?_
    refine N_end (by kernel_rfl) ?_
    refine S_then ?_
    refine S_seq kk22 kk23 (by kernel_rfl) ?_
    refine S_region 6 (Code.ops kk22) (by kernel_rfl) ?_
    refine N_run 3 [(0, .pointer hv), (6, .slice ap (lN + 1) apC), (10, .pointer (some (Addr.mk b 0 none))), (21, .bool (decide (((lN + 1) : Int) > 62)))] (fun w => by kernel_rfl) ?_
    refine N_end (by kernel_rfl) ?_
    refine S_then ?_
    by_cases c10 : ((lN + 1) : Int) > 62
    · rw [if_pos c10] at h
      have b11 : (decide (((lN + 1) : Int) > 62)) = true := decide_eq_true c10
      refine S_env [(0, .pointer hv), (6, .slice ap (lN + 1) apC), (10, .pointer (some (Addr.mk b 0 none))), (21, .bool true)] (by simp only [b11, Bool.not_true, Bool.not_false]) ?_
      clear b11
      refine S_condT (.tmp 21) kk24 kk25 (by kernel_rfl) (by kernel_rfl) ?_
      refine S_seq kk26 kk27 (by kernel_rfl) ?_
      refine S_region 7 (Code.ops kk26) (by kernel_rfl) ?_
      refine N_run 2 [(4, .int .u64 0), (5, .int .i64 6)] (fun w => by kernel_rfl) ?_
      refine N_end (by kernel_rfl) ?_
      refine S_then ?_
      refine S_ret (by kernel_rfl) ?_
      show At _ _ _ _ _ (Q .ret)
      exact S_done (fn := Try.f39) [.int .u64 0, .int .i64 6] hQ (show ResOK _ _ _ [.tmp 4, .tmp 5] _ from .tmp (by kernel_rfl) (.tmp (by kernel_rfl) (.nil))) h
    · rw [if_neg c10] at h
      have b11 : (decide (((lN + 1) : Int) > 62)) = false := decide_eq_false c10
      refine S_env [(0, .pointer hv), (6, .slice ap (lN + 1) apC), (10, .pointer (some (Addr.mk b 0 none))), (21, .bool false)] (by simp only [b11, Bool.not_true, Bool.not_false]) ?_
      clear b11
      refine S_condF (.tmp 21) kk24 kk25 (by kernel_rfl) (by kernel_rfl) ?_
      refine S_skip (by kernel_rfl) ?_
      refine S_blockEnd ?_
      refine S_then ?_
      exact S_round ((ap, (lN + 1), apC) : (Option Addr) × Nat × Nat) (sb (by kernel_rfl)) h
  · rw [if_neg c7] at h
    refine N_op (some 11) (nextN (.pointer (some (Addr.mk b 0 none))) true 0) _ (fun w => by kernel_rfl) (next_end q6 c7) ?_
    rintro _ _ ⟨rfl, rfl⟩
    refine ⟨[(0, .pointer hv), (6, .slice lB lN lC), (10, .pointer (some (Addr.mk b 0 none))), (11, .tuple #[.bool false])], ps (by kernel_rfl), ?_⟩
    refine N_run 1 [(0, .pointer hv), (6, .slice lB lN lC), (10, .pointer (some (Addr.mk b 0 none))), (11, .tuple #[.bool false]), (12, .bool false)] (fun w => by kernel_rfl) ?_
    refine N_end (by kernel_rfl) ?_
    refine S_then ?_
    refine S_seq kk13 kk14 (by kernel_rfl) ?_
    refine S_condF (.tmp 12) kk15 kk16 (by kernel_rfl) (by kernel_rfl) ?_
    refine S_exit 0 (by kernel_rfl) ?_
    refine S_exitThen ?_
    refine S_exitThen ?_
    refine S_exitHere ?_
    refine S_then ?_
    refine S_seq kk28 kk29 (by kernel_rfl) ?_
    refine S_region 8 (Code.ops kk28) (by kernel_rfl) ?_
    refine N_run 2 [(22, .pointer hv), (23, .slice lB lN lC)] (fun w => by kernel_rfl) ?_
    refine N_call (some 24) 30 #[.pointer hv, .int .i64 2, .int .u64 0, .slice lB lN lC] (fun w => by kernel_rfl) h ?_; clear h
    rintro v H6 ⟨ra, rb, rfl, h⟩
    refine ⟨[(24, .tuple #[.int .u64 ra, .int .i64 rb])], ps (by kernel_rfl), ?_⟩
    refine N_run 4 [(4, .int .u64 ra), (5, .int .i64 rb)] (fun w => by kernel_rfl) ?_
    refine N_end (by kernel_rfl) ?_
    refine S_then ?_
    refine S_ret (by kernel_rfl) ?_
    show At _ _ _ _ _ (Q .ret)
    exact S_done (fn := Try.f39) [.int .u64 ra, .int .i64 rb] hQ (show ResOK _ _ _ [.tmp 4, .tmp 5] _ from .tmp (by kernel_rfl) (.tmp (by kernel_rfl) (.nil))) h
end obj_Heap_String

/-! (*moraine/obj.Heap).Text -/
namespace obj_Heap_Text
def kk0 := Func.code Try.f40
def kk1 := Code.fa kk0
def kk2 := Code.fb kk0
def kk3 := Code.fa kk2
def kk4 := Code.fb kk2
def kk5 := Code.fa kk4
def kk6 := Code.fb kk4
def kk7 := Code.fa kk5
def kk8 := Code.fb kk5
def kk9 := Code.fa kk8
def kk10 := Code.fb kk8
def kk11 := Code.fa kk6
def kk12 := Code.fb kk6
def kk13 := Code.fa kk12
def kk14 := Code.fb kk12
def kk15 := Code.fa kk13
def kk16 := Code.fb kk13
def kk17 := Code.fa kk16
def kk18 := Code.fa kk17
def kk19 := Code.fa kk18
def kk20 := Code.fb kk18
def kk21 := Code.fa kk20
def kk22 := Code.fb kk20
def kk23 := Code.fa kk21
def kk24 := Code.fb kk21
def kk25 := Code.fa kk22
def kk26 := Code.fb kk22
def kk27 := Code.fa kk25
def kk28 := Code.fa kk27
def kk29 := Code.fb kk27
def kk30 := Code.fa kk29
def kk31 := Code.fb kk29
def kk32 := Code.fa kk30
def kk33 := Code.fb kk30
def kk34 := Code.fa kk33
def kk35 := Code.fb kk33
def kk36 := Code.fa kk14
def kk37 := Code.fb kk14
def kk38 := Code.fa kk9
def kk39 := Code.fb kk9
end obj_Heap_Text
def obj_Heap_Text.pt (hv : Option Addr) (wv : Int) (H : Array Obj) (R : Value → Array Obj → Prop) : Prop :=
 obj_Heap_words.C hv wv 2 H (fun v H1 => ∃ raB : Option Addr, ∃ raN : Nat, ∃ raC : Nat, ∃ rb : Bool, v = .tuple #[.slice raB raN raC, .bool rb] ∧ 
  if rb = true then (
   ∃ (I19 : (Option Addr) → Nat → Nat → Int → Array Obj → Prop) (m19 : (Option Addr) → Nat → Nat → Int → Array Obj → Nat), I19 none 0 0 0 H1 ∧ ∀ (sB : Option Addr) (sN : Nat) (sC : Nat) (s21 : Int) (H2 : Array Obj), I19 sB sN sC s21 H2 →
   if s21 < (raN : Int) then (
    ∃ raBA : Addr, raB = some raBA ∧
    ((0 : Int) ≤ s21 ∧ s21 < (raN : Int)) ∧
    ∃ x : Int, hat H2 (raBA.add (Int.toNat s21 * 1)) = some (.int .u64 x) ∧
    if x > 1114111 then (
     ∀ (b : Nat) (H3 : Array Obj), b = H2.size → H3 = H2.push (.cells #[.int .i32 (IntKind.wrap .i32 65533)] 21) →
     appendK 1 21 4 [.int .i32 0] sB sN sC (some (Addr.mk b 0 none)) 1 H3 (fun ap apC H4 =>
      (I19 ap (sN + 1) apC (IntKind.wrap .i64 (s21 + 1)) H4 ∧ m19 ap (sN + 1) apC (IntKind.wrap .i64 (s21 + 1)) H4 < m19 sB sN sC s21 H2)))
    else
    ∀ (b_2 : Nat) (H5 : Array Obj), b_2 = H2.size → H5 = H2.push (.cells #[.int .i32 (IntKind.wrap .i32 x)] 21) →
    appendK 1 21 4 [.int .i32 0] sB sN sC (some (Addr.mk b_2 0 none)) 1 H5 (fun ap_2 apC_2 H6 =>
     (I19 ap_2 (sN + 1) apC_2 (IntKind.wrap .i64 (s21 + 1)) H6 ∧ m19 ap_2 (sN + 1) apC_2 (IntKind.wrap .i64 (s21 + 1)) H6 < m19 sB sN sC s21 H2)))
   else
   ∃ rs : List Int, (SrcAt H2 sB (rs.map (Value.int .i32)) ∧ (sB ≠ none → rs.length = sN)) ∧
   R (.tuple #[.string (runesStr rs), .int .i64 0]) H2)
  else
  R (.tuple #[.string (ByteArray.mk #[]), .int .i64 3]) H1)
namespace obj_Heap_Text
set_option maxRecDepth 100000 in
theorem link {hv : Option Addr} {wv : Int} {H : Array Obj} {R : Value → Array Obj → Prop} (h : pt hv wv H R) : C hv wv H R := by
  refine S_enter (fn := Try.f40) (c := kk0) 35 Try.func40 (by kernel_rfl) (by kernel_rfl) (Nat.le_of_ble_eq_true (by kernel_rfl)) ?_
  intro w0 Q hQ
  unfold pt at h
  refine S_sub [(0, .pointer hv), (1, .int .u64 wv)] (sb (by kernel_rfl)) ?_
  refine S_seq kk1 kk2 (by kernel_rfl) ?_
  refine S_region 0 (Code.ops kk1) (by kernel_rfl) ?_
  refine N_run 2 [(0, .pointer hv), (1, .int .u64 wv)] (fun w => by kernel_rfl) ?_
  refine N_end (by kernel_rfl) ?_
  refine S_then ?_
  refine S_seq kk3 kk4 (by kernel_rfl) ?_
  refine S_region 1 (Code.ops kk3) (by kernel_rfl) ?_
  refine N_run 2 [(12, .pointer hv), (13, .int .u64 wv)] (fun w => by kernel_rfl) ?_
  refine N_call (some 14) 68 #[.pointer hv, .int .u64 wv, .int .i64 2] (fun w => by kernel_rfl) h ?_; clear h
  rintro v H1 ⟨raB, raN, raC, rb, rfl, h⟩
  refine ⟨[(14, .tuple #[.slice raB raN raC, .bool rb])], ps (by kernel_rfl), ?_⟩
  refine N_run 5 [(6, .slice raB raN raC), (7, .bool rb)] (fun w => by kernel_rfl) ?_
  refine N_end (by kernel_rfl) ?_
  refine S_then ?_
  refine S_seq kk5 kk6 (by kernel_rfl) ?_
  refine S_seq kk7 kk8 (by kernel_rfl) ?_
  refine S_region 2 (Code.ops kk7) (by kernel_rfl) ?_
  refine N_run 2 [(6, .slice raB raN raC), (18, .bool (!rb))] (fun w => by kernel_rfl) ?_
  refine N_end (by kernel_rfl) ?_
  refine S_then ?_
  by_cases c1 : rb = true
  · rw [if_pos c1] at h
    have b2 : (!rb) = false := congrArg Bool.not (c1)
    have b22 : rb = true := c1
    refine S_env [(6, .slice raB raN raC), (18, .bool false)] (by simp only [b2, b22, Bool.not_true, Bool.not_false]) ?_
    clear b2 b22
    refine S_condF (.tmp 18) kk9 kk10 (by kernel_rfl) (by kernel_rfl) ?_
    refine S_skip (by kernel_rfl) ?_
    refine S_then ?_
    refine S_seq kk11 kk12 (by kernel_rfl) ?_
    refine S_region 4 (Code.ops kk11) (by kernel_rfl) ?_
    refine N_run 1 [(6, .slice raB raN raC), (8, .slice none 0 0)] (fun w => by kernel_rfl) ?_
    refine N_end (by kernel_rfl) ?_
    refine S_then ?_
    refine S_seq kk13 kk14 (by kernel_rfl) ?_
    refine S_seq kk15 kk16 (by kernel_rfl) ?_
    refine S_region 5 (Code.ops kk15) (by kernel_rfl) ?_
    refine N_run 3 [(8, .slice none 0 0), (19, .slice raB raN raC), (20, .int .i64 (raN : Int)), (21, .int .i64 0)] (fun w => by kernel_rfl) ?_
    refine N_end (by kernel_rfl) ?_
    refine S_then ?_
    refine S_block 0 kk17 (by kernel_rfl) ?_
    obtain ⟨I19, m19, i3, i4⟩ := h
    refine S_loop (x := kk18) (σ := (Option Addr) × Nat × Nat × Int) (fun s_ => [(8, .slice s_.1 s_.2.1 s_.2.2.1), (19, .slice raB raN raC), (20, .int .i64 (raN : Int)), (21, .int .i64 s_.2.2.2)]) (fun s_ H => I19 s_.1 s_.2.1 s_.2.2.1 s_.2.2.2 H) (fun s_ H => m19 s_.1 s_.2.1 s_.2.2.1 s_.2.2.2 H) ((none, 0, 0, 0) : (Option Addr) × Nat × Nat × Int) (by kernel_rfl) i3 (sb (by kernel_rfl)) ?_
    rintro ⟨sB, sN, sC, s21⟩ H2 i5
    have h := i4 sB sN sC s21 H2 i5
    refine S_sub [(8, .slice sB sN sC), (19, .slice raB raN raC), (20, .int .i64 (raN : Int)), (21, .int .i64 s21)] (sb (by kernel_rfl)) ?_
    refine S_seq kk19 kk20 (by kernel_rfl) ?_
    refine S_region 6 (Code.ops kk19) (by kernel_rfl) ?_
    refine N_run 1 [(8, .slice sB sN sC), (19, .slice raB raN raC), (20, .int .i64 (raN : Int)), (21, .int .i64 s21), (22, .bool (decide (s21 < (raN : Int))))] (fun w => by kernel_rfl) ?_
    refine N_end (by kernel_rfl) ?_
    refine S_then ?_
    refine S_seq kk21 kk22 (by kernel_rfl) ?_
    by_cases c6 : s21 < (raN : Int)
    · rw [if_pos c6] at h
      have b7 : (decide (s21 < (raN : Int))) = true := decide_eq_true c6
      refine S_env [(8, .slice sB sN sC), (19, .slice raB raN raC), (20, .int .i64 (raN : Int)), (21, .int .i64 s21), (22, .bool true)] (by simp only [b7, Bool.not_true, Bool.not_false]) ?_
      clear b7
      refine S_condT (.tmp 22) kk23 kk24 (by kernel_rfl) (by kernel_rfl) ?_
      refine S_skip (by kernel_rfl) ?_
      refine S_then ?_
      refine S_seq kk25 kk26 (by kernel_rfl) ?_
      refine S_block 1 kk27 (by kernel_rfl) ?_
      refine S_seq kk28 kk29 (by kernel_rfl) ?_
      refine S_region 7 (Code.ops kk28) (by kernel_rfl) ?_
      refine N_sub [(8, .slice sB sN sC), (19, .slice raB raN raC), (20, .int .i64 (raN : Int)), (21, .int .i64 s21)] (sb (by kernel_rfl)) ?_
      obtain ⟨raBA, rfl, h⟩ := h
      obtain ⟨q8, h⟩ := h
      refine N_val (some 23) (indexAtN 39 (.slice (some raBA) raN raC) (.int .i64 s21)) (.pointer (some (raBA.add (Int.toNat s21 * 1)))) (fun w => by kernel_rfl) (fun w _ => indexAt_run (P := Try.prog) (t := 39) (elem := 29) (sz := 1) (a := raBA) (len := raN) (cap := raC) (k := .i64) (i := s21) Try.underlying39 (fun w => by kernel_rfl) q8.1 q8.2 w) [(8, .slice sB sN sC), (19, .slice (some raBA) raN raC), (20, .int .i64 (raN : Int)), (21, .int .i64 s21), (23, .pointer (some (raBA.add (Int.toNat s21 * 1))))] (ps (by kernel_rfl)) ?_
      obtain ⟨x, q9, h⟩ := h
      refine N_val (some 24) (loadN 29 (.pointer (some (raBA.add (Int.toNat s21 * 1))))) (.int .u64 x) (fun w => by kernel_rfl) (loadN_run (loadOK_one (fun w => by kernel_rfl) q9)) [(8, .slice sB sN sC), (19, .slice (some raBA) raN raC), (20, .int .i64 (raN : Int)), (21, .int .i64 s21), (24, .int .u64 x)] (ps (by kernel_rfl)) ?_
      refine N_run 1 [(8, .slice sB sN sC), (10, .int .u64 x), (19, .slice (some raBA) raN raC), (20, .int .i64 (raN : Int)), (21, .int .i64 s21)] (fun w => by kernel_rfl) ?_
      refine N_end (by kernel_rfl) ?_
      refine S_then ?_
      refine S_seq kk30 kk31 (by kernel_rfl) ?_
      refine S_seq kk32 kk33 (by kernel_rfl) ?_
      refine S_region 8 (Code.ops kk32) (by kernel_rfl) ?_
      refine N_run 2 [(8, .slice sB sN sC), (10, .int .u64 x), (19, .slice (some raBA) raN raC), (20, .int .i64 (raN : Int)), (21, .int .i64 s21), (26, .bool (decide (x > 1114111)))] (fun w => by kernel_rfl) ?_
      refine N_end (by kernel_rfl) ?_
      refine S_then ?_
      by_cases c10 : x > 1114111
      · rw [if_pos c10] at h
        have b11 : (decide (x > 1114111)) = true := decide_eq_true c10
        refine S_env [(8, .slice sB sN sC), (10, .int .u64 x), (19, .slice (some raBA) raN raC), (20, .int .i64 (raN : Int)), (21, .int .i64 s21), (26, .bool true)] (by simp only [b11, Bool.not_true, Bool.not_false]) ?_
        clear b11
        refine S_condT (.tmp 26) kk34 kk35 (by kernel_rfl) (by kernel_rfl) ?_
        refine S_region 9 (Code.ops kk34) (by kernel_rfl) ?_
        refine N_run 1 [(8, .slice sB sN sC), (10, .int .u64 65533), (19, .slice (some raBA) raN raC), (20, .int .i64 (raN : Int)), (21, .int .i64 s21)] (fun w => by kernel_rfl) ?_
        refine N_end (by kernel_rfl) ?_
        refine S_then ?_
        refine S_region 10 (Code.ops kk31) (by kernel_rfl) ?_
        refine N_run 3 [(19, .slice (some raBA) raN raC), (20, .int .i64 (raN : Int)), (21, .int .i64 s21), (27, .slice sB sN sC), (29, .int .i32 (IntKind.wrap .i32 65533))] (fun w => by kernel_rfl) ?_
        refine N_new (some 30) (fun b => .slice (some (Addr.mk b 0 none)) 1 1) (.cells #[.int .i32 (IntKind.wrap .i32 65533)] 21) (fun w => by kernel_rfl) ?_
        intro b H3 e12 e13
        replace h := h b H3 e12 e13
        refine ⟨[(19, .slice (some raBA) raN raC), (20, .int .i64 (raN : Int)), (21, .int .i64 s21), (27, .slice sB sN sC), (30, .slice (some (Addr.mk b 0 none)) 1 1)], ps (by kernel_rfl), ?_⟩
        refine N_op (some 31) (appendN #[86, 86] 86 #[.slice sB sN sC, .slice (some (Addr.mk b 0 none)) 1 1]) _ (fun w => by kernel_rfl) (ss_append (T := 21) (sz := 1) (bytes := 4) (zero := (.int .i32 0 : Value)) Try.underlying86 Try.underlying86 rfl (show Try.prog.info? 21 = some Try.t21 from by kernel_rfl) (by kernel_rfl) (by kernel_rfl) (by decide) (by kernel_rfl) (by first | exact h | (simpa only [Value.cells, List.toList_toArray] using h))) ?_
        rintro _ H4 ⟨ap, apC, rfl, h⟩
        refine ⟨[(19, .slice (some raBA) raN raC), (20, .int .i64 (raN : Int)), (21, .int .i64 s21), (31, .slice ap (sN + 1) apC)], ps (by kernel_rfl), ?_⟩
        refine N_run 1 [(8, .slice ap (sN + 1) apC), (19, .slice (some raBA) raN raC), (20, .int .i64 (raN : Int)), (21, .int .i64 s21)] (fun w => by kernel_rfl) ?_
        refine N_end (by kernel_rfl) ?_
        refine S_blockEnd ?_
        refine S_then ?_
        refine S_region 11 (Code.ops kk26) (by kernel_rfl) ?_
        refine N_run 2 [(8, .slice ap (sN + 1) apC), (19, .slice (some raBA) raN raC), (20, .int .i64 (raN : Int)), (21, .int .i64 (IntKind.wrap .i64 (s21 + 1)))] (fun w => by kernel_rfl) ?_
        refine N_end (by kernel_rfl) ?_
        refine S_then ?_
        exact S_round ((ap, (sN + 1), apC, (IntKind.wrap .i64 (s21 + 1))) : (Option Addr) × Nat × Nat × Int) (sb (by kernel_rfl)) h
      · rw [if_neg c10] at h
        have b11 : (decide (x > 1114111)) = false := decide_eq_false c10
        refine S_env [(8, .slice sB sN sC), (10, .int .u64 x), (19, .slice (some raBA) raN raC), (20, .int .i64 (raN : Int)), (21, .int .i64 s21), (26, .bool false)] (by simp only [b11, Bool.not_true, Bool.not_false]) ?_
        clear b11
        refine S_condF (.tmp 26) kk34 kk35 (by kernel_rfl) (by kernel_rfl) ?_
        refine S_skip (by kernel_rfl) ?_
        refine S_then ?_
        refine S_region 10 (Code.ops kk31) (by kernel_rfl) ?_
        refine N_run 3 [(19, .slice (some raBA) raN raC), (20, .int .i64 (raN : Int)), (21, .int .i64 s21), (27, .slice sB sN sC), (29, .int .i32 (IntKind.wrap .i32 x))] (fun w => by kernel_rfl) ?_
        refine N_new (some 30) (fun b => .slice (some (Addr.mk b 0 none)) 1 1) (.cells #[.int .i32 (IntKind.wrap .i32 x)] 21) (fun w => by kernel_rfl) ?_
        intro b_2 H5 e14 e15
        replace h := h b_2 H5 e14 e15
        refine ⟨[(19, .slice (some raBA) raN raC), (20, .int .i64 (raN : Int)), (21, .int .i64 s21), (27, .slice sB sN sC), (30, .slice (some (Addr.mk b_2 0 none)) 1 1)], ps (by kernel_rfl), ?_⟩
        refine N_op (some 31) (appendN #[86, 86] 86 #[.slice sB sN sC, .slice (some (Addr.mk b_2 0 none)) 1 1]) _ (fun w => by kernel_rfl) (ss_append (T := 21) (sz := 1) (bytes := 4) (zero := (.int .i32 0 : Value)) Try.underlying86 Try.underlying86 rfl (show Try.prog.info? 21 = some Try.t21 from by kernel_rfl) (by kernel_rfl) (by kernel_rfl) (by decide) (by kernel_rfl) (by first | exact h | (simpa only [Value.cells, List.toList_toArray] using h))) ?_
        rintro _ H6 ⟨ap_2, apC_2, rfl, h⟩
        refine ⟨[(19, .slice (some raBA) raN raC), (20, .int .i64 (raN : Int)), (21, .int .i64 s21), (31, .slice ap_2 (sN + 1) apC_2)], ps (by kernel_rfl), ?_⟩
        refine N_run 1 [(8, .slice ap_2 (sN + 1) apC_2), (19, .slice (some raBA) raN raC), (20, .int .i64 (raN : Int)), (21, .int .i64 s21)] (fun w => by kernel_rfl) ?_
        refine N_end (by kernel_rfl) ?_
        refine S_blockEnd ?_
        refine S_then ?_
        refine S_region 11 (Code.ops kk26) (by kernel_rfl) ?_
        refine N_run 2 [(8, .slice ap_2 (sN + 1) apC_2), (19, .slice (some raBA) raN raC), (20, .int .i64 (raN : Int)), (21, .int .i64 (IntKind.wrap .i64 (s21 + 1)))] (fun w => by kernel_rfl) ?_
        refine N_end (by kernel_rfl) ?_
        refine S_then ?_
        exact S_round ((ap_2, (sN + 1), apC_2, (IntKind.wrap .i64 (s21 + 1))) : (Option Addr) × Nat × Nat × Int) (sb (by kernel_rfl)) h
    · rw [if_neg c6] at h
      have b7 : (decide (s21 < (raN : Int))) = false := decide_eq_false c6
      refine S_env [(8, .slice sB sN sC), (19, .slice raB raN raC), (20, .int .i64 (raN : Int)), (21, .int .i64 s21), (22, .bool false)] (by simp only [b7, Bool.not_true, Bool.not_false]) ?_
      clear b7
      refine S_condF (.tmp 22) kk23 kk24 (by kernel_rfl) (by kernel_rfl) ?_
      refine S_exit 0 (by kernel_rfl) ?_
      refine S_exitThen ?_
      refine S_exitThen ?_
      refine S_exitHere ?_
      refine S_then ?_
      refine S_seq kk36 kk37 (by kernel_rfl) ?_
      refine S_region 12 (Code.ops kk36) (by kernel_rfl) ?_
      refine N_run 1 [(33, .slice sB sN sC)] (fun w => by kernel_rfl) ?_
      obtain ⟨rs, q16, h⟩ := h
      refine N_val (some 34) (convertN 86 9 (.slice sB sN sC)) (.string (runesStr rs)) (fun w => by kernel_rfl) (fun w hw => convert_runes Try.underlying86 Try.underlying9 Try.underlying21 (by rw [hw]; exact q16.1) q16.2) [(34, .string (runesStr rs))] (ps (by kernel_rfl)) ?_
      refine N_run 2 [(4, .string (runesStr rs)), (5, .int .i64 0)] (fun w => by kernel_rfl) ?_
      refine N_end (by kernel_rfl) ?_
      refine S_then ?_
      refine S_ret (by kernel_rfl) ?_
      show At _ _ _ _ _ (Q .ret)
      exact S_done (fn := Try.f40) [.string (runesStr rs), .int .i64 0] hQ (show ResOK _ _ _ [.tmp 4, .tmp 5] _ from .tmp (by kernel_rfl) (.tmp (by kernel_rfl) (.nil))) h
  · rw [if_neg c1] at h
    have b2 : (!rb) = true := congrArg Bool.not (eq_false_of_ne_true c1)
    have b22 : rb = false := eq_false_of_ne_true c1
    refine S_env [(6, .slice raB raN raC), (18, .bool true)] (by simp only [b2, b22, Bool.not_true, Bool.not_false]) ?_
    clear b2 b22
    refine S_condT (.tmp 18) kk9 kk10 (by kernel_rfl) (by kernel_rfl) ?_
    refine S_seq kk38 kk39 (by kernel_rfl) ?_
    refine S_region 3 (Code.ops kk38) (by kernel_rfl) ?_
    refine N_run 2 [(4, .string (ByteArray.mk #[])), (5, .int .i64 3)] (fun w => by kernel_rfl) ?_
    refine N_end (by kernel_rfl) ?_
    refine S_then ?_
    refine S_ret (by kernel_rfl) ?_
    show At _ _ _ _ _ (Q .ret)
    exact S_done (fn := Try.f40) [.string (ByteArray.mk #[]), .int .i64 3] hQ (show ResOK _ _ _ [.tmp 4, .tmp 5] _ from .tmp (by kernel_rfl) (.tmp (by kernel_rfl) (.nil))) h
end obj_Heap_Text

/-! (*moraine/obj.Heap).Int -/
namespace obj_Heap_Int
def kk0 := Func.code Try.f42
def kk1 := Code.fa kk0
def kk2 := Code.fb kk0
def kk3 := Code.fa kk2
def kk4 := Code.fb kk2
def kk5 := Code.fa kk4
def kk6 := Code.fb kk4
def kk7 := Code.fa kk5
def kk8 := Code.fb kk5
def kk9 := Code.fa kk8
def kk10 := Code.fb kk8
def kk11 := Code.fa kk6
def kk12 := Code.fb kk6
def kk13 := Code.fa kk11
def kk14 := Code.fb kk11
def kk15 := Code.fa kk14
def kk16 := Code.fb kk14
def kk17 := Code.fa kk16
def kk18 := Code.fb kk16
def kk19 := Code.fa kk17
def kk20 := Code.fb kk17
def kk21 := Code.fa kk12
def kk22 := Code.fb kk12
def kk23 := Code.fa kk22
def kk24 := Code.fb kk22
def kk25 := Code.fa kk23
def kk26 := Code.fb kk23
def kk27 := Code.fa kk26
def kk28 := Code.fa kk27
def kk29 := Code.fa kk28
def kk30 := Code.fb kk28
def kk31 := Code.fa kk30
def kk32 := Code.fb kk30
def kk33 := Code.fa kk31
def kk34 := Code.fb kk31
def kk35 := Code.fa kk32
def kk36 := Code.fb kk32
def kk37 := Code.fa kk35
def kk38 := Code.fa kk37
def kk39 := Code.fb kk37
def kk40 := Code.fa kk24
def kk41 := Code.fb kk24
def kk42 := Code.fa kk41
def kk43 := Code.fb kk41
def kk44 := Code.fa kk42
def kk45 := Code.fb kk42
def kk46 := Code.fa kk45
def kk47 := Code.fb kk45
def kk48 := Code.fa kk43
def kk49 := Code.fb kk43
def kk50 := Code.fa kk9
def kk51 := Code.fb kk9
end obj_Heap_Int
def obj_Heap_Int.pt (hv : Option Addr) (nNeg : Bool) (nMagB : Option Addr) (nMagN : Nat) (nMagC : Nat) (H : Array Obj) (R : Value → Array Obj → Prop) : Prop :=
 ∀ (b : Nat) (H1 : Array Obj), b = H.size → H1 = H.push (.cells #[.bool nNeg, .slice nMagB nMagN nMagC] 70) →
 ∃ xNeg : Bool, ∃ xMagB : Option Addr, ∃ xMagN : Nat, ∃ xMagC : Nat, RowAt H1 (Addr.mk b 0 none) 0 [.bool xNeg, .slice xMagB xMagN xMagC] ∧
 num_Norm.C xNeg xMagB xMagN xMagC H1 (fun v H2 => ∃ raNeg : Bool, ∃ raMagB : Option Addr, ∃ raMagN : Nat, ∃ raMagC : Nat, ∃ rb : Int, v = .tuple #[.agg #[.bool raNeg, .slice raMagB raMagN raMagC], .int .i64 rb] ∧ 
  ∀ (b_2 : Nat) (H3 : Array Obj), b_2 = H2.size → H3 = H2.push (.cells #[.bool false, .slice none 0 0] 70) →
  (CanPuts H3 (Addr.mk b_2 0 none) 0 2) ∧ ∀ H4 : Array Obj, H4 = hputs H3 (Addr.mk b_2 0 none) [.bool raNeg, .slice raMagB raMagN raMagC] 0 →
  if rb = 0 then (
   ∃ xNeg_2 : Bool, ∃ xMagB_2 : Option Addr, ∃ xMagN_2 : Nat, ∃ xMagC_2 : Nat, RowAt H4 (Addr.mk b_2 0 none) 0 [.bool xNeg_2, .slice xMagB_2 xMagN_2 xMagC_2] ∧
   num_Fix.C xNeg_2 xMagB_2 xMagN_2 xMagC_2 H4 (fun v_2 H5 => ∃ ra : Int, ∃ rb_2 : Bool, v_2 = .tuple #[.int .i64 ra, .bool rb_2] ∧ 
    if rb_2 = true then (
     word_Fix.C ra H5 (fun v_3 H6 => ∃ ra_2 : Int, ∃ rb_3 : Int, v_3 = .tuple #[.int .u64 ra_2, .int .i64 rb_3] ∧ 
      R (.tuple #[.int .u64 ra_2, .int .i64 rb_3]) H6))
    else
    ∃ xB : Option Addr, ∃ xN : Nat, ∃ xC : Nat, hat H5 ((Addr.mk b_2 0 none).add 1) = some (.slice xB xN xC) ∧
    ∃ (I29 : (Option Addr) → Nat → Nat → Int → Array Obj → Prop) (m29 : (Option Addr) → Nat → Nat → Int → Array Obj → Nat), I29 none 0 0 0 H5 ∧ ∀ (lB : Option Addr) (lN : Nat) (lC : Nat) (s35 : Int) (H7 : Array Obj), I29 lB lN lC s35 H7 →
    if s35 < (xN : Int) then (
     ∃ xBA : Addr, xB = some xBA ∧
     ((0 : Int) ≤ s35 ∧ s35 < (xN : Int)) ∧
     ∃ x : Int, hat H7 (xBA.add (Int.toNat s35 * 1)) = some (.int .u32 x) ∧
     ∀ (b_3 : Nat) (H8 : Array Obj), b_3 = H7.size → H8 = H7.push (.cells #[.int .u64 (IntKind.wrap .u64 x)] 29) →
     appendK 1 29 8 [.int .u64 0] lB lN lC (some (Addr.mk b_3 0 none)) 1 H8 (fun ap apC H9 =>
      (I29 ap (lN + 1) apC (IntKind.wrap .i64 (s35 + 1)) H9 ∧ m29 ap (lN + 1) apC (IntKind.wrap .i64 (s35 + 1)) H9 < m29 lB lN lC s35 H7)))
    else
    ∃ x_2 : Bool, hat H7 (Addr.mk b_2 0 none) = some (.bool x_2) ∧
    if x_2 = true then (
     obj_Heap_Make.C hv 3 1 lB lN lC H7 (fun v_4 H10 => ∃ ra_3 : Int, ∃ rb_4 : Int, v_4 = .tuple #[.int .u64 ra_3, .int .i64 rb_4] ∧ 
      R (.tuple #[.int .u64 ra_3, .int .i64 rb_4]) H10))
    else
    obj_Heap_Make.C hv 3 0 lB lN lC H7 (fun v_5 H11 => ∃ ra_4 : Int, ∃ rb_5 : Int, v_5 = .tuple #[.int .u64 ra_4, .int .i64 rb_5] ∧ 
     R (.tuple #[.int .u64 ra_4, .int .i64 rb_5]) H11)))
  else
  R (.tuple #[.int .u64 0, .int .i64 rb]) H4)
namespace obj_Heap_Int
set_option maxRecDepth 100000 in
theorem link {hv : Option Addr} {nNeg : Bool} {nMagB : Option Addr} {nMagN : Nat} {nMagC : Nat} {H : Array Obj} {R : Value → Array Obj → Prop} (h : pt hv nNeg nMagB nMagN nMagC H R) : C hv nNeg nMagB nMagN nMagC H R := by
  refine S_enter (fn := Try.f42) (c := kk0) 53 Try.func42 (by kernel_rfl) (by kernel_rfl) (Nat.le_of_ble_eq_true (by kernel_rfl)) ?_
  intro w0 Q hQ
  unfold pt at h
  refine S_sub [(0, .pointer hv), (1, .agg #[.bool nNeg, .slice nMagB nMagN nMagC])] (sb (by kernel_rfl)) ?_
  refine S_seq kk1 kk2 (by kernel_rfl) ?_
  refine S_region 0 (Code.ops kk1) (by kernel_rfl) ?_
  refine N_new (some 3) (fun b => .pointer (some (Addr.mk b 0 none))) (.cells #[.bool nNeg, .slice nMagB nMagN nMagC] 70) (fun w => by kernel_rfl) ?_
  intro b H1 e1 e2
  replace h := h b H1 e1 e2
  refine ⟨[(0, .pointer hv), (3, .pointer (some (Addr.mk b 0 none)))], ps (by kernel_rfl), ?_⟩
  refine N_run 2 [(0, .pointer hv), (3, .pointer (some (Addr.mk b 0 none)))] (fun w => by kernel_rfl) ?_
  refine N_end (by kernel_rfl) ?_
  refine S_then ?_
  refine S_seq kk3 kk4 (by kernel_rfl) ?_
  refine S_region 1 (Code.ops kk3) (by kernel_rfl) ?_
  obtain ⟨xNeg, xMagB, xMagN, xMagC, q3, h⟩ := h
  refine N_val (some 15) (loadN 70 (.pointer (some (Addr.mk b 0 none)))) (.agg #[.bool xNeg, .slice xMagB xMagN xMagC]) (fun w => by kernel_rfl) (loadN_run (loadOK_row (fun w => by kernel_rfl) (fun w => by kernel_rfl) q3)) [(0, .pointer hv), (15, .agg #[.bool xNeg, .slice xMagB xMagN xMagC])] (ps (by kernel_rfl)) ?_
  refine N_call (some 16) 41 #[.agg #[.bool xNeg, .slice xMagB xMagN xMagC]] (fun w => by kernel_rfl) h ?_; clear h
  rintro v H2 ⟨raNeg, raMagB, raMagN, raMagC, rb, rfl, h⟩
  refine ⟨[(0, .pointer hv), (16, .tuple #[.agg #[.bool raNeg, .slice raMagB raMagN raMagC], .int .i64 rb])], ps (by kernel_rfl), ?_⟩
  refine N_run 3 [(0, .pointer hv), (17, .agg #[.bool raNeg, .slice raMagB raMagN raMagC]), (18, .int .i64 rb)] (fun w => by kernel_rfl) ?_
  refine N_new (some 6) (fun b => .pointer (some (Addr.mk b 0 none))) (.cells #[.bool false, .slice none 0 0] 70) (fun w => by kernel_rfl) ?_
  intro b_2 H3 e4 e5
  replace h := h b_2 H3 e4 e5
  refine ⟨[(0, .pointer hv), (6, .pointer (some (Addr.mk b_2 0 none))), (17, .agg #[.bool raNeg, .slice raMagB raMagN raMagC]), (18, .int .i64 rb)], ps (by kernel_rfl), ?_⟩
  obtain ⟨q7, h⟩ := h
  refine N_skipop none (storeN 70 (.pointer (some (Addr.mk b_2 0 none))) (.agg #[.bool raNeg, .slice raMagB raMagN raMagC])) (fun Hz => Hz = hputs H3 (Addr.mk b_2 0 none) [.bool raNeg, .slice raMagB raMagN raMagC] 0) (fun w => by kernel_rfl) (ss_store [.bool raNeg, .slice raMagB raMagN raMagC] 2 (by kernel_rfl) (by kernel_rfl) (fun w => by kernel_rfl) (by kernel_rfl) q7) ?_
  intro H4 e6
  replace h := h H4 e6
  refine ⟨[(0, .pointer hv), (6, .pointer (some (Addr.mk b_2 0 none))), (18, .int .i64 rb)], ps (by kernel_rfl), ?_⟩
  refine N_run 1 [(0, .pointer hv), (6, .pointer (some (Addr.mk b_2 0 none))), (7, .int .i64 rb)] (fun w => by kernel_rfl) ?_
  refine N_end (by kernel_rfl) ?_
  refine S_then ?_
  refine S_seq kk5 kk6 (by kernel_rfl) ?_
  refine S_seq kk7 kk8 (by kernel_rfl) ?_
  refine S_region 2 (Code.ops kk7) (by kernel_rfl) ?_
  refine N_run 2 [(0, .pointer hv), (6, .pointer (some (Addr.mk b_2 0 none))), (7, .int .i64 rb), (20, .bool (rb != 0))] (fun w => by kernel_rfl) ?_
  refine N_end (by kernel_rfl) ?_
  refine S_then ?_
  by_cases c8 : rb = 0
  · rw [if_pos c8] at h
    have b9 : (rb != 0) = false := bne_eq_false_iff_eq.mpr c8
    refine S_env [(0, .pointer hv), (6, .pointer (some (Addr.mk b_2 0 none))), (7, .int .i64 rb), (20, .bool false)] (by simp only [b9, Bool.not_true, Bool.not_false]) ?_
    clear b9
    refine S_condF (.tmp 20) kk9 kk10 (by kernel_rfl) (by kernel_rfl) ?_
    refine S_skip (by kernel_rfl) ?_
    refine S_then ?_
    refine S_seq kk11 kk12 (by kernel_rfl) ?_
    refine S_seq kk13 kk14 (by kernel_rfl) ?_
    refine S_region 4 (Code.ops kk13) (by kernel_rfl) ?_
    refine N_sub [(0, .pointer hv), (6, .pointer (some (Addr.mk b_2 0 none)))] (sb (by kernel_rfl)) ?_
    obtain ⟨xNeg_2, xMagB_2, xMagN_2, xMagC_2, q10, h⟩ := h
    refine N_val (some 23) (loadN 70 (.pointer (some (Addr.mk b_2 0 none)))) (.agg #[.bool xNeg_2, .slice xMagB_2 xMagN_2 xMagC_2]) (fun w => by kernel_rfl) (loadN_run (loadOK_row (fun w => by kernel_rfl) (fun w => by kernel_rfl) q10)) [(0, .pointer hv), (6, .pointer (some (Addr.mk b_2 0 none))), (23, .agg #[.bool xNeg_2, .slice xMagB_2 xMagN_2 xMagC_2])] (ps (by kernel_rfl)) ?_
    refine N_call (some 24) 44 #[.agg #[.bool xNeg_2, .slice xMagB_2 xMagN_2 xMagC_2]] (fun w => by kernel_rfl) h ?_; clear h
    rintro v_2 H5 ⟨ra, rb_2, rfl, h⟩
    refine ⟨[(0, .pointer hv), (6, .pointer (some (Addr.mk b_2 0 none))), (24, .tuple #[.int .i64 ra, .bool rb_2])], ps (by kernel_rfl), ?_⟩
    refine N_run 5 [(0, .pointer hv), (6, .pointer (some (Addr.mk b_2 0 none))), (8, .int .i64 ra), (9, .bool rb_2)] (fun w => by kernel_rfl) ?_
    refine N_end (by kernel_rfl) ?_
    refine S_then ?_
    refine S_seq kk15 kk16 (by kernel_rfl) ?_
    refine S_region 5 (Code.ops kk15) (by kernel_rfl) ?_
    refine N_run 1 [(0, .pointer hv), (6, .pointer (some (Addr.mk b_2 0 none))), (8, .int .i64 ra), (27, .bool rb_2)] (fun w => by kernel_rfl) ?_
    refine N_end (by kernel_rfl) ?_
    refine S_then ?_
    by_cases c11 : rb_2 = true
    · rw [if_pos c11] at h
      have b12 : rb_2 = true := c11
      refine S_env [(0, .pointer hv), (6, .pointer (some (Addr.mk b_2 0 none))), (8, .int .i64 ra), (27, .bool true)] (by simp only [b12, Bool.not_true, Bool.not_false]) ?_
      clear b12
      refine S_condT (.tmp 27) kk17 kk18 (by kernel_rfl) (by kernel_rfl) ?_
      refine S_seq kk19 kk20 (by kernel_rfl) ?_
      refine S_region 6 (Code.ops kk19) (by kernel_rfl) ?_
      refine N_run 1 [(28, .int .i64 ra)] (fun w => by kernel_rfl) ?_
      refine N_call (some 29) 57 #[.int .i64 ra] (fun w => by kernel_rfl) h ?_; clear h
      rintro v_3 H6 ⟨ra_2, rb_3, rfl, h⟩
      refine ⟨[(29, .tuple #[.int .u64 ra_2, .int .i64 rb_3])], ps (by kernel_rfl), ?_⟩
      refine N_run 4 [(4, .int .u64 ra_2), (5, .int .i64 rb_3)] (fun w => by kernel_rfl) ?_
      refine N_end (by kernel_rfl) ?_
      refine S_then ?_
      refine S_ret (by kernel_rfl) ?_
      show At _ _ _ _ _ (Q .ret)
      exact S_done (fn := Try.f42) [.int .u64 ra_2, .int .i64 rb_3] hQ (show ResOK _ _ _ [.tmp 4, .tmp 5] _ from .tmp (by kernel_rfl) (.tmp (by kernel_rfl) (.nil))) h
    · rw [if_neg c11] at h
      have b12 : rb_2 = false := eq_false_of_ne_true c11
      refine S_env [(0, .pointer hv), (6, .pointer (some (Addr.mk b_2 0 none))), (8, .int .i64 ra), (27, .bool false)] (by simp only [b12, Bool.not_true, Bool.not_false]) ?_
      clear b12
      refine S_condF (.tmp 27) kk17 kk18 (by kernel_rfl) (by kernel_rfl) ?_
      refine S_skip (by kernel_rfl) ?_
      refine S_then ?_
      refine S_seq kk21 kk22 (by kernel_rfl) ?_
      refine S_region 7 (Code.ops kk21) (by kernel_rfl) ?_
      refine N_run 1 [(0, .pointer hv), (6, .pointer (some (Addr.mk b_2 0 none))), (10, .slice none 0 0)] (fun w => by kernel_rfl) ?_
      refine N_end (by kernel_rfl) ?_
      refine S_then ?_
      refine S_seq kk23 kk24 (by kernel_rfl) ?_
      refine S_seq kk25 kk26 (by kernel_rfl) ?_
      refine S_region 8 (Code.ops kk25) (by kernel_rfl) ?_
      refine N_run 1 [(0, .pointer hv), (6, .pointer (some (Addr.mk b_2 0 none))), (10, .slice none 0 0), (32, .pointer (some ((Addr.mk b_2 0 none).add 1)))] (fun w => by kernel_rfl) ?_
      obtain ⟨xB, xN, xC, q13, h⟩ := h
      refine N_val (some 33) (loadN 40 (.pointer (some ((Addr.mk b_2 0 none).add 1)))) (.slice xB xN xC) (fun w => by kernel_rfl) (loadN_run (loadOK_one (fun w => by kernel_rfl) q13)) [(0, .pointer hv), (6, .pointer (some (Addr.mk b_2 0 none))), (10, .slice none 0 0), (33, .slice xB xN xC)] (ps (by kernel_rfl)) ?_
      refine N_run 2 [(0, .pointer hv), (6, .pointer (some (Addr.mk b_2 0 none))), (10, .slice none 0 0), (33, .slice xB xN xC), (34, .int .i64 (xN : Int)), (35, .int .i64 0)] (fun w => by kernel_rfl) ?_
      refine N_end (by kernel_rfl) ?_
      refine S_then ?_
      refine S_block 0 kk27 (by kernel_rfl) ?_
      obtain ⟨I29, m29, i14, i15⟩ := h
      refine S_loop (x := kk28) (σ := (Option Addr) × Nat × Nat × Int) (fun s_ => [(0, .pointer hv), (6, .pointer (some (Addr.mk b_2 0 none))), (10, .slice s_.1 s_.2.1 s_.2.2.1), (33, .slice xB xN xC), (34, .int .i64 (xN : Int)), (35, .int .i64 s_.2.2.2)]) (fun s_ H => I29 s_.1 s_.2.1 s_.2.2.1 s_.2.2.2 H) (fun s_ H => m29 s_.1 s_.2.1 s_.2.2.1 s_.2.2.2 H) ((none, 0, 0, 0) : (Option Addr) × Nat × Nat × Int) (by kernel_rfl) i14 (sb (by kernel_rfl)) ?_
      rintro ⟨lB, lN, lC, s35⟩ H7 i16
      have h := i15 lB lN lC s35 H7 i16
      refine S_sub [(0, .pointer hv), (6, .pointer (some (Addr.mk b_2 0 none))), (10, .slice lB lN lC), (33, .slice xB xN xC), (34, .int .i64 (xN : Int)), (35, .int .i64 s35)] (sb (by kernel_rfl)) ?_
      refine S_seq kk29 kk30 (by kernel_rfl) ?_
      refine S_region 9 (Code.ops kk29) (by kernel_rfl) ?_
      refine N_run 1 [(0, .pointer hv), (6, .pointer (some (Addr.mk b_2 0 none))), (10, .slice lB lN lC), (33, .slice xB xN xC), (34, .int .i64 (xN : Int)), (35, .int .i64 s35), (36, .bool (decide (s35 < (xN : Int))))] (fun w => by kernel_rfl) ?_
      refine N_end (by kernel_rfl) ?_
      refine S_then ?_
      refine S_seq kk31 kk32 (by kernel_rfl) ?_
      by_cases c17 : s35 < (xN : Int)
      · rw [if_pos c17] at h
        have b18 : (decide (s35 < (xN : Int))) = true := decide_eq_true c17
        refine S_env [(0, .pointer hv), (6, .pointer (some (Addr.mk b_2 0 none))), (10, .slice lB lN lC), (33, .slice xB xN xC), (34, .int .i64 (xN : Int)), (35, .int .i64 s35), (36, .bool true)] (by simp only [b18, Bool.not_true, Bool.not_false]) ?_
        clear b18
        refine S_condT (.tmp 36) kk33 kk34 (by kernel_rfl) (by kernel_rfl) ?_
        refine S_skip (by kernel_rfl) ?_
        refine S_then ?_
        refine S_seq kk35 kk36 (by kernel_rfl) ?_
        refine S_block 1 kk37 (by kernel_rfl) ?_
        refine S_seq kk38 kk39 (by kernel_rfl) ?_
        refine S_region 10 (Code.ops kk38) (by kernel_rfl) ?_
        refine N_sub [(0, .pointer hv), (6, .pointer (some (Addr.mk b_2 0 none))), (10, .slice lB lN lC), (33, .slice xB xN xC), (34, .int .i64 (xN : Int)), (35, .int .i64 s35)] (sb (by kernel_rfl)) ?_
        obtain ⟨xBA, rfl, h⟩ := h
        obtain ⟨q19, h⟩ := h
        refine N_val (some 37) (indexAtN 40 (.slice (some xBA) xN xC) (.int .i64 s35)) (.pointer (some (xBA.add (Int.toNat s35 * 1)))) (fun w => by kernel_rfl) (fun w _ => indexAt_run (P := Try.prog) (t := 40) (elem := 41) (sz := 1) (a := xBA) (len := xN) (cap := xC) (k := .i64) (i := s35) Try.underlying40 (fun w => by kernel_rfl) q19.1 q19.2 w) [(0, .pointer hv), (6, .pointer (some (Addr.mk b_2 0 none))), (10, .slice lB lN lC), (33, .slice (some xBA) xN xC), (34, .int .i64 (xN : Int)), (35, .int .i64 s35), (37, .pointer (some (xBA.add (Int.toNat s35 * 1))))] (ps (by kernel_rfl)) ?_
        obtain ⟨x, q20, h⟩ := h
        refine N_val (some 38) (loadN 41 (.pointer (some (xBA.add (Int.toNat s35 * 1))))) (.int .u32 x) (fun w => by kernel_rfl) (loadN_run (loadOK_one (fun w => by kernel_rfl) q20)) [(0, .pointer hv), (6, .pointer (some (Addr.mk b_2 0 none))), (10, .slice lB lN lC), (33, .slice (some xBA) xN xC), (34, .int .i64 (xN : Int)), (35, .int .i64 s35), (38, .int .u32 x)] (ps (by kernel_rfl)) ?_
        refine N_run 1 [(0, .pointer hv), (6, .pointer (some (Addr.mk b_2 0 none))), (10, .slice lB lN lC), (12, .int .u32 x), (33, .slice (some xBA) xN xC), (34, .int .i64 (xN : Int)), (35, .int .i64 s35)] (fun w => by kernel_rfl) ?_
        refine N_end (by kernel_rfl) ?_
        refine S_then ?_
        refine S_region 11 (Code.ops kk39) (by kernel_rfl) ?_
        refine N_run 3 [(0, .pointer hv), (6, .pointer (some (Addr.mk b_2 0 none))), (33, .slice (some xBA) xN xC), (34, .int .i64 (xN : Int)), (35, .int .i64 s35), (39, .slice lB lN lC), (41, .int .u64 (IntKind.wrap .u64 x))] (fun w => by kernel_rfl) ?_
        refine N_new (some 42) (fun b => .slice (some (Addr.mk b 0 none)) 1 1) (.cells #[.int .u64 (IntKind.wrap .u64 x)] 29) (fun w => by kernel_rfl) ?_
        intro b_3 H8 e21 e22
        replace h := h b_3 H8 e21 e22
        refine ⟨[(0, .pointer hv), (6, .pointer (some (Addr.mk b_2 0 none))), (33, .slice (some xBA) xN xC), (34, .int .i64 (xN : Int)), (35, .int .i64 s35), (39, .slice lB lN lC), (42, .slice (some (Addr.mk b_3 0 none)) 1 1)], ps (by kernel_rfl), ?_⟩
        refine N_op (some 43) (appendN #[39, 39] 39 #[.slice lB lN lC, .slice (some (Addr.mk b_3 0 none)) 1 1]) _ (fun w => by kernel_rfl) (ss_append (T := 29) (sz := 1) (bytes := 8) (zero := (.int .u64 0 : Value)) Try.underlying39 Try.underlying39 rfl (show Try.prog.info? 29 = some Try.t29 from by kernel_rfl) (by kernel_rfl) (by kernel_rfl) (by decide) (by kernel_rfl) (by first | exact h | (simpa only [Value.cells, List.toList_toArray] using h))) ?_
        rintro _ H9 ⟨ap, apC, rfl, h⟩
        refine ⟨[(0, .pointer hv), (6, .pointer (some (Addr.mk b_2 0 none))), (33, .slice (some xBA) xN xC), (34, .int .i64 (xN : Int)), (35, .int .i64 s35), (43, .slice ap (lN + 1) apC)], ps (by kernel_rfl), ?_⟩
        refine N_run 1 [(0, .pointer hv), (6, .pointer (some (Addr.mk b_2 0 none))), (10, .slice ap (lN + 1) apC), (33, .slice (some xBA) xN xC), (34, .int .i64 (xN : Int)), (35, .int .i64 s35)] (fun w => by kernel_rfl) ?_
        refine N_end (by kernel_rfl) ?_
        refine S_blockEnd ?_
        refine S_then ?_
        refine S_region 12 (Code.ops kk36) (by kernel_rfl) ?_
        refine N_run 2 [(0, .pointer hv), (6, .pointer (some (Addr.mk b_2 0 none))), (10, .slice ap (lN + 1) apC), (33, .slice (some xBA) xN xC), (34, .int .i64 (xN : Int)), (35, .int .i64 (IntKind.wrap .i64 (s35 + 1)))] (fun w => by kernel_rfl) ?_
        refine N_end (by kernel_rfl) ?_
        refine S_then ?_
        exact S_round ((ap, (lN + 1), apC, (IntKind.wrap .i64 (s35 + 1))) : (Option Addr) × Nat × Nat × Int) (sb (by kernel_rfl)) h
      · rw [if_neg c17] at h
        have b18 : (decide (s35 < (xN : Int))) = false := decide_eq_false c17
        refine S_env [(0, .pointer hv), (6, .pointer (some (Addr.mk b_2 0 none))), (10, .slice lB lN lC), (33, .slice xB xN xC), (34, .int .i64 (xN : Int)), (35, .int .i64 s35), (36, .bool false)] (by simp only [b18, Bool.not_true, Bool.not_false]) ?_
        clear b18
        refine S_condF (.tmp 36) kk33 kk34 (by kernel_rfl) (by kernel_rfl) ?_
        refine S_exit 0 (by kernel_rfl) ?_
        refine S_exitThen ?_
        refine S_exitThen ?_
        refine S_exitHere ?_
        refine S_then ?_
        refine S_seq kk40 kk41 (by kernel_rfl) ?_
        refine S_region 13 (Code.ops kk40) (by kernel_rfl) ?_
        refine N_run 1 [(0, .pointer hv), (6, .pointer (some (Addr.mk b_2 0 none))), (10, .slice lB lN lC), (13, .int .u64 0)] (fun w => by kernel_rfl) ?_
        refine N_end (by kernel_rfl) ?_
        refine S_then ?_
        refine S_seq kk42 kk43 (by kernel_rfl) ?_
        refine S_seq kk44 kk45 (by kernel_rfl) ?_
        refine S_region 14 (Code.ops kk44) (by kernel_rfl) ?_
        refine N_run 1 [(0, .pointer hv), (10, .slice lB lN lC), (13, .int .u64 0), (45, .pointer (some (Addr.mk b_2 0 none)))] (fun w => by kernel_rfl) ?_
        obtain ⟨x_2, q23, h⟩ := h
        refine N_val (some 46) (loadN 4 (.pointer (some (Addr.mk b_2 0 none)))) (.bool x_2) (fun w => by kernel_rfl) (loadN_run (loadOK_one (fun w => by kernel_rfl) q23)) [(0, .pointer hv), (10, .slice lB lN lC), (13, .int .u64 0), (46, .bool x_2)] (ps (by kernel_rfl)) ?_
        refine N_end (by kernel_rfl) ?_
        refine S_then ?_
        by_cases c24 : x_2 = true
        · rw [if_pos c24] at h
          have b25 : x_2 = true := c24
          refine S_env [(0, .pointer hv), (10, .slice lB lN lC), (13, .int .u64 0), (46, .bool true)] (by simp only [b25, Bool.not_true, Bool.not_false]) ?_
          clear b25
          refine S_condT (.tmp 46) kk46 kk47 (by kernel_rfl) (by kernel_rfl) ?_
          refine S_region 15 (Code.ops kk46) (by kernel_rfl) ?_
          refine N_run 1 [(0, .pointer hv), (10, .slice lB lN lC), (13, .int .u64 1)] (fun w => by kernel_rfl) ?_
          refine N_end (by kernel_rfl) ?_
          refine S_then ?_
          refine S_seq kk48 kk49 (by kernel_rfl) ?_
          refine S_region 16 (Code.ops kk48) (by kernel_rfl) ?_
          refine N_run 3 [(47, .pointer hv), (48, .int .u64 1), (49, .slice lB lN lC)] (fun w => by kernel_rfl) ?_
          refine N_call (some 50) 30 #[.pointer hv, .int .i64 3, .int .u64 1, .slice lB lN lC] (fun w => by kernel_rfl) h ?_; clear h
          rintro v_4 H10 ⟨ra_3, rb_4, rfl, h⟩
          refine ⟨[(50, .tuple #[.int .u64 ra_3, .int .i64 rb_4])], ps (by kernel_rfl), ?_⟩
          refine N_run 4 [(4, .int .u64 ra_3), (5, .int .i64 rb_4)] (fun w => by kernel_rfl) ?_
          refine N_end (by kernel_rfl) ?_
          refine S_then ?_
          refine S_ret (by kernel_rfl) ?_
          show At _ _ _ _ _ (Q .ret)
          exact S_done (fn := Try.f42) [.int .u64 ra_3, .int .i64 rb_4] hQ (show ResOK _ _ _ [.tmp 4, .tmp 5] _ from .tmp (by kernel_rfl) (.tmp (by kernel_rfl) (.nil))) h
        · rw [if_neg c24] at h
          have b25 : x_2 = false := eq_false_of_ne_true c24
          refine S_env [(0, .pointer hv), (10, .slice lB lN lC), (13, .int .u64 0), (46, .bool false)] (by simp only [b25, Bool.not_true, Bool.not_false]) ?_
          clear b25
          refine S_condF (.tmp 46) kk46 kk47 (by kernel_rfl) (by kernel_rfl) ?_
          refine S_skip (by kernel_rfl) ?_
          refine S_then ?_
          refine S_seq kk48 kk49 (by kernel_rfl) ?_
          refine S_region 16 (Code.ops kk48) (by kernel_rfl) ?_
          refine N_run 3 [(47, .pointer hv), (48, .int .u64 0), (49, .slice lB lN lC)] (fun w => by kernel_rfl) ?_
          refine N_call (some 50) 30 #[.pointer hv, .int .i64 3, .int .u64 0, .slice lB lN lC] (fun w => by kernel_rfl) h ?_; clear h
          rintro v_5 H11 ⟨ra_4, rb_5, rfl, h⟩
          refine ⟨[(50, .tuple #[.int .u64 ra_4, .int .i64 rb_5])], ps (by kernel_rfl), ?_⟩
          refine N_run 4 [(4, .int .u64 ra_4), (5, .int .i64 rb_5)] (fun w => by kernel_rfl) ?_
          refine N_end (by kernel_rfl) ?_
          refine S_then ?_
          refine S_ret (by kernel_rfl) ?_
          show At _ _ _ _ _ (Q .ret)
          exact S_done (fn := Try.f42) [.int .u64 ra_4, .int .i64 rb_5] hQ (show ResOK _ _ _ [.tmp 4, .tmp 5] _ from .tmp (by kernel_rfl) (.tmp (by kernel_rfl) (.nil))) h
  · rw [if_neg c8] at h
    have b9 : (rb != 0) = true := bne_iff_ne.mpr c8
    refine S_env [(0, .pointer hv), (6, .pointer (some (Addr.mk b_2 0 none))), (7, .int .i64 rb), (20, .bool true)] (by simp only [b9, Bool.not_true, Bool.not_false]) ?_
    clear b9
    refine S_condT (.tmp 20) kk9 kk10 (by kernel_rfl) (by kernel_rfl) ?_
    refine S_seq kk50 kk51 (by kernel_rfl) ?_
    refine S_region 3 (Code.ops kk50) (by kernel_rfl) ?_
    refine N_run 3 [(4, .int .u64 0), (5, .int .i64 rb)] (fun w => by kernel_rfl) ?_
    refine N_end (by kernel_rfl) ?_
    refine S_then ?_
    refine S_ret (by kernel_rfl) ?_
    show At _ _ _ _ _ (Q .ret)
    exact S_done (fn := Try.f42) [.int .u64 0, .int .i64 rb] hQ (show ResOK _ _ _ [.tmp 4, .tmp 5] _ from .tmp (by kernel_rfl) (.tmp (by kernel_rfl) (.nil))) h
end obj_Heap_Int

/-! (*moraine/obj.Heap).Num -/
namespace obj_Heap_Num
def kk0 := Func.code Try.f43
def kk1 := Code.fa kk0
def kk2 := Code.fb kk0
def kk3 := Code.fa kk2
def kk4 := Code.fb kk2
def kk5 := Code.fa kk3
def kk6 := Code.fb kk3
def kk7 := Code.fa kk6
def kk8 := Code.fb kk6
def kk9 := Code.fa kk8
def kk10 := Code.fb kk8
def kk11 := Code.fa kk9
def kk12 := Code.fb kk9
def kk13 := Code.fa kk4
def kk14 := Code.fb kk4
def kk15 := Code.fa kk14
def kk16 := Code.fb kk14
def kk17 := Code.fa kk15
def kk18 := Code.fb kk15
def kk19 := Code.fa kk18
def kk20 := Code.fb kk18
def kk21 := Code.fa kk16
def kk22 := Code.fb kk16
def kk23 := Code.fa kk22
def kk24 := Code.fb kk22
def kk25 := Code.fa kk23
def kk26 := Code.fb kk23
def kk27 := Code.fa kk26
def kk28 := Code.fa kk27
def kk29 := Code.fa kk28
def kk30 := Code.fb kk28
def kk31 := Code.fa kk30
def kk32 := Code.fb kk30
def kk33 := Code.fa kk31
def kk34 := Code.fb kk31
def kk35 := Code.fa kk32
def kk36 := Code.fb kk32
def kk37 := Code.fa kk35
def kk38 := Code.fa kk37
def kk39 := Code.fb kk37
def kk40 := Code.fa kk24
def kk41 := Code.fb kk24
def kk42 := Code.fa kk40
def kk43 := Code.fb kk40
def kk44 := Code.fa kk43
def kk45 := Code.fb kk43
def kk46 := Code.fa kk44
def kk47 := Code.fb kk44
def kk48 := Code.fa kk41
def kk49 := Code.fb kk41
def kk50 := Code.fa kk19
def kk51 := Code.fb kk19
end obj_Heap_Num
def obj_Heap_Num.pt (hv : Option Addr) (wv : Int) (H : Array Obj) (R : Value → Array Obj → Prop) : Prop :=
 ∀ (b : Nat) (H1 : Array Obj), b = H.size → H1 = H.push (.cells #[.bool false, .slice none 0 0] 70) →
 word_Int.C wv H1 (fun v H2 => ∃ ra : Int, ∃ rb : Bool, v = .tuple #[.int .i64 ra, .bool rb] ∧ 
  if rb = true then (
   num_Of.C ra H2 (fun v_2 H3 => ∃ xNeg : Bool, ∃ xMagB : Option Addr, ∃ xMagN : Nat, ∃ xMagC : Nat, v_2 = .agg #[.bool xNeg, .slice xMagB xMagN xMagC] ∧ 
    (CanPuts H3 (Addr.mk b 0 none) 0 2) ∧ ∀ H4 : Array Obj, H4 = hputs H3 (Addr.mk b 0 none) [.bool xNeg, .slice xMagB xMagN xMagC] 0 →
    ∃ rNeg : Bool, ∃ rMagB : Option Addr, ∃ rMagN : Nat, ∃ rMagC : Nat, RowAt H4 (Addr.mk b 0 none) 0 [.bool rNeg, .slice rMagB rMagN rMagC] ∧
    R (.tuple #[.agg #[.bool rNeg, .slice rMagB rMagN rMagC], .int .i64 0]) H4))
  else
  obj_Heap_words.C hv wv 3 H2 (fun v_3 H5 => ∃ raB : Option Addr, ∃ raN : Nat, ∃ raC : Nat, ∃ rb_2 : Bool, v_3 = .tuple #[.slice raB raN raC, .bool rb_2] ∧ 
   if rb_2 = true then (
    obj_Heap_More.C hv wv H5 (fun v_4 H6 => ∃ x : Int, v_4 = .int .u64 x ∧ 
     ∀ (b_2 : Nat) (H7 : Array Obj), b_2 = H6.size → H7 = H6.push (.cells #[.bool false, .slice none 0 0] 70) →
     (CanPuts H7 (Addr.mk b_2 0 none) 0 2) ∧ ∀ H8 : Array Obj, H8 = hputs H7 (Addr.mk b_2 0 none) [.bool (x == 1), .slice none 0 0] 0 →
     ∃ (I29 : Int → Array Obj → Prop) (m29 : Int → Array Obj → Nat), I29 0 H8 ∧ ∀ (s37 : Int) (H9 : Array Obj), I29 s37 H9 →
     if s37 < (raN : Int) then (
      ∃ raBA : Addr, raB = some raBA ∧
      ((0 : Int) ≤ s37 ∧ s37 < (raN : Int)) ∧
      ∃ x_2 : Int, hat H9 (raBA.add (Int.toNat s37 * 1)) = some (.int .u64 x_2) ∧
      ∃ xB : Option Addr, ∃ xN : Nat, ∃ xC : Nat, hat H9 ((Addr.mk b_2 0 none).add 1) = some (.slice xB xN xC) ∧
      ∀ (b_3 : Nat) (H10 : Array Obj), b_3 = H9.size → H10 = H9.push (.cells #[.int .u32 (IntKind.wrap .u32 x_2)] 41) →
      appendK 1 41 4 [.int .u32 0] xB xN xC (some (Addr.mk b_3 0 none)) 1 H10 (fun ap apC H11 =>
       (CanPuts H11 ((Addr.mk b_2 0 none).add 1) 0 1) ∧ ∀ H12 : Array Obj, H12 = hputs H11 ((Addr.mk b_2 0 none).add 1) [.slice ap (xN + 1) apC] 0 →
       (I29 (IntKind.wrap .i64 (s37 + 1)) H12 ∧ m29 (IntKind.wrap .i64 (s37 + 1)) H12 < m29 s37 H9)))
     else
     ∃ xNeg_2 : Bool, ∃ xMagB_2 : Option Addr, ∃ xMagN_2 : Nat, ∃ xMagC_2 : Nat, RowAt H9 (Addr.mk b_2 0 none) 0 [.bool xNeg_2, .slice xMagB_2 xMagN_2 xMagC_2] ∧
     num_May.C xNeg_2 xMagB_2 xMagN_2 xMagC_2 H9 (fun v_5 H13 => ∃ x_3 : Bool, v_5 = .bool x_3 ∧ 
      if x_3 = true then (
       obj_Heap_More.C hv wv H13 (fun v_6 H14 => ∃ x_4 : Int, v_6 = .int .u64 x_4 ∧ 
        if x_4 > 1 then (
         (CanPuts H14 (Addr.mk b 0 none) 0 2) ∧ ∀ H15 : Array Obj, H15 = hputs H14 (Addr.mk b 0 none) [.bool false, .slice none 0 0] 0 →
         ∃ rNeg_2 : Bool, ∃ rMagB_2 : Option Addr, ∃ rMagN_2 : Nat, ∃ rMagC_2 : Nat, RowAt H15 (Addr.mk b 0 none) 0 [.bool rNeg_2, .slice rMagB_2 rMagN_2 rMagC_2] ∧
         R (.tuple #[.agg #[.bool rNeg_2, .slice rMagB_2 rMagN_2 rMagC_2], .int .i64 3]) H15)
        else
        ∃ xNeg_3 : Bool, ∃ xMagB_3 : Option Addr, ∃ xMagN_3 : Nat, ∃ xMagC_3 : Nat, RowAt H14 (Addr.mk b_2 0 none) 0 [.bool xNeg_3, .slice xMagB_3 xMagN_3 xMagC_3] ∧
        (CanPuts H14 (Addr.mk b 0 none) 0 2) ∧ ∀ H16 : Array Obj, H16 = hputs H14 (Addr.mk b 0 none) [.bool xNeg_3, .slice xMagB_3 xMagN_3 xMagC_3] 0 →
        ∃ rNeg_3 : Bool, ∃ rMagB_3 : Option Addr, ∃ rMagN_3 : Nat, ∃ rMagC_3 : Nat, RowAt H16 (Addr.mk b 0 none) 0 [.bool rNeg_3, .slice rMagB_3 rMagN_3 rMagC_3] ∧
        R (.tuple #[.agg #[.bool rNeg_3, .slice rMagB_3 rMagN_3 rMagC_3], .int .i64 0]) H16))
      else
      (CanPuts H13 (Addr.mk b 0 none) 0 2) ∧ ∀ H17 : Array Obj, H17 = hputs H13 (Addr.mk b 0 none) [.bool false, .slice none 0 0] 0 →
      ∃ rNeg_4 : Bool, ∃ rMagB_4 : Option Addr, ∃ rMagN_4 : Nat, ∃ rMagC_4 : Nat, RowAt H17 (Addr.mk b 0 none) 0 [.bool rNeg_4, .slice rMagB_4 rMagN_4 rMagC_4] ∧
      R (.tuple #[.agg #[.bool rNeg_4, .slice rMagB_4 rMagN_4 rMagC_4], .int .i64 3]) H17)))
   else
   (CanPuts H5 (Addr.mk b 0 none) 0 2) ∧ ∀ H18 : Array Obj, H18 = hputs H5 (Addr.mk b 0 none) [.bool false, .slice none 0 0] 0 →
   ∃ rNeg_5 : Bool, ∃ rMagB_5 : Option Addr, ∃ rMagN_5 : Nat, ∃ rMagC_5 : Nat, RowAt H18 (Addr.mk b 0 none) 0 [.bool rNeg_5, .slice rMagB_5 rMagN_5 rMagC_5] ∧
   R (.tuple #[.agg #[.bool rNeg_5, .slice rMagB_5 rMagN_5 rMagC_5], .int .i64 3]) H18))
namespace obj_Heap_Num
set_option maxRecDepth 100000 in
theorem link {hv : Option Addr} {wv : Int} {H : Array Obj} {R : Value → Array Obj → Prop} (h : pt hv wv H R) : C hv wv H R := by
  refine S_enter (fn := Try.f43) (c := kk0) 60 Try.func43 (by kernel_rfl) (by kernel_rfl) (Nat.le_of_ble_eq_true (by kernel_rfl)) ?_
  intro w0 Q hQ
  unfold pt at h
  refine S_sub [(0, .pointer hv), (1, .int .u64 wv)] (sb (by kernel_rfl)) ?_
  refine S_seq kk1 kk2 (by kernel_rfl) ?_
  refine S_region 0 (Code.ops kk1) (by kernel_rfl) ?_
  refine N_new (some 4) (fun b => .pointer (some (Addr.mk b 0 none))) (.cells #[.bool false, .slice none 0 0] 70) (fun w => by kernel_rfl) ?_
  intro b H1 e1 e2
  replace h := h b H1 e1 e2
  refine ⟨[(0, .pointer hv), (1, .int .u64 wv), (4, .pointer (some (Addr.mk b 0 none)))], ps (by kernel_rfl), ?_⟩
  refine N_run 1 [(0, .pointer hv), (1, .int .u64 wv), (4, .pointer (some (Addr.mk b 0 none)))] (fun w => by kernel_rfl) ?_
  refine N_end (by kernel_rfl) ?_
  refine S_then ?_
  refine S_seq kk3 kk4 (by kernel_rfl) ?_
  refine S_seq kk5 kk6 (by kernel_rfl) ?_
  refine S_region 1 (Code.ops kk5) (by kernel_rfl) ?_
  refine N_run 1 [(0, .pointer hv), (1, .int .u64 wv), (4, .pointer (some (Addr.mk b 0 none))), (14, .int .u64 wv)] (fun w => by kernel_rfl) ?_
  refine N_call (some 15) 55 #[.int .u64 wv] (fun w => by kernel_rfl) h ?_; clear h
  rintro v H2 ⟨ra, rb, rfl, h⟩
  refine ⟨[(0, .pointer hv), (1, .int .u64 wv), (4, .pointer (some (Addr.mk b 0 none))), (15, .tuple #[.int .i64 ra, .bool rb])], ps (by kernel_rfl), ?_⟩
  refine N_run 5 [(0, .pointer hv), (1, .int .u64 wv), (4, .pointer (some (Addr.mk b 0 none))), (6, .int .i64 ra), (7, .bool rb)] (fun w => by kernel_rfl) ?_
  refine N_end (by kernel_rfl) ?_
  refine S_then ?_
  refine S_seq kk7 kk8 (by kernel_rfl) ?_
  refine S_region 2 (Code.ops kk7) (by kernel_rfl) ?_
  refine N_run 1 [(0, .pointer hv), (1, .int .u64 wv), (4, .pointer (some (Addr.mk b 0 none))), (6, .int .i64 ra), (18, .bool rb)] (fun w => by kernel_rfl) ?_
  refine N_end (by kernel_rfl) ?_
  refine S_then ?_
  by_cases c3 : rb = true
  · rw [if_pos c3] at h
    have b4 : rb = true := c3
    refine S_env [(0, .pointer hv), (1, .int .u64 wv), (4, .pointer (some (Addr.mk b 0 none))), (6, .int .i64 ra), (18, .bool true)] (by simp only [b4, Bool.not_true, Bool.not_false]) ?_
    clear b4
    refine S_condT (.tmp 18) kk9 kk10 (by kernel_rfl) (by kernel_rfl) ?_
    refine S_seq kk11 kk12 (by kernel_rfl) ?_
    refine S_region 3 (Code.ops kk11) (by kernel_rfl) ?_
    refine N_run 1 [(4, .pointer (some (Addr.mk b 0 none))), (19, .int .i64 ra)] (fun w => by kernel_rfl) ?_
    refine N_call (some 20) 70 #[.int .i64 ra] (fun w => by kernel_rfl) h ?_; clear h
    rintro v_2 H3 ⟨xNeg, xMagB, xMagN, xMagC, rfl, h⟩
    refine ⟨[(4, .pointer (some (Addr.mk b 0 none))), (20, .agg #[.bool xNeg, .slice xMagB xMagN xMagC])], ps (by kernel_rfl), ?_⟩
    obtain ⟨q6, h⟩ := h
    refine N_skipop none (storeN 70 (.pointer (some (Addr.mk b 0 none))) (.agg #[.bool xNeg, .slice xMagB xMagN xMagC])) (fun Hz => Hz = hputs H3 (Addr.mk b 0 none) [.bool xNeg, .slice xMagB xMagN xMagC] 0) (fun w => by kernel_rfl) (ss_store [.bool xNeg, .slice xMagB xMagN xMagC] 2 (by kernel_rfl) (by kernel_rfl) (fun w => by kernel_rfl) (by kernel_rfl) q6) ?_
    intro H4 e5
    replace h := h H4 e5
    refine ⟨[(4, .pointer (some (Addr.mk b 0 none)))], ps (by kernel_rfl), ?_⟩
    refine N_run 1 [(4, .pointer (some (Addr.mk b 0 none))), (5, .int .i64 0)] (fun w => by kernel_rfl) ?_
    refine N_end (by kernel_rfl) ?_
    refine S_then ?_
    refine S_ret (by kernel_rfl) ?_
    show At _ _ _ _ _ (Q .ret)
    obtain ⟨rNeg, rMagB, rMagN, rMagC, q7, h⟩ := h
    exact S_done (fn := Try.f43) [.agg #[.bool rNeg, .slice rMagB rMagN rMagC], .int .i64 0] hQ (show ResOK _ _ _ [.cell 4 70, .tmp 5] _ from .cell (by kernel_rfl) (loadOK_row (fun w => by kernel_rfl) (fun w => by kernel_rfl) q7) (.tmp (by kernel_rfl) (.nil))) h
  · rw [if_neg c3] at h
    have b4 : rb = false := eq_false_of_ne_true c3
    refine S_env [(0, .pointer hv), (1, .int .u64 wv), (4, .pointer (some (Addr.mk b 0 none))), (6, .int .i64 ra), (18, .bool false)] (by simp only [b4, Bool.not_true, Bool.not_false]) ?_
    clear b4
    refine S_condF (.tmp 18) kk9 kk10 (by kernel_rfl) (by kernel_rfl) ?_
    refine S_skip (by kernel_rfl) ?_
    refine S_then ?_
    refine S_seq kk13 kk14 (by kernel_rfl) ?_
    refine S_region 4 (Code.ops kk13) (by kernel_rfl) ?_
    refine N_run 2 [(0, .pointer hv), (1, .int .u64 wv), (4, .pointer (some (Addr.mk b 0 none))), (22, .pointer hv), (23, .int .u64 wv)] (fun w => by kernel_rfl) ?_
    refine N_call (some 24) 68 #[.pointer hv, .int .u64 wv, .int .i64 3] (fun w => by kernel_rfl) h ?_; clear h
    rintro v_3 H5 ⟨raB, raN, raC, rb_2, rfl, h⟩
    refine ⟨[(0, .pointer hv), (1, .int .u64 wv), (4, .pointer (some (Addr.mk b 0 none))), (24, .tuple #[.slice raB raN raC, .bool rb_2])], ps (by kernel_rfl), ?_⟩
    refine N_run 5 [(0, .pointer hv), (1, .int .u64 wv), (4, .pointer (some (Addr.mk b 0 none))), (8, .slice raB raN raC), (9, .bool rb_2)] (fun w => by kernel_rfl) ?_
    refine N_end (by kernel_rfl) ?_
    refine S_then ?_
    refine S_seq kk15 kk16 (by kernel_rfl) ?_
    refine S_seq kk17 kk18 (by kernel_rfl) ?_
    refine S_region 5 (Code.ops kk17) (by kernel_rfl) ?_
    refine N_run 2 [(0, .pointer hv), (1, .int .u64 wv), (4, .pointer (some (Addr.mk b 0 none))), (8, .slice raB raN raC), (28, .bool (!rb_2))] (fun w => by kernel_rfl) ?_
    refine N_end (by kernel_rfl) ?_
    refine S_then ?_
    by_cases c8 : rb_2 = true
    · rw [if_pos c8] at h
      have b9 : (!rb_2) = false := congrArg Bool.not (c8)
      have b92 : rb_2 = true := c8
      refine S_env [(0, .pointer hv), (1, .int .u64 wv), (4, .pointer (some (Addr.mk b 0 none))), (8, .slice raB raN raC), (28, .bool false)] (by simp only [b9, b92, Bool.not_true, Bool.not_false]) ?_
      clear b9 b92
      refine S_condF (.tmp 28) kk19 kk20 (by kernel_rfl) (by kernel_rfl) ?_
      refine S_skip (by kernel_rfl) ?_
      refine S_then ?_
      refine S_seq kk21 kk22 (by kernel_rfl) ?_
      refine S_region 7 (Code.ops kk21) (by kernel_rfl) ?_
      refine N_run 2 [(0, .pointer hv), (1, .int .u64 wv), (4, .pointer (some (Addr.mk b 0 none))), (8, .slice raB raN raC), (30, .pointer hv), (31, .int .u64 wv)] (fun w => by kernel_rfl) ?_
      refine N_call (some 32) 71 #[.pointer hv, .int .u64 wv] (fun w => by kernel_rfl) h ?_; clear h
      rintro v_4 H6 ⟨x, rfl, h⟩
      refine ⟨[(0, .pointer hv), (1, .int .u64 wv), (4, .pointer (some (Addr.mk b 0 none))), (8, .slice raB raN raC), (32, .int .u64 x)], ps (by kernel_rfl), ?_⟩
      refine N_run 2 [(0, .pointer hv), (1, .int .u64 wv), (4, .pointer (some (Addr.mk b 0 none))), (8, .slice raB raN raC), (34, .agg #[.bool (x == 1), .slice none 0 0])] (fun w => by kernel_rfl) ?_
      refine N_new (some 10) (fun b => .pointer (some (Addr.mk b 0 none))) (.cells #[.bool false, .slice none 0 0] 70) (fun w => by kernel_rfl) ?_
      intro b_2 H7 e10 e11
      replace h := h b_2 H7 e10 e11
      refine ⟨[(0, .pointer hv), (1, .int .u64 wv), (4, .pointer (some (Addr.mk b 0 none))), (8, .slice raB raN raC), (10, .pointer (some (Addr.mk b_2 0 none))), (34, .agg #[.bool (x == 1), .slice none 0 0])], ps (by kernel_rfl), ?_⟩
      obtain ⟨q13, h⟩ := h
      refine N_skipop none (storeN 70 (.pointer (some (Addr.mk b_2 0 none))) (.agg #[.bool (x == 1), .slice none 0 0])) (fun Hz => Hz = hputs H7 (Addr.mk b_2 0 none) [.bool (x == 1), .slice none 0 0] 0) (fun w => by kernel_rfl) (ss_store [.bool (x == 1), .slice none 0 0] 2 (by kernel_rfl) (by kernel_rfl) (fun w => by kernel_rfl) (by kernel_rfl) q13) ?_
      intro H8 e12
      replace h := h H8 e12
      refine ⟨[(0, .pointer hv), (1, .int .u64 wv), (4, .pointer (some (Addr.mk b 0 none))), (8, .slice raB raN raC), (10, .pointer (some (Addr.mk b_2 0 none)))], ps (by kernel_rfl), ?_⟩
      refine N_end (by kernel_rfl) ?_
      refine S_then ?_
      refine S_seq kk23 kk24 (by kernel_rfl) ?_
      refine S_seq kk25 kk26 (by kernel_rfl) ?_
      refine S_region 8 (Code.ops kk25) (by kernel_rfl) ?_
      refine N_run 3 [(0, .pointer hv), (1, .int .u64 wv), (4, .pointer (some (Addr.mk b 0 none))), (10, .pointer (some (Addr.mk b_2 0 none))), (35, .slice raB raN raC), (36, .int .i64 (raN : Int)), (37, .int .i64 0)] (fun w => by kernel_rfl) ?_
      refine N_end (by kernel_rfl) ?_
      refine S_then ?_
      refine S_block 0 kk27 (by kernel_rfl) ?_
      obtain ⟨I29, m29, i14, i15⟩ := h
      refine S_loop (x := kk28) (σ := Int) (fun s_ => [(0, .pointer hv), (1, .int .u64 wv), (4, .pointer (some (Addr.mk b 0 none))), (10, .pointer (some (Addr.mk b_2 0 none))), (35, .slice raB raN raC), (36, .int .i64 (raN : Int)), (37, .int .i64 s_)]) (fun s_ H => I29 s_ H) (fun s_ H => m29 s_ H) (0 : Int) (by kernel_rfl) i14 (sb (by kernel_rfl)) ?_
      rintro s37 H9 i16
      have h := i15 s37 H9 i16
      refine S_sub [(0, .pointer hv), (1, .int .u64 wv), (4, .pointer (some (Addr.mk b 0 none))), (10, .pointer (some (Addr.mk b_2 0 none))), (35, .slice raB raN raC), (36, .int .i64 (raN : Int)), (37, .int .i64 s37)] (sb (by kernel_rfl)) ?_
      refine S_seq kk29 kk30 (by kernel_rfl) ?_
      refine S_region 9 (Code.ops kk29) (by kernel_rfl) ?_
      refine N_run 1 [(0, .pointer hv), (1, .int .u64 wv), (4, .pointer (some (Addr.mk b 0 none))), (10, .pointer (some (Addr.mk b_2 0 none))), (35, .slice raB raN raC), (36, .int .i64 (raN : Int)), (37, .int .i64 s37), (38, .bool (decide (s37 < (raN : Int))))] (fun w => by kernel_rfl) ?_
      refine N_end (by kernel_rfl) ?_
      refine S_then ?_
      refine S_seq kk31 kk32 (by kernel_rfl) ?_
      by_cases c17 : s37 < (raN : Int)
      · rw [if_pos c17] at h
        have b18 : (decide (s37 < (raN : Int))) = true := decide_eq_true c17
        refine S_env [(0, .pointer hv), (1, .int .u64 wv), (4, .pointer (some (Addr.mk b 0 none))), (10, .pointer (some (Addr.mk b_2 0 none))), (35, .slice raB raN raC), (36, .int .i64 (raN : Int)), (37, .int .i64 s37), (38, .bool true)] (by simp only [b18, Bool.not_true, Bool.not_false]) ?_
        clear b18
        refine S_condT (.tmp 38) kk33 kk34 (by kernel_rfl) (by kernel_rfl) ?_
        refine S_skip (by kernel_rfl) ?_
        refine S_then ?_
        refine S_seq kk35 kk36 (by kernel_rfl) ?_
        refine S_block 1 kk37 (by kernel_rfl) ?_
        refine S_seq kk38 kk39 (by kernel_rfl) ?_
        refine S_region 10 (Code.ops kk38) (by kernel_rfl) ?_
        refine N_sub [(0, .pointer hv), (1, .int .u64 wv), (4, .pointer (some (Addr.mk b 0 none))), (10, .pointer (some (Addr.mk b_2 0 none))), (35, .slice raB raN raC), (36, .int .i64 (raN : Int)), (37, .int .i64 s37)] (sb (by kernel_rfl)) ?_
        obtain ⟨raBA, rfl, h⟩ := h
        obtain ⟨q19, h⟩ := h
        refine N_val (some 39) (indexAtN 39 (.slice (some raBA) raN raC) (.int .i64 s37)) (.pointer (some (raBA.add (Int.toNat s37 * 1)))) (fun w => by kernel_rfl) (fun w _ => indexAt_run (P := Try.prog) (t := 39) (elem := 29) (sz := 1) (a := raBA) (len := raN) (cap := raC) (k := .i64) (i := s37) Try.underlying39 (fun w => by kernel_rfl) q19.1 q19.2 w) [(0, .pointer hv), (1, .int .u64 wv), (4, .pointer (some (Addr.mk b 0 none))), (10, .pointer (some (Addr.mk b_2 0 none))), (35, .slice (some raBA) raN raC), (36, .int .i64 (raN : Int)), (37, .int .i64 s37), (39, .pointer (some (raBA.add (Int.toNat s37 * 1))))] (ps (by kernel_rfl)) ?_
        obtain ⟨x_2, q20, h⟩ := h
        refine N_val (some 40) (loadN 29 (.pointer (some (raBA.add (Int.toNat s37 * 1))))) (.int .u64 x_2) (fun w => by kernel_rfl) (loadN_run (loadOK_one (fun w => by kernel_rfl) q20)) [(0, .pointer hv), (1, .int .u64 wv), (4, .pointer (some (Addr.mk b 0 none))), (10, .pointer (some (Addr.mk b_2 0 none))), (35, .slice (some raBA) raN raC), (36, .int .i64 (raN : Int)), (37, .int .i64 s37), (40, .int .u64 x_2)] (ps (by kernel_rfl)) ?_
        refine N_run 1 [(0, .pointer hv), (1, .int .u64 wv), (4, .pointer (some (Addr.mk b 0 none))), (10, .pointer (some (Addr.mk b_2 0 none))), (12, .int .u64 x_2), (35, .slice (some raBA) raN raC), (36, .int .i64 (raN : Int)), (37, .int .i64 s37)] (fun w => by kernel_rfl) ?_
        refine N_end (by kernel_rfl) ?_
        refine S_then ?_
        refine S_region 11 (Code.ops kk39) (by kernel_rfl) ?_
        refine N_run 1 [(0, .pointer hv), (1, .int .u64 wv), (4, .pointer (some (Addr.mk b 0 none))), (10, .pointer (some (Addr.mk b_2 0 none))), (12, .int .u64 x_2), (35, .slice (some raBA) raN raC), (36, .int .i64 (raN : Int)), (37, .int .i64 s37), (41, .pointer (some ((Addr.mk b_2 0 none).add 1)))] (fun w => by kernel_rfl) ?_
        obtain ⟨xB, xN, xC, q21, h⟩ := h
        refine N_val (some 42) (loadN 40 (.pointer (some ((Addr.mk b_2 0 none).add 1)))) (.slice xB xN xC) (fun w => by kernel_rfl) (loadN_run (loadOK_one (fun w => by kernel_rfl) q21)) [(0, .pointer hv), (1, .int .u64 wv), (4, .pointer (some (Addr.mk b 0 none))), (10, .pointer (some (Addr.mk b_2 0 none))), (12, .int .u64 x_2), (35, .slice (some raBA) raN raC), (36, .int .i64 (raN : Int)), (37, .int .i64 s37), (42, .slice xB xN xC)] (ps (by kernel_rfl)) ?_
        refine N_run 2 [(0, .pointer hv), (1, .int .u64 wv), (4, .pointer (some (Addr.mk b 0 none))), (10, .pointer (some (Addr.mk b_2 0 none))), (35, .slice (some raBA) raN raC), (36, .int .i64 (raN : Int)), (37, .int .i64 s37), (42, .slice xB xN xC), (44, .int .u32 (IntKind.wrap .u32 x_2))] (fun w => by kernel_rfl) ?_
        refine N_new (some 45) (fun b => .slice (some (Addr.mk b 0 none)) 1 1) (.cells #[.int .u32 (IntKind.wrap .u32 x_2)] 41) (fun w => by kernel_rfl) ?_
        intro b_3 H10 e22 e23
        replace h := h b_3 H10 e22 e23
        refine ⟨[(0, .pointer hv), (1, .int .u64 wv), (4, .pointer (some (Addr.mk b 0 none))), (10, .pointer (some (Addr.mk b_2 0 none))), (35, .slice (some raBA) raN raC), (36, .int .i64 (raN : Int)), (37, .int .i64 s37), (42, .slice xB xN xC), (45, .slice (some (Addr.mk b_3 0 none)) 1 1)], ps (by kernel_rfl), ?_⟩
        refine N_op (some 46) (appendN #[40, 40] 40 #[.slice xB xN xC, .slice (some (Addr.mk b_3 0 none)) 1 1]) _ (fun w => by kernel_rfl) (ss_append (T := 41) (sz := 1) (bytes := 4) (zero := (.int .u32 0 : Value)) Try.underlying40 Try.underlying40 rfl (show Try.prog.info? 41 = some Try.t41 from by kernel_rfl) (by kernel_rfl) (by kernel_rfl) (by decide) (by kernel_rfl) (by first | exact h | (simpa only [Value.cells, List.toList_toArray] using h))) ?_
        rintro _ H11 ⟨ap, apC, rfl, h⟩
        refine ⟨[(0, .pointer hv), (1, .int .u64 wv), (4, .pointer (some (Addr.mk b 0 none))), (10, .pointer (some (Addr.mk b_2 0 none))), (35, .slice (some raBA) raN raC), (36, .int .i64 (raN : Int)), (37, .int .i64 s37), (46, .slice ap (xN + 1) apC)], ps (by kernel_rfl), ?_⟩
        refine N_run 1 [(0, .pointer hv), (1, .int .u64 wv), (4, .pointer (some (Addr.mk b 0 none))), (10, .pointer (some (Addr.mk b_2 0 none))), (35, .slice (some raBA) raN raC), (36, .int .i64 (raN : Int)), (37, .int .i64 s37), (46, .slice ap (xN + 1) apC), (47, .pointer (some ((Addr.mk b_2 0 none).add 1)))] (fun w => by kernel_rfl) ?_
        obtain ⟨q25, h⟩ := h
        refine N_skipop none (storeN 40 (.pointer (some ((Addr.mk b_2 0 none).add 1))) (.slice ap (xN + 1) apC)) (fun Hz => Hz = hputs H11 ((Addr.mk b_2 0 none).add 1) [.slice ap (xN + 1) apC] 0) (fun w => by kernel_rfl) (ss_store [.slice ap (xN + 1) apC] 1 (by kernel_rfl) (by kernel_rfl) (fun w => by kernel_rfl) (by kernel_rfl) q25) ?_
        intro H12 e24
        replace h := h H12 e24
        refine ⟨[(0, .pointer hv), (1, .int .u64 wv), (4, .pointer (some (Addr.mk b 0 none))), (10, .pointer (some (Addr.mk b_2 0 none))), (35, .slice (some raBA) raN raC), (36, .int .i64 (raN : Int)), (37, .int .i64 s37)], ps (by kernel_rfl), ?_⟩
        refine N_end (by kernel_rfl) ?_
        refine S_blockEnd ?_
        refine S_then ?_
        refine S_region 12 (Code.ops kk36) (by kernel_rfl) ?_
        refine N_run 2 [(0, .pointer hv), (1, .int .u64 wv), (4, .pointer (some (Addr.mk b 0 none))), (10, .pointer (some (Addr.mk b_2 0 none))), (35, .slice (some raBA) raN raC), (36, .int .i64 (raN : Int)), (37, .int .i64 (IntKind.wrap .i64 (s37 + 1)))] (fun w => by kernel_rfl) ?_
        refine N_end (by kernel_rfl) ?_
        refine S_then ?_
        exact S_round ((IntKind.wrap .i64 (s37 + 1)) : Int) (sb (by kernel_rfl)) h
      · rw [if_neg c17] at h
        have b18 : (decide (s37 < (raN : Int))) = false := decide_eq_false c17
        refine S_env [(0, .pointer hv), (1, .int .u64 wv), (4, .pointer (some (Addr.mk b 0 none))), (10, .pointer (some (Addr.mk b_2 0 none))), (35, .slice raB raN raC), (36, .int .i64 (raN : Int)), (37, .int .i64 s37), (38, .bool false)] (by simp only [b18, Bool.not_true, Bool.not_false]) ?_
        clear b18
        refine S_condF (.tmp 38) kk33 kk34 (by kernel_rfl) (by kernel_rfl) ?_
        refine S_exit 0 (by kernel_rfl) ?_
        refine S_exitThen ?_
        refine S_exitThen ?_
        refine S_exitHere ?_
        refine S_then ?_
        refine S_seq kk40 kk41 (by kernel_rfl) ?_
        refine S_seq kk42 kk43 (by kernel_rfl) ?_
        refine S_region 13 (Code.ops kk42) (by kernel_rfl) ?_
        refine N_sub [(0, .pointer hv), (1, .int .u64 wv), (4, .pointer (some (Addr.mk b 0 none))), (10, .pointer (some (Addr.mk b_2 0 none)))] (sb (by kernel_rfl)) ?_
        obtain ⟨xNeg_2, xMagB_2, xMagN_2, xMagC_2, q26, h⟩ := h
        refine N_val (some 49) (loadN 70 (.pointer (some (Addr.mk b_2 0 none)))) (.agg #[.bool xNeg_2, .slice xMagB_2 xMagN_2 xMagC_2]) (fun w => by kernel_rfl) (loadN_run (loadOK_row (fun w => by kernel_rfl) (fun w => by kernel_rfl) q26)) [(0, .pointer hv), (1, .int .u64 wv), (4, .pointer (some (Addr.mk b 0 none))), (10, .pointer (some (Addr.mk b_2 0 none))), (49, .agg #[.bool xNeg_2, .slice xMagB_2 xMagN_2 xMagC_2])] (ps (by kernel_rfl)) ?_
        refine N_call (some 50) 72 #[.agg #[.bool xNeg_2, .slice xMagB_2 xMagN_2 xMagC_2]] (fun w => by kernel_rfl) h ?_; clear h
        rintro v_5 H13 ⟨x_3, rfl, h⟩
        refine ⟨[(0, .pointer hv), (1, .int .u64 wv), (4, .pointer (some (Addr.mk b 0 none))), (10, .pointer (some (Addr.mk b_2 0 none))), (50, .bool x_3)], ps (by kernel_rfl), ?_⟩
        refine N_run 2 [(0, .pointer hv), (1, .int .u64 wv), (4, .pointer (some (Addr.mk b 0 none))), (10, .pointer (some (Addr.mk b_2 0 none))), (52, .bool (!x_3))] (fun w => by kernel_rfl) ?_
        by_cases c27 : x_3 = true
        · rw [if_pos c27] at h
          have b28 : (!x_3) = false := congrArg Bool.not (c27)
          have b282 : x_3 = true := c27
          refine N_env [(0, .pointer hv), (1, .int .u64 wv), (4, .pointer (some (Addr.mk b 0 none))), (10, .pointer (some (Addr.mk b_2 0 none))), (52, .bool false)] (by simp only [b28, b282, Bool.not_true, Bool.not_false]) ?_
          clear b28 b282
          refine N_run 2 [(4, .pointer (some (Addr.mk b 0 none))), (10, .pointer (some (Addr.mk b_2 0 none))), (52, .bool false), (53, .pointer hv), (54, .int .u64 wv)] (fun w => by kernel_rfl) ?_
          refine N_call (some 55) 71 #[.pointer hv, .int .u64 wv] (fun w => by kernel_rfl) h ?_; clear h
          rintro v_6 H14 ⟨x_4, rfl, h⟩
          refine ⟨[(4, .pointer (some (Addr.mk b 0 none))), (10, .pointer (some (Addr.mk b_2 0 none))), (52, .bool false), (55, .int .u64 x_4)], ps (by kernel_rfl), ?_⟩
          refine N_run 2 [(4, .pointer (some (Addr.mk b 0 none))), (10, .pointer (some (Addr.mk b_2 0 none))), (57, .bool (decide (x_4 > 1)))] (fun w => by kernel_rfl) ?_
          refine N_end (by kernel_rfl) ?_
          refine S_then ?_
          by_cases c29 : x_4 > 1
          · rw [if_pos c29] at h
            have b30 : (decide (x_4 > 1)) = true := decide_eq_true c29
            refine S_env [(4, .pointer (some (Addr.mk b 0 none))), (10, .pointer (some (Addr.mk b_2 0 none))), (57, .bool true)] (by simp only [b30, Bool.not_true, Bool.not_false]) ?_
            clear b30
            refine S_condT (.tmp 57) kk44 kk45 (by kernel_rfl) (by kernel_rfl) ?_
            refine S_seq kk46 kk47 (by kernel_rfl) ?_
            refine S_region 14 (Code.ops kk46) (by kernel_rfl) ?_
            refine N_run 1 [(4, .pointer (some (Addr.mk b 0 none))), (58, .agg #[.bool false, .slice none 0 0])] (fun w => by kernel_rfl) ?_
            obtain ⟨q32, h⟩ := h
            refine N_skipop none (storeN 70 (.pointer (some (Addr.mk b 0 none))) (.agg #[.bool false, .slice none 0 0])) (fun Hz => Hz = hputs H14 (Addr.mk b 0 none) [.bool false, .slice none 0 0] 0) (fun w => by kernel_rfl) (ss_store [.bool false, .slice none 0 0] 2 (by kernel_rfl) (by kernel_rfl) (fun w => by kernel_rfl) (by kernel_rfl) q32) ?_
            intro H15 e31
            replace h := h H15 e31
            refine ⟨[(4, .pointer (some (Addr.mk b 0 none)))], ps (by kernel_rfl), ?_⟩
            refine N_run 1 [(4, .pointer (some (Addr.mk b 0 none))), (5, .int .i64 3)] (fun w => by kernel_rfl) ?_
            refine N_end (by kernel_rfl) ?_
            refine S_then ?_
            refine S_ret (by kernel_rfl) ?_
            show At _ _ _ _ _ (Q .ret)
            obtain ⟨rNeg_2, rMagB_2, rMagN_2, rMagC_2, q33, h⟩ := h
            exact S_done (fn := Try.f43) [.agg #[.bool rNeg_2, .slice rMagB_2 rMagN_2 rMagC_2], .int .i64 3] hQ (show ResOK _ _ _ [.cell 4 70, .tmp 5] _ from .cell (by kernel_rfl) (loadOK_row (fun w => by kernel_rfl) (fun w => by kernel_rfl) q33) (.tmp (by kernel_rfl) (.nil))) h
          · rw [if_neg c29] at h
            have b30 : (decide (x_4 > 1)) = false := decide_eq_false c29
            refine S_env [(4, .pointer (some (Addr.mk b 0 none))), (10, .pointer (some (Addr.mk b_2 0 none))), (57, .bool false)] (by simp only [b30, Bool.not_true, Bool.not_false]) ?_
            clear b30
            refine S_condF (.tmp 57) kk44 kk45 (by kernel_rfl) (by kernel_rfl) ?_
            refine S_skip (by kernel_rfl) ?_
            refine S_then ?_
            refine S_seq kk48 kk49 (by kernel_rfl) ?_
            refine S_region 15 (Code.ops kk48) (by kernel_rfl) ?_
            refine N_sub [(4, .pointer (some (Addr.mk b 0 none))), (10, .pointer (some (Addr.mk b_2 0 none)))] (sb (by kernel_rfl)) ?_
            obtain ⟨xNeg_3, xMagB_3, xMagN_3, xMagC_3, q34, h⟩ := h
            refine N_val (some 59) (loadN 70 (.pointer (some (Addr.mk b_2 0 none)))) (.agg #[.bool xNeg_3, .slice xMagB_3 xMagN_3 xMagC_3]) (fun w => by kernel_rfl) (loadN_run (loadOK_row (fun w => by kernel_rfl) (fun w => by kernel_rfl) q34)) [(4, .pointer (some (Addr.mk b 0 none))), (59, .agg #[.bool xNeg_3, .slice xMagB_3 xMagN_3 xMagC_3])] (ps (by kernel_rfl)) ?_
            obtain ⟨q36, h⟩ := h
            refine N_skipop none (storeN 70 (.pointer (some (Addr.mk b 0 none))) (.agg #[.bool xNeg_3, .slice xMagB_3 xMagN_3 xMagC_3])) (fun Hz => Hz = hputs H14 (Addr.mk b 0 none) [.bool xNeg_3, .slice xMagB_3 xMagN_3 xMagC_3] 0) (fun w => by kernel_rfl) (ss_store [.bool xNeg_3, .slice xMagB_3 xMagN_3 xMagC_3] 2 (by kernel_rfl) (by kernel_rfl) (fun w => by kernel_rfl) (by kernel_rfl) q36) ?_
            intro H16 e35
            replace h := h H16 e35
            refine ⟨[(4, .pointer (some (Addr.mk b 0 none)))], ps (by kernel_rfl), ?_⟩
            refine N_run 1 [(4, .pointer (some (Addr.mk b 0 none))), (5, .int .i64 0)] (fun w => by kernel_rfl) ?_
            refine N_end (by kernel_rfl) ?_
            refine S_then ?_
            refine S_ret (by kernel_rfl) ?_
            show At _ _ _ _ _ (Q .ret)
            obtain ⟨rNeg_3, rMagB_3, rMagN_3, rMagC_3, q37, h⟩ := h
            exact S_done (fn := Try.f43) [.agg #[.bool rNeg_3, .slice rMagB_3 rMagN_3 rMagC_3], .int .i64 0] hQ (show ResOK _ _ _ [.cell 4 70, .tmp 5] _ from .cell (by kernel_rfl) (loadOK_row (fun w => by kernel_rfl) (fun w => by kernel_rfl) q37) (.tmp (by kernel_rfl) (.nil))) h
        · rw [if_neg c27] at h
          have b28 : (!x_3) = true := congrArg Bool.not (eq_false_of_ne_true c27)
          have b282 : x_3 = false := eq_false_of_ne_true c27
          refine N_env [(0, .pointer hv), (1, .int .u64 wv), (4, .pointer (some (Addr.mk b 0 none))), (10, .pointer (some (Addr.mk b_2 0 none))), (52, .bool true)] (by simp only [b28, b282, Bool.not_true, Bool.not_false]) ?_
          clear b28 b282
          refine N_run 5 [(4, .pointer (some (Addr.mk b 0 none))), (10, .pointer (some (Addr.mk b_2 0 none))), (57, .bool true)] (fun w => by kernel_rfl) ?_
          refine N_end (by kernel_rfl) ?_
          refine S_then ?_
          refine S_condT (.tmp 57) kk44 kk45 (by kernel_rfl) (by kernel_rfl) ?_
          refine S_seq kk46 kk47 (by kernel_rfl) ?_
          refine S_region 14 (Code.ops kk46) (by kernel_rfl) ?_
          refine N_run 1 [(4, .pointer (some (Addr.mk b 0 none))), (58, .agg #[.bool false, .slice none 0 0])] (fun w => by kernel_rfl) ?_
          obtain ⟨q39, h⟩ := h
          refine N_skipop none (storeN 70 (.pointer (some (Addr.mk b 0 none))) (.agg #[.bool false, .slice none 0 0])) (fun Hz => Hz = hputs H13 (Addr.mk b 0 none) [.bool false, .slice none 0 0] 0) (fun w => by kernel_rfl) (ss_store [.bool false, .slice none 0 0] 2 (by kernel_rfl) (by kernel_rfl) (fun w => by kernel_rfl) (by kernel_rfl) q39) ?_
          intro H17 e38
          replace h := h H17 e38
          refine ⟨[(4, .pointer (some (Addr.mk b 0 none)))], ps (by kernel_rfl), ?_⟩
          refine N_run 1 [(4, .pointer (some (Addr.mk b 0 none))), (5, .int .i64 3)] (fun w => by kernel_rfl) ?_
          refine N_end (by kernel_rfl) ?_
          refine S_then ?_
          refine S_ret (by kernel_rfl) ?_
          show At _ _ _ _ _ (Q .ret)
          obtain ⟨rNeg_4, rMagB_4, rMagN_4, rMagC_4, q40, h⟩ := h
          exact S_done (fn := Try.f43) [.agg #[.bool rNeg_4, .slice rMagB_4 rMagN_4 rMagC_4], .int .i64 3] hQ (show ResOK _ _ _ [.cell 4 70, .tmp 5] _ from .cell (by kernel_rfl) (loadOK_row (fun w => by kernel_rfl) (fun w => by kernel_rfl) q40) (.tmp (by kernel_rfl) (.nil))) h
    · rw [if_neg c8] at h
      have b9 : (!rb_2) = true := congrArg Bool.not (eq_false_of_ne_true c8)
      have b92 : rb_2 = false := eq_false_of_ne_true c8
      refine S_env [(0, .pointer hv), (1, .int .u64 wv), (4, .pointer (some (Addr.mk b 0 none))), (8, .slice raB raN raC), (28, .bool true)] (by simp only [b9, b92, Bool.not_true, Bool.not_false]) ?_
      clear b9 b92
      refine S_condT (.tmp 28) kk19 kk20 (by kernel_rfl) (by kernel_rfl) ?_
      refine S_seq kk50 kk51 (by kernel_rfl) ?_
      refine S_region 6 (Code.ops kk50) (by kernel_rfl) ?_
      refine N_run 1 [(4, .pointer (some (Addr.mk b 0 none))), (29, .agg #[.bool false, .slice none 0 0])] (fun w => by kernel_rfl) ?_
      obtain ⟨q42, h⟩ := h
      refine N_skipop none (storeN 70 (.pointer (some (Addr.mk b 0 none))) (.agg #[.bool false, .slice none 0 0])) (fun Hz => Hz = hputs H5 (Addr.mk b 0 none) [.bool false, .slice none 0 0] 0) (fun w => by kernel_rfl) (ss_store [.bool false, .slice none 0 0] 2 (by kernel_rfl) (by kernel_rfl) (fun w => by kernel_rfl) (by kernel_rfl) q42) ?_
      intro H18 e41
      replace h := h H18 e41
      refine ⟨[(4, .pointer (some (Addr.mk b 0 none)))], ps (by kernel_rfl), ?_⟩
      refine N_run 1 [(4, .pointer (some (Addr.mk b 0 none))), (5, .int .i64 3)] (fun w => by kernel_rfl) ?_
      refine N_end (by kernel_rfl) ?_
      refine S_then ?_
      refine S_ret (by kernel_rfl) ?_
      show At _ _ _ _ _ (Q .ret)
      obtain ⟨rNeg_5, rMagB_5, rMagN_5, rMagC_5, q43, h⟩ := h
      exact S_done (fn := Try.f43) [.agg #[.bool rNeg_5, .slice rMagB_5 rMagN_5 rMagC_5], .int .i64 3] hQ (show ResOK _ _ _ [.cell 4 70, .tmp 5] _ from .cell (by kernel_rfl) (loadOK_row (fun w => by kernel_rfl) (fun w => by kernel_rfl) q43) (.tmp (by kernel_rfl) (.nil))) h
end obj_Heap_Num

/-! (*moraine/obj.Heap).Vector -/
namespace obj_Heap_Vector
def kk0 := Func.code Try.f46
def kk1 := Code.fa kk0
def kk2 := Code.fb kk0
def kk3 := Code.fa kk2
def kk4 := Code.fb kk2
def kk5 := Code.fa kk3
def kk6 := Code.fa kk5
def kk7 := Code.fb kk5
def kk8 := Code.fa kk7
def kk9 := Code.fb kk7
def kk10 := Code.fa kk8
def kk11 := Code.fb kk8
def kk12 := Code.fa kk9
def kk13 := Code.fb kk9
def kk14 := Code.fa kk13
def kk15 := Code.fb kk13
def kk16 := Code.fa kk14
def kk17 := Code.fb kk14
def kk18 := Code.fa kk4
def kk19 := Code.fb kk4
end obj_Heap_Vector
def obj_Heap_Vector.pt (hv : Option Addr) (nv : Int) (fill : Int) (H : Array Obj) (R : Value → Array Obj → Prop) : Prop :=
 if nv < 0 then (
  R (.tuple #[.int .u64 0, .int .i64 4]) H)
 else
 if nv > 62 then (
  R (.tuple #[.int .u64 0, .int .i64 6]) H)
 else
 ∀ (b : Nat) (H1 : Array Obj), b = H.size → H1 = H.push (.cells #[.int .u64 fill] 29) →
 slices_Repeat_api_Word_api_Word.C (some (Addr.mk b 0 none)) 1 1 nv H1 (fun v H2 => ∃ xB : Option Addr, ∃ xN : Nat, ∃ xC : Nat, v = .slice xB xN xC ∧ 
  obj_Heap_Make.C hv 1 0 xB xN xC H2 (fun v_2 H3 => ∃ ra : Int, ∃ rb : Int, v_2 = .tuple #[.int .u64 ra, .int .i64 rb] ∧ 
   R (.tuple #[.int .u64 ra, .int .i64 rb]) H3))
namespace obj_Heap_Vector
set_option maxRecDepth 100000 in
theorem link {hv : Option Addr} {nv : Int} {fill : Int} {H : Array Obj} {R : Value → Array Obj → Prop} (h : pt hv nv fill H R) : C hv nv fill H R := by
  refine S_enter (fn := Try.f46) (c := kk0) 22 Try.func46 (by kernel_rfl) (by kernel_rfl) (Nat.le_of_ble_eq_true (by kernel_rfl)) ?_
  intro w0 Q hQ
  unfold pt at h
  refine S_sub [(0, .pointer hv), (1, .int .i64 nv), (2, .int .u64 fill)] (sb (by kernel_rfl)) ?_
  refine S_seq kk1 kk2 (by kernel_rfl) ?_
  refine S_region 0 (Code.ops kk1) (by kernel_rfl) ?_
  refine N_run 2 [(0, .pointer hv), (1, .int .i64 nv), (2, .int .u64 fill)] (fun w => by kernel_rfl) ?_
  refine N_end (by kernel_rfl) ?_
  refine S_then ?_
  refine S_seq kk3 kk4 (by kernel_rfl) ?_
  refine S_block 0 kk5 (by kernel_rfl) ?_
  refine S_seq kk6 kk7 (by kernel_rfl) ?_
  refine S_region 1 (Code.ops kk6) (by kernel_rfl) ?_
  refine N_run 3 [(0, .pointer hv), (1, .int .i64 nv), (2, .int .u64 fill), (8, .bool (decide (nv < 0)))] (fun w => by kernel_rfl) ?_
  refine N_end (by kernel_rfl) ?_
  refine S_then ?_
  by_cases c1 : nv < 0
  · rw [if_pos c1] at h
    have b2 : (decide (nv < 0)) = true := decide_eq_true c1
    refine S_env [(0, .pointer hv), (1, .int .i64 nv), (2, .int .u64 fill), (8, .bool true)] (by simp only [b2, Bool.not_true, Bool.not_false]) ?_
    clear b2
    refine S_condT (.tmp 8) kk8 kk9 (by kernel_rfl) (by kernel_rfl) ?_
    refine S_seq kk10 kk11 (by kernel_rfl) ?_
    refine S_region 2 (Code.ops kk10) (by kernel_rfl) ?_
    refine N_run 2 [(6, .int .u64 0), (7, .int .i64 4)] (fun w => by kernel_rfl) ?_
    refine N_end (by kernel_rfl) ?_
    refine S_then ?_
    refine S_ret (by kernel_rfl) ?_
    show At _ _ _ _ _ (Q .ret)
    exact S_done (fn := Try.f46) [.int .u64 0, .int .i64 4] hQ (show ResOK _ _ _ [.tmp 6, .tmp 7] _ from .tmp (by kernel_rfl) (.tmp (by kernel_rfl) (.nil))) h
  · rw [if_neg c1] at h
    have b2 : (decide (nv < 0)) = false := decide_eq_false c1
    refine S_env [(0, .pointer hv), (1, .int .i64 nv), (2, .int .u64 fill), (8, .bool false)] (by simp only [b2, Bool.not_true, Bool.not_false]) ?_
    clear b2
    refine S_condF (.tmp 8) kk8 kk9 (by kernel_rfl) (by kernel_rfl) ?_
    refine S_seq kk12 kk13 (by kernel_rfl) ?_
    refine S_region 3 (Code.ops kk12) (by kernel_rfl) ?_
    refine N_run 3 [(0, .pointer hv), (1, .int .i64 nv), (2, .int .u64 fill), (11, .bool (decide (nv > 62)))] (fun w => by kernel_rfl) ?_
    refine N_end (by kernel_rfl) ?_
    refine S_then ?_
    by_cases c3 : nv > 62
    · rw [if_pos c3] at h
      have b4 : (decide (nv > 62)) = true := decide_eq_true c3
      refine S_env [(0, .pointer hv), (1, .int .i64 nv), (2, .int .u64 fill), (11, .bool true)] (by simp only [b4, Bool.not_true, Bool.not_false]) ?_
      clear b4
      refine S_condT (.tmp 11) kk14 kk15 (by kernel_rfl) (by kernel_rfl) ?_
      refine S_seq kk16 kk17 (by kernel_rfl) ?_
      refine S_region 4 (Code.ops kk16) (by kernel_rfl) ?_
      refine N_run 2 [(6, .int .u64 0), (7, .int .i64 6)] (fun w => by kernel_rfl) ?_
      refine N_end (by kernel_rfl) ?_
      refine S_then ?_
      refine S_ret (by kernel_rfl) ?_
      show At _ _ _ _ _ (Q .ret)
      exact S_done (fn := Try.f46) [.int .u64 0, .int .i64 6] hQ (show ResOK _ _ _ [.tmp 6, .tmp 7] _ from .tmp (by kernel_rfl) (.tmp (by kernel_rfl) (.nil))) h
    · rw [if_neg c3] at h
      have b4 : (decide (nv > 62)) = false := decide_eq_false c3
      refine S_env [(0, .pointer hv), (1, .int .i64 nv), (2, .int .u64 fill), (11, .bool false)] (by simp only [b4, Bool.not_true, Bool.not_false]) ?_
      clear b4
      refine S_condF (.tmp 11) kk14 kk15 (by kernel_rfl) (by kernel_rfl) ?_
      refine S_skip (by kernel_rfl) ?_
      refine S_blockEnd ?_
      refine S_then ?_
      refine S_seq kk18 kk19 (by kernel_rfl) ?_
      refine S_region 5 (Code.ops kk18) (by kernel_rfl) ?_
      refine N_run 2 [(1, .int .i64 nv), (14, .pointer hv), (15, .int .u64 fill)] (fun w => by kernel_rfl) ?_
      refine N_new (some 16) (fun b => .slice (some (Addr.mk b 0 none)) 1 1) (.cells #[.int .u64 fill] 29) (fun w => by kernel_rfl) ?_
      intro b H1 e5 e6
      replace h := h b H1 e5 e6
      refine ⟨[(1, .int .i64 nv), (14, .pointer hv), (16, .slice (some (Addr.mk b 0 none)) 1 1)], ps (by kernel_rfl), ?_⟩
      refine N_run 1 [(14, .pointer hv), (16, .slice (some (Addr.mk b 0 none)) 1 1), (17, .int .i64 nv)] (fun w => by kernel_rfl) ?_
      refine N_call (some 18) 74 #[.slice (some (Addr.mk b 0 none)) 1 1, .int .i64 nv] (fun w => by kernel_rfl) h ?_; clear h
      rintro v H2 ⟨xB, xN, xC, rfl, h⟩
      refine ⟨[(14, .pointer hv), (18, .slice xB xN xC)], ps (by kernel_rfl), ?_⟩
      refine N_call (some 19) 30 #[.pointer hv, .int .i64 1, .int .u64 0, .slice xB xN xC] (fun w => by kernel_rfl) h ?_; clear h
      rintro v_2 H3 ⟨ra, rb, rfl, h⟩
      refine ⟨[(19, .tuple #[.int .u64 ra, .int .i64 rb])], ps (by kernel_rfl), ?_⟩
      refine N_run 4 [(6, .int .u64 ra), (7, .int .i64 rb)] (fun w => by kernel_rfl) ?_
      refine N_end (by kernel_rfl) ?_
      refine S_then ?_
      refine S_ret (by kernel_rfl) ?_
      show At _ _ _ _ _ (Q .ret)
      exact S_done (fn := Try.f46) [.int .u64 ra, .int .i64 rb] hQ (show ResOK _ _ _ [.tmp 6, .tmp 7] _ from .tmp (by kernel_rfl) (.tmp (by kernel_rfl) (.nil))) h
end obj_Heap_Vector

/-! (*moraine/obj.Heap).words -/
namespace obj_Heap_words
def kk0 := Func.code Try.f68
def kk1 := Code.fa kk0
def kk2 := Code.fb kk0
def kk3 := Code.fa kk2
def kk4 := Code.fb kk2
def kk5 := Code.fa kk4
def kk6 := Code.fb kk4
def kk7 := Code.fa kk5
def kk8 := Code.fb kk5
def kk9 := Code.fa kk8
def kk10 := Code.fb kk8
def kk11 := Code.fa kk9
def kk12 := Code.fb kk9
def kk13 := Code.fa kk6
def kk14 := Code.fb kk6
def kk15 := Code.fa kk14
def kk16 := Code.fb kk14
def kk17 := Code.fa kk15
def kk18 := Code.fb kk15
def kk19 := Code.fa kk18
def kk20 := Code.fa kk19
def kk21 := Code.fa kk20
def kk22 := Code.fb kk20
def kk23 := Code.fa kk22
def kk24 := Code.fb kk22
def kk25 := Code.fa kk23
def kk26 := Code.fb kk23
def kk27 := Code.fa kk24
def kk28 := Code.fb kk24
def kk29 := Code.fa kk27
def kk30 := Code.fa kk29
def kk31 := Code.fb kk29
def kk32 := Code.fa kk16
def kk33 := Code.fb kk16
end obj_Heap_words
def obj_Heap_words.pt (hv : Option Addr) (wv : Int) (kind : Int) (H : Array Obj) (R : Value → Array Obj → Prop) : Prop :=
 obj_Heap_object.C hv wv H (fun v H1 => ∃ ra : Int, ∃ rb : Int, ∃ rc : Int, ∃ rd : Int, ∃ re : Bool, v = .tuple #[.int .i64 ra, .int .i64 rb, .int .i64 rc, .int .u64 rd, .bool re] ∧ 
  if ((!re) || (rb != kind)) = true then (
   R (.tuple #[.slice none 0 0, .bool false]) H1)
  else
  0 ≤ rc ∧ rc ≤ rc ∧ 8 * rc ≤ 2 ^ 48 ∧ rc ≤ 9223372036854775807 ∧
  ∀ (b : Nat) (H2 : Array Obj), b = H1.size → H2 = H1.push (.cells (Builtin.zeroCells #[.int .u64 0] (Int.toNat rc)) 29) →
  ∃ (I21 : Int → Array Obj → Prop) (m21 : Int → Array Obj → Nat), I21 0 H2 ∧ ∀ (s35 : Int) (H3 : Array Obj), I21 s35 H3 →
  if s35 < ((Int.toNat rc) : Int) then (
   ∃ hvA : Addr, hv = some hvA ∧
   ∃ x : Option Addr, hat H3 hvA = some (.pointer x) ∧
   ∃ xA : Addr, x = some xA ∧
   ∃ x_2 : Option Addr, hat H3 xA = some (.pointer x_2) ∧
   ∃ x2A : Addr, x_2 = some x2A ∧
   ∃ x_3 : Option Addr, hat H3 x2A = some (.pointer x_3) ∧
   seg_Mem_Read.C x_3 (IntKind.wrap .i64 ((IntKind.wrap .i64 (ra + 1)) + s35)) H3 (fun v_2 H4 => ∃ ra_2 : Int, ∃ rb_2 : Int, v_2 = .tuple #[.int .u64 ra_2, .int .i64 rb_2] ∧ 
    ((0 : Int) ≤ s35 ∧ s35 < ((Int.toNat rc) : Int)) ∧
    (CanPuts H4 ((Addr.mk b 0 none).add (Int.toNat s35 * 1)) 0 1) ∧ ∀ H5 : Array Obj, H5 = hputs H4 ((Addr.mk b 0 none).add (Int.toNat s35 * 1)) [.int .u64 ra_2] 0 →
    (I21 (IntKind.wrap .i64 (s35 + 1)) H5 ∧ m21 (IntKind.wrap .i64 (s35 + 1)) H5 < m21 s35 H3)))
  else
  R (.tuple #[.slice (some (Addr.mk b 0 none)) (Int.toNat rc) (Int.toNat rc), .bool true]) H3)
namespace obj_Heap_words
set_option maxRecDepth 100000 in
theorem link {hv : Option Addr} {wv : Int} {kind : Int} {H : Array Obj} {R : Value → Array Obj → Prop} (h : pt hv wv kind H R) : C hv wv kind H R := by
  refine S_enter (fn := Try.f68) (c := kk0) 61 Try.func68 (by kernel_rfl) (by kernel_rfl) (Nat.le_of_ble_eq_true (by kernel_rfl)) ?_
  intro w0 Q hQ
  unfold pt at h
  refine S_sub [(0, .pointer hv), (1, .int .u64 wv), (2, .int .i64 kind)] (sb (by kernel_rfl)) ?_
  refine S_seq kk1 kk2 (by kernel_rfl) ?_
  refine S_region 0 (Code.ops kk1) (by kernel_rfl) ?_
  refine N_run 2 [(0, .pointer hv), (1, .int .u64 wv), (2, .int .i64 kind)] (fun w => by kernel_rfl) ?_
  refine N_end (by kernel_rfl) ?_
  refine S_then ?_
  refine S_seq kk3 kk4 (by kernel_rfl) ?_
  refine S_region 1 (Code.ops kk3) (by kernel_rfl) ?_
  refine N_run 2 [(0, .pointer hv), (2, .int .i64 kind), (16, .pointer hv), (17, .int .u64 wv)] (fun w => by kernel_rfl) ?_
  refine N_call (some 18) 66 #[.pointer hv, .int .u64 wv] (fun w => by kernel_rfl) h ?_; clear h
  rintro v H1 ⟨ra, rb, rc, rd, re, rfl, h⟩
  refine ⟨[(0, .pointer hv), (2, .int .i64 kind), (18, .tuple #[.int .i64 ra, .int .i64 rb, .int .i64 rc, .int .u64 rd, .bool re])], ps (by kernel_rfl), ?_⟩
  refine N_run 11 [(0, .pointer hv), (2, .int .i64 kind), (8, .int .i64 ra), (9, .int .i64 rb), (10, .int .i64 rc), (12, .bool re)] (fun w => by kernel_rfl) ?_
  refine N_end (by kernel_rfl) ?_
  refine S_then ?_
  refine S_seq kk5 kk6 (by kernel_rfl) ?_
  refine S_seq kk7 kk8 (by kernel_rfl) ?_
  refine S_region 2 (Code.ops kk7) (by kernel_rfl) ?_
  refine N_cut [(0, .pointer hv), (8, .int .i64 ra), (10, .int .i64 rc), (30, .bool ((!re) || (rb != kind)))] ?_ ?_
  · refine S_then ?_
    by_cases c3 : ((!re) || (rb != kind)) = true
    · rw [if_pos c3] at h
      have b4 : ((!re) || (rb != kind)) = true := c3
      refine S_env [(0, .pointer hv), (8, .int .i64 ra), (10, .int .i64 rc), (30, .bool true)] (by simp only [b4, Bool.not_true, Bool.not_false]) ?_
      clear b4
      refine S_condT (.tmp 30) kk9 kk10 (by kernel_rfl) (by kernel_rfl) ?_
      refine S_seq kk11 kk12 (by kernel_rfl) ?_
      refine S_region 3 (Code.ops kk11) (by kernel_rfl) ?_
      refine N_run 2 [(6, .slice none 0 0), (7, .bool false)] (fun w => by kernel_rfl) ?_
      refine N_end (by kernel_rfl) ?_
      refine S_then ?_
      refine S_ret (by kernel_rfl) ?_
      show At _ _ _ _ _ (Q .ret)
      exact S_done (fn := Try.f68) [.slice none 0 0, .bool false] hQ (show ResOK _ _ _ [.tmp 6, .tmp 7] _ from .tmp (by kernel_rfl) (.tmp (by kernel_rfl) (.nil))) h
    · rw [if_neg c3] at h
      have b4 : ((!re) || (rb != kind)) = false := eq_false_of_ne_true c3
      refine S_env [(0, .pointer hv), (8, .int .i64 ra), (10, .int .i64 rc), (30, .bool false)] (by simp only [b4, Bool.not_true, Bool.not_false]) ?_
      clear b4
      refine S_condF (.tmp 30) kk9 kk10 (by kernel_rfl) (by kernel_rfl) ?_
      refine S_skip (by kernel_rfl) ?_
      refine S_then ?_
      refine S_seq kk13 kk14 (by kernel_rfl) ?_
      refine S_region 4 (Code.ops kk13) (by kernel_rfl) ?_
      refine N_run 1 [(0, .pointer hv), (8, .int .i64 ra), (31, .int .i64 rc)] (fun w => by kernel_rfl) ?_
      obtain ⟨q5, q6, q7, q8, h⟩ := h
      refine N_op (some 32) (makeSliceN 39 (.int .i64 rc) (.int .i64 rc)) (fun v Hz => v = Value.slice (some (Addr.mk H1.size 0 none)) (Int.toNat rc) (Int.toNat rc) ∧ Hz = H1.push (.cells (Builtin.zeroCells #[.int .u64 0] (Int.toNat rc)) 29)) (fun w => by kernel_rfl) (ss_make (T := 29) (zero := .int .u64 0) Try.underlying39 (show Try.prog.info? 29 = some Try.t29 from by kernel_rfl) (by kernel_rfl) q5 q6 q7 q8 (by kernel_rfl) (by decide)) ?_
      rintro _ H2 ⟨rfl, e10⟩
      obtain ⟨b, e9⟩ : ∃ b, b = H1.size := ⟨_, rfl⟩
      replace h := h b H2 e9 e10
      rw [← e9]
      refine ⟨[(0, .pointer hv), (8, .int .i64 ra), (32, .slice (some (Addr.mk b 0 none)) (Int.toNat rc) (Int.toNat rc))], ps (by kernel_rfl), ?_⟩
      refine N_run 1 [(0, .pointer hv), (8, .int .i64 ra), (13, .slice (some (Addr.mk b 0 none)) (Int.toNat rc) (Int.toNat rc))] (fun w => by kernel_rfl) ?_
      refine N_end (by kernel_rfl) ?_
      refine S_then ?_
      refine S_seq kk15 kk16 (by kernel_rfl) ?_
      refine S_seq kk17 kk18 (by kernel_rfl) ?_
      refine S_region 5 (Code.ops kk17) (by kernel_rfl) ?_
      refine N_run 3 [(0, .pointer hv), (8, .int .i64 ra), (13, .slice (some (Addr.mk b 0 none)) (Int.toNat rc) (Int.toNat rc)), (34, .int .i64 ((Int.toNat rc) : Int)), (35, .int .i64 0)] (fun w => by kernel_rfl) ?_
      refine N_end (by kernel_rfl) ?_
      refine S_then ?_
      refine S_block 0 kk19 (by kernel_rfl) ?_
      obtain ⟨I21, m21, i11, i12⟩ := h
      refine S_loop (x := kk20) (σ := Int) (fun s_ => [(0, .pointer hv), (8, .int .i64 ra), (13, .slice (some (Addr.mk b 0 none)) (Int.toNat rc) (Int.toNat rc)), (34, .int .i64 ((Int.toNat rc) : Int)), (35, .int .i64 s_)]) (fun s_ H => I21 s_ H) (fun s_ H => m21 s_ H) (0 : Int) (by kernel_rfl) i11 (sb (by kernel_rfl)) ?_
      rintro s35 H3 i13
      have h := i12 s35 H3 i13
      refine S_sub [(0, .pointer hv), (8, .int .i64 ra), (13, .slice (some (Addr.mk b 0 none)) (Int.toNat rc) (Int.toNat rc)), (34, .int .i64 ((Int.toNat rc) : Int)), (35, .int .i64 s35)] (sb (by kernel_rfl)) ?_
      refine S_seq kk21 kk22 (by kernel_rfl) ?_
      refine S_region 6 (Code.ops kk21) (by kernel_rfl) ?_
      refine N_run 1 [(0, .pointer hv), (8, .int .i64 ra), (13, .slice (some (Addr.mk b 0 none)) (Int.toNat rc) (Int.toNat rc)), (34, .int .i64 ((Int.toNat rc) : Int)), (35, .int .i64 s35), (36, .bool (decide (s35 < ((Int.toNat rc) : Int))))] (fun w => by kernel_rfl) ?_
      refine N_end (by kernel_rfl) ?_
      refine S_then ?_
      refine S_seq kk23 kk24 (by kernel_rfl) ?_
      by_cases c14 : s35 < ((Int.toNat rc) : Int)
      · rw [if_pos c14] at h
        have b15 : (decide (s35 < ((Int.toNat rc) : Int))) = true := decide_eq_true c14
        refine S_env [(0, .pointer hv), (8, .int .i64 ra), (13, .slice (some (Addr.mk b 0 none)) (Int.toNat rc) (Int.toNat rc)), (34, .int .i64 ((Int.toNat rc) : Int)), (35, .int .i64 s35), (36, .bool true)] (by simp only [b15, Bool.not_true, Bool.not_false]) ?_
        clear b15
        refine S_condT (.tmp 36) kk25 kk26 (by kernel_rfl) (by kernel_rfl) ?_
        refine S_skip (by kernel_rfl) ?_
        refine S_then ?_
        refine S_seq kk27 kk28 (by kernel_rfl) ?_
        refine S_block 1 kk29 (by kernel_rfl) ?_
        refine S_seq kk30 kk31 (by kernel_rfl) ?_
        refine S_region 7 (Code.ops kk30) (by kernel_rfl) ?_
        refine N_run 2 [(0, .pointer hv), (8, .int .i64 ra), (13, .slice (some (Addr.mk b 0 none)) (Int.toNat rc) (Int.toNat rc)), (14, .int .i64 s35), (34, .int .i64 ((Int.toNat rc) : Int)), (35, .int .i64 s35)] (fun w => by kernel_rfl) ?_
        refine N_end (by kernel_rfl) ?_
        refine S_then ?_
        refine S_region 8 (Code.ops kk31) (by kernel_rfl) ?_
        refine N_run 3 [(0, .pointer hv), (8, .int .i64 ra), (13, .slice (some (Addr.mk b 0 none)) (Int.toNat rc) (Int.toNat rc)), (14, .int .i64 s35), (34, .int .i64 ((Int.toNat rc) : Int)), (35, .int .i64 s35), (39, .slice (some (Addr.mk b 0 none)) (Int.toNat rc) (Int.toNat rc)), (40, .int .i64 s35), (41, .pointer hv)] (fun w => by kernel_rfl) ?_
        obtain ⟨hvA, rfl, h⟩ := h
        refine N_run 2 [(0, .pointer (some hvA)), (8, .int .i64 ra), (13, .slice (some (Addr.mk b 0 none)) (Int.toNat rc) (Int.toNat rc)), (14, .int .i64 s35), (34, .int .i64 ((Int.toNat rc) : Int)), (35, .int .i64 s35), (39, .slice (some (Addr.mk b 0 none)) (Int.toNat rc) (Int.toNat rc)), (40, .int .i64 s35), (43, .pointer (some hvA))] (fun w => by kernel_rfl) ?_
        obtain ⟨x, q16, h⟩ := h
        refine N_val (some 44) (loadN 57 (.pointer (some hvA))) (.pointer x) (fun w => by kernel_rfl) (loadN_run (loadOK_one (fun w => by kernel_rfl) q16)) [(0, .pointer (some hvA)), (8, .int .i64 ra), (13, .slice (some (Addr.mk b 0 none)) (Int.toNat rc) (Int.toNat rc)), (14, .int .i64 s35), (34, .int .i64 ((Int.toNat rc) : Int)), (35, .int .i64 s35), (39, .slice (some (Addr.mk b 0 none)) (Int.toNat rc) (Int.toNat rc)), (40, .int .i64 s35), (44, .pointer x)] (ps (by kernel_rfl)) ?_
        obtain ⟨xA, rfl, h⟩ := h
        refine N_run 2 [(0, .pointer (some hvA)), (8, .int .i64 ra), (13, .slice (some (Addr.mk b 0 none)) (Int.toNat rc) (Int.toNat rc)), (14, .int .i64 s35), (34, .int .i64 ((Int.toNat rc) : Int)), (35, .int .i64 s35), (39, .slice (some (Addr.mk b 0 none)) (Int.toNat rc) (Int.toNat rc)), (40, .int .i64 s35), (46, .pointer (some xA))] (fun w => by kernel_rfl) ?_
        obtain ⟨x_2, q17, h⟩ := h
        refine N_val (some 47) (loadN 107 (.pointer (some xA))) (.pointer x_2) (fun w => by kernel_rfl) (loadN_run (loadOK_one (fun w => by kernel_rfl) q17)) [(0, .pointer (some hvA)), (8, .int .i64 ra), (13, .slice (some (Addr.mk b 0 none)) (Int.toNat rc) (Int.toNat rc)), (14, .int .i64 s35), (34, .int .i64 ((Int.toNat rc) : Int)), (35, .int .i64 s35), (39, .slice (some (Addr.mk b 0 none)) (Int.toNat rc) (Int.toNat rc)), (40, .int .i64 s35), (47, .pointer x_2)] (ps (by kernel_rfl)) ?_
        obtain ⟨x2A, rfl, h⟩ := h
        refine N_run 2 [(0, .pointer (some hvA)), (8, .int .i64 ra), (13, .slice (some (Addr.mk b 0 none)) (Int.toNat rc) (Int.toNat rc)), (14, .int .i64 s35), (34, .int .i64 ((Int.toNat rc) : Int)), (35, .int .i64 s35), (39, .slice (some (Addr.mk b 0 none)) (Int.toNat rc) (Int.toNat rc)), (40, .int .i64 s35), (49, .pointer (some x2A))] (fun w => by kernel_rfl) ?_
        obtain ⟨x_3, q18, h⟩ := h
        refine N_val (some 50) (loadN 124 (.pointer (some x2A))) (.pointer x_3) (fun w => by kernel_rfl) (loadN_run (loadOK_one (fun w => by kernel_rfl) q18)) [(0, .pointer (some hvA)), (8, .int .i64 ra), (13, .slice (some (Addr.mk b 0 none)) (Int.toNat rc) (Int.toNat rc)), (14, .int .i64 s35), (34, .int .i64 ((Int.toNat rc) : Int)), (35, .int .i64 s35), (39, .slice (some (Addr.mk b 0 none)) (Int.toNat rc) (Int.toNat rc)), (40, .int .i64 s35), (50, .pointer x_3)] (ps (by kernel_rfl)) ?_
        refine N_run 4 [(0, .pointer (some hvA)), (8, .int .i64 ra), (13, .slice (some (Addr.mk b 0 none)) (Int.toNat rc) (Int.toNat rc)), (34, .int .i64 ((Int.toNat rc) : Int)), (35, .int .i64 s35), (39, .slice (some (Addr.mk b 0 none)) (Int.toNat rc) (Int.toNat rc)), (40, .int .i64 s35), (50, .pointer x_3), (54, .int .i64 (IntKind.wrap .i64 ((IntKind.wrap .i64 (ra + 1)) + s35)))] (fun w => by kernel_rfl) ?_
        refine N_call (some 55) 67 #[.pointer x_3, .int .i64 (IntKind.wrap .i64 ((IntKind.wrap .i64 (ra + 1)) + s35))] (fun w => by kernel_rfl) h ?_; clear h
        rintro v_2 H4 ⟨ra_2, rb_2, rfl, h⟩
        refine ⟨[(0, .pointer (some hvA)), (8, .int .i64 ra), (13, .slice (some (Addr.mk b 0 none)) (Int.toNat rc) (Int.toNat rc)), (34, .int .i64 ((Int.toNat rc) : Int)), (35, .int .i64 s35), (39, .slice (some (Addr.mk b 0 none)) (Int.toNat rc) (Int.toNat rc)), (40, .int .i64 s35), (55, .tuple #[.int .u64 ra_2, .int .i64 rb_2])], ps (by kernel_rfl), ?_⟩
        refine N_run 3 [(0, .pointer (some hvA)), (8, .int .i64 ra), (13, .slice (some (Addr.mk b 0 none)) (Int.toNat rc) (Int.toNat rc)), (34, .int .i64 ((Int.toNat rc) : Int)), (35, .int .i64 s35), (39, .slice (some (Addr.mk b 0 none)) (Int.toNat rc) (Int.toNat rc)), (40, .int .i64 s35), (56, .int .u64 ra_2)] (fun w => by kernel_rfl) ?_
        obtain ⟨q19, h⟩ := h
        refine N_val (some 58) (indexAtN 39 (.slice (some (Addr.mk b 0 none)) (Int.toNat rc) (Int.toNat rc)) (.int .i64 s35)) (.pointer (some ((Addr.mk b 0 none).add (Int.toNat s35 * 1)))) (fun w => by kernel_rfl) (fun w _ => indexAt_run (P := Try.prog) (t := 39) (elem := 29) (sz := 1) (a := (Addr.mk b 0 none)) (len := (Int.toNat rc)) (cap := (Int.toNat rc)) (k := .i64) (i := s35) Try.underlying39 (fun w => by kernel_rfl) q19.1 q19.2 w) [(0, .pointer (some hvA)), (8, .int .i64 ra), (13, .slice (some (Addr.mk b 0 none)) (Int.toNat rc) (Int.toNat rc)), (34, .int .i64 ((Int.toNat rc) : Int)), (35, .int .i64 s35), (56, .int .u64 ra_2), (58, .pointer (some ((Addr.mk b 0 none).add (Int.toNat s35 * 1))))] (ps (by kernel_rfl)) ?_
        obtain ⟨q21, h⟩ := h
        refine N_skipop none (storeN 29 (.pointer (some ((Addr.mk b 0 none).add (Int.toNat s35 * 1)))) (.int .u64 ra_2)) (fun Hz => Hz = hputs H4 ((Addr.mk b 0 none).add (Int.toNat s35 * 1)) [.int .u64 ra_2] 0) (fun w => by kernel_rfl) (ss_store [.int .u64 ra_2] 1 (by kernel_rfl) (by kernel_rfl) (fun w => by kernel_rfl) (by kernel_rfl) q21) ?_
        intro H5 e20
        replace h := h H5 e20
        refine ⟨[(0, .pointer (some hvA)), (8, .int .i64 ra), (13, .slice (some (Addr.mk b 0 none)) (Int.toNat rc) (Int.toNat rc)), (34, .int .i64 ((Int.toNat rc) : Int)), (35, .int .i64 s35)], ps (by kernel_rfl), ?_⟩
        refine N_end (by kernel_rfl) ?_
        refine S_blockEnd ?_
        refine S_then ?_
        refine S_region 9 (Code.ops kk28) (by kernel_rfl) ?_
        refine N_run 2 [(0, .pointer (some hvA)), (8, .int .i64 ra), (13, .slice (some (Addr.mk b 0 none)) (Int.toNat rc) (Int.toNat rc)), (34, .int .i64 ((Int.toNat rc) : Int)), (35, .int .i64 (IntKind.wrap .i64 (s35 + 1)))] (fun w => by kernel_rfl) ?_
        refine N_end (by kernel_rfl) ?_
        refine S_then ?_
        exact S_round ((IntKind.wrap .i64 (s35 + 1)) : Int) (sb (by kernel_rfl)) h
      · rw [if_neg c14] at h
        have b15 : (decide (s35 < ((Int.toNat rc) : Int))) = false := decide_eq_false c14
        refine S_env [(0, .pointer hv), (8, .int .i64 ra), (13, .slice (some (Addr.mk b 0 none)) (Int.toNat rc) (Int.toNat rc)), (34, .int .i64 ((Int.toNat rc) : Int)), (35, .int .i64 s35), (36, .bool false)] (by simp only [b15, Bool.not_true, Bool.not_false]) ?_
        clear b15
        refine S_condF (.tmp 36) kk25 kk26 (by kernel_rfl) (by kernel_rfl) ?_
        refine S_exit 0 (by kernel_rfl) ?_
        refine S_exitThen ?_
        refine S_exitThen ?_
        refine S_exitHere ?_
        refine S_then ?_
        refine S_seq kk32 kk33 (by kernel_rfl) ?_
        refine S_region 10 (Code.ops kk32) (by kernel_rfl) ?_
        refine N_run 3 [(6, .slice (some (Addr.mk b 0 none)) (Int.toNat rc) (Int.toNat rc)), (7, .bool true)] (fun w => by kernel_rfl) ?_
        refine N_end (by kernel_rfl) ?_
        refine S_then ?_
        refine S_ret (by kernel_rfl) ?_
        show At _ _ _ _ _ (Q .ret)
        exact S_done (fn := Try.f68) [.slice (some (Addr.mk b 0 none)) (Int.toNat rc) (Int.toNat rc), .bool true] hQ (show ResOK _ _ _ [.tmp 6, .tmp 7] _ from .tmp (by kernel_rfl) (.tmp (by kernel_rfl) (.nil))) h
  · intro hk
    refine N_run 3 [(0, .pointer hv), (2, .int .i64 kind), (8, .int .i64 ra), (9, .int .i64 rb), (10, .int .i64 rc), (26, .bool (!re))] (fun w => by kernel_rfl) ?_
    by_cases c1 : re = true
    · have b2 : (!re) = false := congrArg Bool.not (c1)
      have b22 : re = true := c1
      refine N_env [(0, .pointer hv), (2, .int .i64 kind), (8, .int .i64 ra), (9, .int .i64 rb), (10, .int .i64 rc), (26, .bool false)] (by simp only [b2, b22, Bool.not_true, Bool.not_false]) ?_
      refine N_run 4 [(0, .pointer hv), (8, .int .i64 ra), (10, .int .i64 rc), (30, .bool (rb != kind))] (fun w => by kernel_rfl) ?_
      refine N_end (by kernel_rfl) ?_
      refine S_env [(0, .pointer hv), (8, .int .i64 ra), (10, .int .i64 rc), (30, .bool ((!re) || (rb != kind)))] (by simp only [b2, Bool.true_or, Bool.false_or, Bool.or_true, Bool.or_false, Bool.true_and, Bool.false_and, Bool.and_true, Bool.and_false, Bool.not_true, Bool.not_false, cond_true, cond_false]) ?_
      exact hk
    · have b2 : (!re) = true := congrArg Bool.not (eq_false_of_ne_true c1)
      have b22 : re = false := eq_false_of_ne_true c1
      refine N_env [(0, .pointer hv), (2, .int .i64 kind), (8, .int .i64 ra), (9, .int .i64 rb), (10, .int .i64 rc), (26, .bool true)] (by simp only [b2, b22, Bool.not_true, Bool.not_false]) ?_
      refine N_run 4 [(0, .pointer hv), (8, .int .i64 ra), (10, .int .i64 rc), (30, .bool true)] (fun w => by kernel_rfl) ?_
      refine N_end (by kernel_rfl) ?_
      refine S_env [(0, .pointer hv), (8, .int .i64 ra), (10, .int .i64 rc), (30, .bool ((!re) || (rb != kind)))] (by simp only [b2, Bool.true_or, Bool.false_or, Bool.or_true, Bool.or_false, Bool.true_and, Bool.false_and, Bool.and_true, Bool.and_false, Bool.not_true, Bool.not_false, cond_true, cond_false]) ?_
      exact hk
end obj_Heap_words

end Go.Proofs.Ytfohlkiikppefaa
