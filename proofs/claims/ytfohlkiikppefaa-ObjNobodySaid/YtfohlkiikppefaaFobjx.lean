/-
  Written by a program of mine (gen.py): for functions of this translation a predicate transformer over heaps (.pt), and the proof that it is sound for the call (.link).
-/
import Derived.Test.YtfohlkiikppefaaFnsC
set_option linter.unusedSimpArgs false
set_option linter.unusedVariables false
set_option maxHeartbeats 1000000
noncomputable section
namespace Go.Proofs.Ytfohlkiikppefaa
open Go
/-! (*moraine/obj.Heap).String -/
namespace obj_Heap_String
def kk0 := Func.code Try.f39
def kk1 := Code.fa kk0
def kk2 := Code.fb kk0
def kk3 := Code.fa kk2
def kk4 := Code.fb kk2
def kk5 := Code.fa kk4
def kk6 := Code.fb kk4
def kk7 := Code.fa kk5
def kk8 := Code.fb kk5
def kk9 := Code.fa kk8
def kk10 := Code.fa kk9
def kk11 := Code.fa kk10
def kk12 := Code.fb kk10
def kk13 := Code.fa kk12
def kk14 := Code.fb kk12
def kk15 := Code.fa kk13
def kk16 := Code.fb kk13
def kk17 := Code.fa kk14
def kk18 := Code.fa kk17
def kk19 := Code.fb kk17
def kk20 := Code.fa kk19
def kk21 := Code.fb kk19
def kk22 := Code.fa kk21
def kk23 := Code.fb kk21
def kk24 := Code.fa kk23
def kk25 := Code.fb kk23
def kk26 := Code.fa kk24
def kk27 := Code.fb kk24
def kk28 := Code.fa kk6
def kk29 := Code.fb kk6
end obj_Heap_String
def obj_Heap_String.pt (hv : Option Addr) (s : ByteArray) (H : Array Obj) (R : Value → Array Obj → Prop) : Prop :=
 ∀ (b : Nat) (H1 : Array Obj), b = H.size → H1 = H.push (.stringIter s 0) →
 ∃ (I11 : (Option Addr) → Nat → Nat → Array Obj → Prop) (m11 : (Option Addr) → Nat → Nat → Array Obj → Nat), I11 none 0 0 H1 ∧ ∀ (lB : Option Addr) (lN : Nat) (lC : Nat) (H2 : Array Obj), I11 lB lN lC H2 →
 ∃ (s_2 : ByteArray) (pos : Nat), H2[b]? = some (.stringIter s_2 pos) ∧
 if pos < s_2.size then (∀ H3 : Array Obj, H3 = setBlk H2 b (.stringIter s_2 (pos + (Utf8.decode s_2 pos).2)) →
  ∀ (b_2 : Nat) (H4 : Array Obj), b_2 = H3.size → H4 = H3.push (.cells #[.int .u64 (IntKind.wrap .u64 ((Utf8.decode s_2 pos).1 : Int))] 29) →
  appendK 1 29 8 [.int .u64 0] lB lN lC (some (Addr.mk b_2 0 none)) 1 H4 (fun ap apC H5 =>
   if ((lN + 1) : Int) > 62 then (
    R (.tuple #[.int .u64 0, .int .i64 6]) H5)
   else
   (I11 ap (lN + 1) apC H5 ∧ m11 ap (lN + 1) apC H5 < m11 lB lN lC H2)))
 else
 obj_Heap_Make.C hv 2 0 lB lN lC H2 (fun v H6 => ∃ ra : Int, ∃ rb : Int, v = .tuple #[.int .u64 ra, .int .i64 rb] ∧ 
  R (.tuple #[.int .u64 ra, .int .i64 rb]) H6)
namespace obj_Heap_String
set_option maxRecDepth 100000 in
theorem link {hv : Option Addr} {s : ByteArray} {H : Array Obj} {R : Value → Array Obj → Prop} (h : pt hv s H R) : C hv s H R := by
  refine S_enter (fn := Try.f39) (c := kk0) 27 Try.func39 (by kernel_rfl) (by kernel_rfl) (Nat.le_of_ble_eq_true (by kernel_rfl)) ?_
  intro w0 Q hQ
  unfold pt at h
  refine S_sub [(0, .pointer hv), (1, .string s)] (sb (by kernel_rfl)) ?_
  refine S_seq kk1 kk2 (by kernel_rfl) ?_
  refine S_region 0 (Code.ops kk1) (by kernel_rfl) ?_
  refine N_run 2 [(0, .pointer hv), (1, .string s)] (fun w => by kernel_rfl) ?_
  refine N_end (by kernel_rfl) ?_
  refine S_then ?_
  refine S_seq kk3 kk4 (by kernel_rfl) ?_
  refine S_region 1 (Code.ops kk3) (by kernel_rfl) ?_
  refine N_run 1 [(0, .pointer hv), (1, .string s), (6, .slice none 0 0)] (fun w => by kernel_rfl) ?_
  refine N_end (by kernel_rfl) ?_
  refine S_then ?_
  refine S_seq kk5 kk6 (by kernel_rfl) ?_
  refine S_seq kk7 kk8 (by kernel_rfl) ?_
  refine S_region 2 (Code.ops kk7) (by kernel_rfl) ?_
  refine N_run 1 [(0, .pointer hv), (6, .slice none 0 0), (9, .string s)] (fun w => by kernel_rfl) ?_
  refine N_new (some 10) (fun b => .pointer (some (Addr.mk b 0 none))) (.stringIter s 0) (fun w => by kernel_rfl) ?_
  intro b H1 e1 e2
  replace h := h b H1 e1 e2
  refine ⟨[(0, .pointer hv), (6, .slice none 0 0), (10, .pointer (some (Addr.mk b 0 none)))], ps (by kernel_rfl), ?_⟩
  refine N_end (by kernel_rfl) ?_
  refine S_then ?_
  refine S_block 0 kk9 (by kernel_rfl) ?_
  obtain ⟨I11, m11, i3, i4⟩ := h
  refine S_loop (x := kk10) (σ := (Option Addr) × Nat × Nat) (fun s_ => [(0, .pointer hv), (6, .slice s_.1 s_.2.1 s_.2.2), (10, .pointer (some (Addr.mk b 0 none)))]) (fun s_ H => I11 s_.1 s_.2.1 s_.2.2 H) (fun s_ H => m11 s_.1 s_.2.1 s_.2.2 H) ((none, 0, 0) : (Option Addr) × Nat × Nat) (by kernel_rfl) i3 (sb (by kernel_rfl)) ?_
  rintro ⟨lB, lN, lC⟩ H2 i5
  have h := i4 lB lN lC H2 i5
  refine S_sub [(0, .pointer hv), (6, .slice lB lN lC), (10, .pointer (some (Addr.mk b 0 none)))] (sb (by kernel_rfl)) ?_
  refine S_seq kk11 kk12 (by kernel_rfl) ?_
  refine S_region 3 (Code.ops kk11) (by kernel_rfl) ?_
  obtain ⟨s_2, pos, q6, h⟩ := h
  by_cases c7 : pos < s_2.size
  · rw [if_pos c7] at h
    refine N_op (some 11) (nextN (.pointer (some (Addr.mk b 0 none))) true 0) _ (fun w => by kernel_rfl) (next_go q6 c7) ?_
    rintro _ H3 ⟨rfl, e12⟩
    replace h := h H3 (by assumption)
    refine ⟨[(0, .pointer hv), (6, .slice lB lN lC), (10, .pointer (some (Addr.mk b 0 none))), (11, .tuple #[.bool true, .int .i64 (pos : Int), .int .i32 ((Utf8.decode s_2 pos).1 : Int)])], ps (by kernel_rfl), ?_⟩
    refine N_run 1 [(0, .pointer hv), (6, .slice lB lN lC), (10, .pointer (some (Addr.mk b 0 none))), (11, .tuple #[.bool true, .int .i64 (pos : Int), .int .i32 ((Utf8.decode s_2 pos).1 : Int)]), (12, .bool true)] (fun w => by kernel_rfl) ?_
    refine N_end (by kernel_rfl) ?_
    refine S_then ?_
    refine S_seq kk13 kk14 (by kernel_rfl) ?_
    refine S_condT (.tmp 12) kk15 kk16 (by kernel_rfl) (by kernel_rfl) ?_
    refine S_skip (by kernel_rfl) ?_
    refine S_then ?_
    refine S_block 1 kk17 (by kernel_rfl) ?_
    refine S_seq kk18 kk19 (by kernel_rfl) ?_
    refine S_region 4 (Code.ops kk18) (by kernel_rfl) ?_
    refine N_run 2 [(0, .pointer hv), (6, .slice lB lN lC), (8, .int .i32 ((Utf8.decode s_2 pos).1 : Int)), (10, .pointer (some (Addr.mk b 0 none)))] (fun w => by kernel_rfl) ?_
    refine N_end (by kernel_rfl) ?_
    refine S_then ?_
    refine S_seq kk20 kk21 (by kernel_rfl) ?_
    refine S_region 5 (Code.ops kk20) (by kernel_rfl) ?_
    refine N_run 3 [(0, .pointer hv), (10, .pointer (some (Addr.mk b 0 none))), (14, .slice lB lN lC), (16, .int .u64 (IntKind.wrap .u64 ((Utf8.decode s_2 pos).1 : Int)))] (fun w => by kernel_rfl) ?_
    refine N_new (some 17) (fun b => .slice (some (Addr.mk b 0 none)) 1 1) (.cells #[.int .u64 (IntKind.wrap .u64 ((Utf8.decode s_2 pos).1 : Int))] 29) (fun w => by kernel_rfl) ?_
    intro b_2 H4 e8 e9
    replace h := h b_2 H4 e8 e9
    refine ⟨[(0, .pointer hv), (10, .pointer (some (Addr.mk b 0 none))), (14, .slice lB lN lC), (17, .slice (some (Addr.mk b_2 0 none)) 1 1)], ps (by kernel_rfl), ?_⟩
    refine N_op (some 18) (appendN #[39, 39] 39 #[.slice lB lN lC, .slice (some (Addr.mk b_2 0 none)) 1 1]) _ (fun w => by kernel_rfl) (ss_append (T := 29) (sz := 1) (bytes := 8) (zero := (.int .u64 0 : Value)) Try.underlying39 Try.underlying39 rfl (show Try.prog.info? 29 = some Try.t29 from by kernel_rfl) (by kernel_rfl) (by kernel_rfl) (by decide) (by kernel_rfl) (by first | exact h | (simpa only [Value.cells, List.toList_toArray] using h))) ?_
    rintro _ H5 ⟨ap, apC, rfl, h⟩
    refine ⟨[(0, .pointer hv), (10, .pointer (some (Addr.mk b 0 none))), (18, .slice ap (lN + 1) apC)], ps (by kernel_rfl), ?_⟩
    refine N_run 1 [(0, .pointer hv), (6, .slice ap (lN + 1) apC), (10, .pointer (some (Addr.mk b 0 none)))] (fun w => by kernel_rfl) ?_
    refine N_end (by kernel_rfl) ?_
    refine S_then ?_
    refine S_seq kk22 kk23 (by kernel_rfl) ?_
    refine S_region 6 (Code.ops kk22) (by kernel_rfl) ?_
    refine N_run 3 [(0, .pointer hv), (6, .slice ap (lN + 1) apC), (10, .pointer (some (Addr.mk b 0 none))), (21, .bool (decide (((lN + 1) : Int) > 62)))] (fun w => by kernel_rfl) ?_
    refine N_end (by kernel_rfl) ?_
    refine S_then ?_
    by_cases c10 : ((lN + 1) : Int) > 62
    · rw [if_pos c10] at h
      have b11 : (decide (((lN + 1) : Int) > 62)) = true := decide_eq_true c10
      refine S_env [(0, .pointer hv), (6, .slice ap (lN + 1) apC), (10, .pointer (some (Addr.mk b 0 none))), (21, .bool true)] (by simp only [b11, Bool.not_true, Bool.not_false]) ?_
      clear b11
      refine S_condT (.tmp 21) kk24 kk25 (by kernel_rfl) (by kernel_rfl) ?_
      refine S_seq kk26 kk27 (by kernel_rfl) ?_
      refine S_region 7 (Code.ops kk26) (by kernel_rfl) ?_
      refine N_run 2 [(4, .int .u64 0), (5, .int .i64 6)] (fun w => by kernel_rfl) ?_
      refine N_end (by kernel_rfl) ?_
      refine S_then ?_
      refine S_ret (by kernel_rfl) ?_
      show At _ _ _ _ _ (Q .ret)
      exact S_done (fn := Try.f39) [.int .u64 0, .int .i64 6] hQ (show ResOK _ _ _ [.tmp 4, .tmp 5] _ from .tmp (by kernel_rfl) (.tmp (by kernel_rfl) (.nil))) h
    · rw [if_neg c10] at h
      have b11 : (decide (((lN + 1) : Int) > 62)) = false := decide_eq_false c10
      refine S_env [(0, .pointer hv), (6, .slice ap (lN + 1) apC), (10, .pointer (some (Addr.mk b 0 none))), (21, .bool false)] (by simp only [b11, Bool.not_true, Bool.not_false]) ?_
      clear b11
      refine S_condF (.tmp 21) kk24 kk25 (by kernel_rfl) (by kernel_rfl) ?_
      refine S_skip (by kernel_rfl) ?_
      refine S_blockEnd ?_
      refine S_then ?_
      exact S_round ((ap, (lN + 1), apC) : (Option Addr) × Nat × Nat) (sb (by kernel_rfl)) h
  · rw [if_neg c7] at h
    refine N_op (some 11) (nextN (.pointer (some (Addr.mk b 0 none))) true 0) _ (fun w => by kernel_rfl) (next_end q6 c7) ?_
    rintro _ _ ⟨rfl, rfl⟩
    refine ⟨[(0, .pointer hv), (6, .slice lB lN lC), (10, .pointer (some (Addr.mk b 0 none))), (11, .tuple #[.bool false])], ps (by kernel_rfl), ?_⟩
    refine N_run 1 [(0, .pointer hv), (6, .slice lB lN lC), (10, .pointer (some (Addr.mk b 0 none))), (11, .tuple #[.bool false]), (12, .bool false)] (fun w => by kernel_rfl) ?_
    refine N_end (by kernel_rfl) ?_
    refine S_then ?_
    refine S_seq kk13 kk14 (by kernel_rfl) ?_
    refine S_condF (.tmp 12) kk15 kk16 (by kernel_rfl) (by kernel_rfl) ?_
    refine S_exit 0 (by kernel_rfl) ?_
    refine S_exitThen ?_
    refine S_exitThen ?_
    refine S_exitHere ?_
    refine S_then ?_
    refine S_seq kk28 kk29 (by kernel_rfl) ?_
    refine S_region 8 (Code.ops kk28) (by kernel_rfl) ?_
    refine N_run 2 [(22, .pointer hv), (23, .slice lB lN lC)] (fun w => by kernel_rfl) ?_
    refine N_call (some 24) 30 #[.pointer hv, .int .i64 2, .int .u64 0, .slice lB lN lC] (fun w => by kernel_rfl) h ?_; clear h
    rintro v H6 ⟨ra, rb, rfl, h⟩
    refine ⟨[(24, .tuple #[.int .u64 ra, .int .i64 rb])], ps (by kernel_rfl), ?_⟩
    refine N_run 4 [(4, .int .u64 ra), (5, .int .i64 rb)] (fun w => by kernel_rfl) ?_
    refine N_end (by kernel_rfl) ?_
    refine S_then ?_
    refine S_ret (by kernel_rfl) ?_
    show At _ _ _ _ _ (Q .ret)
    exact S_done (fn := Try.f39) [.int .u64 ra, .int .i64 rb] hQ (show ResOK _ _ _ [.tmp 4, .tmp 5] _ from .tmp (by kernel_rfl) (.tmp (by kernel_rfl) (.nil))) h
end obj_Heap_String

/-! (*moraine/obj.Heap).Text -/
namespace obj_Heap_Text
def kk0 := Func.code Try.f40
def kk1 := Code.fa kk0
def kk2 := Code.fb kk0
def kk3 := Code.fa kk2
def kk4 := Code.fb kk2
def kk5 := Code.fa kk4
def kk6 := Code.fb kk4
def kk7 := Code.fa kk5
def kk8 := Code.fb kk5
def kk9 := Code.fa kk8
def kk10 := Code.fb kk8
def kk11 := Code.fa kk6
def kk12 := Code.fb kk6
def kk13 := Code.fa kk12
def kk14 := Code.fb kk12
def kk15 := Code.fa kk13
def kk16 := Code.fb kk13
def kk17 := Code.fa kk16
def kk18 := Code.fa kk17
def kk19 := Code.fa kk18
def kk20 := Code.fb kk18
def kk21 := Code.fa kk20
def kk22 := Code.fb kk20
def kk23 := Code.fa kk21
def kk24 := Code.fb kk21
def kk25 := Code.fa kk22
def kk26 := Code.fb kk22
def kk27 := Code.fa kk25
def kk28 := Code.fa kk27
def kk29 := Code.fb kk27
def kk30 := Code.fa kk29
def kk31 := Code.fb kk29
def kk32 := Code.fa kk30
def kk33 := Code.fb kk30
def kk34 := Code.fa kk33
def kk35 := Code.fb kk33
def kk36 := Code.fa kk14
def kk37 := Code.fb kk14
def kk38 := Code.fa kk9
def kk39 := Code.fb kk9
end obj_Heap_Text
def obj_Heap_Text.pt (hv : Option Addr) (wv : Int) (H : Array Obj) (R : Value → Array Obj → Prop) : Prop :=
 obj_Heap_words.C hv wv 2 H (fun v H1 => ∃ raB : Option Addr, ∃ raN : Nat, ∃ raC : Nat, ∃ rb : Bool, v = .tuple #[.slice raB raN raC, .bool rb] ∧ 
  if rb = true then (
   ∃ (I19 : (Option Addr) → Nat → Nat → Int → Array Obj → Prop) (m19 : (Option Addr) → Nat → Nat → Int → Array Obj → Nat), I19 none 0 0 0 H1 ∧ ∀ (sB : Option Addr) (sN : Nat) (sC : Nat) (s21 : Int) (H2 : Array Obj), I19 sB sN sC s21 H2 →
   if s21 < (raN : Int) then (
    ∃ raBA : Addr, raB = some raBA ∧
    ((0 : Int) ≤ s21 ∧ s21 < (raN : Int)) ∧
    ∃ x : Int, hat H2 (raBA.add (Int.toNat s21 * 1)) = some (.int .u64 x) ∧
    if x > 1114111 then (
     ∀ (b : Nat) (H3 : Array Obj), b = H2.size → H3 = H2.push (.cells #[.int .i32 (IntKind.wrap .i32 65533)] 21) →
     appendK 1 21 4 [.int .i32 0] sB sN sC (some (Addr.mk b 0 none)) 1 H3 (fun ap apC H4 =>
      (I19 ap (sN + 1) apC (IntKind.wrap .i64 (s21 + 1)) H4 ∧ m19 ap (sN + 1) apC (IntKind.wrap .i64 (s21 + 1)) H4 < m19 sB sN sC s21 H2)))
    else
    ∀ (b_2 : Nat) (H5 : Array Obj), b_2 = H2.size → H5 = H2.push (.cells #[.int .i32 (IntKind.wrap .i32 x)] 21) →
    appendK 1 21 4 [.int .i32 0] sB sN sC (some (Addr.mk b_2 0 none)) 1 H5 (fun ap_2 apC_2 H6 =>
     (I19 ap_2 (sN + 1) apC_2 (IntKind.wrap .i64 (s21 + 1)) H6 ∧ m19 ap_2 (sN + 1) apC_2 (IntKind.wrap .i64 (s21 + 1)) H6 < m19 sB sN sC s21 H2)))
   else
   ∃ rs : List Int, (SrcAt H2 sB (rs.map (Value.int .i32)) ∧ (sB ≠ none → rs.length = sN)) ∧
   R (.tuple #[.string (runesStr rs), .int .i64 0]) H2)
  else
  R (.tuple #[.string (ByteArray.mk #[]), .int .i64 3]) H1)
namespace obj_Heap_Text
set_option maxRecDepth 100000 in
theorem link {hv : Option Addr} {wv : Int} {H : Array Obj} {R : Value → Array Obj → Prop} (h : pt hv wv H R) : C hv wv H R := by
  refine S_enter (fn := Try.f40) (c := kk0) 35 Try.func40 (by kernel_rfl) (by kernel_rfl) (Nat.le_of_ble_eq_true (by kernel_rfl)) ?_
  intro w0 Q hQ
  unfold pt at h
  refine S_sub [(0, .pointer hv), (1, .int .u64 wv)] (sb (by kernel_rfl)) ?_
  refine S_seq kk1 kk2 (by kernel_rfl) ?_
  refine S_region 0 (Code.ops kk1) (by kernel_rfl) ?_
  refine N_run 2 [(0, .pointer hv), (1, .int .u64 wv)] (fun w => by kernel_rfl) ?_
  refine N_end (by kernel_rfl) ?_
  refine S_then ?_
  refine S_seq kk3 kk4 (by kernel_rfl) ?_
  refine S_region 1 (Code.ops kk3) (by kernel_rfl) ?_
  refine N_run 2 [(12, .pointer hv), (13, .int .u64 wv)] (fun w => by kernel_rfl) ?_
  refine N_call (some 14) 68 #[.pointer hv, .int .u64 wv, .int .i64 2] (fun w => by kernel_rfl) h ?_; clear h
  rintro v H1 ⟨raB, raN, raC, rb, rfl, h⟩
  refine ⟨[(14, .tuple #[.slice raB raN raC, .bool rb])], ps (by kernel_rfl), ?_⟩
  refine N_run 5 [(6, .slice raB raN raC), (7, .bool rb)] (fun w => by kernel_rfl) ?_
  refine N_end (by kernel_rfl) ?_
  refine S_then ?_
  refine S_seq kk5 kk6 (by kernel_rfl) ?_
  refine S_seq kk7 kk8 (by kernel_rfl) ?_
  refine S_region 2 (Code.ops kk7) (by kernel_rfl) ?_
  refine N_run 2 [(6, .slice raB raN raC), (18, .bool (!rb))] (fun w => by kernel_rfl) ?_
  refine N_end (by kernel_rfl) ?_
  refine S_then ?_
  by_cases c1 : rb = true
  · rw [if_pos c1] at h
    have b2 : (!rb) = false := congrArg Bool.not (c1)
    have b22 : rb = true := c1
    refine S_env [(6, .slice raB raN raC), (18, .bool false)] (by simp only [b2, b22, Bool.not_true, Bool.not_false]) ?_
    clear b2 b22
    refine S_condF (.tmp 18) kk9 kk10 (by kernel_rfl) (by kernel_rfl) ?_
    refine S_skip (by kernel_rfl) ?_
    refine S_then ?_
    refine S_seq kk11 kk12 (by kernel_rfl) ?_
    refine S_region 4 (Code.ops kk11) (by kernel_rfl) ?_
    refine N_run 1 [(6, .slice raB raN raC), (8, .slice none 0 0)] (fun w => by kernel_rfl) ?_
    refine N_end (by kernel_rfl) ?_
    refine S_then ?_
    refine S_seq kk13 kk14 (by kernel_rfl) ?_
    refine S_seq kk15 kk16 (by kernel_rfl) ?_
    refine S_region 5 (Code.ops kk15) (by kernel_rfl) ?_
    refine N_run 3 [(8, .slice none 0 0), (19, .slice raB raN raC), (20, .int .i64 (raN : Int)), (21, .int .i64 0)] (fun w => by kernel_rfl) ?_
    refine N_end (by kernel_rfl) ?_
    refine S_then ?_
    refine S_block 0 kk17 (by kernel_rfl) ?_
    obtain ⟨I19, m19, i3, i4⟩ := h
    refine S_loop (x := kk18) (σ := (Option Addr) × Nat × Nat × Int) (fun s_ => [(8, .slice s_.1 s_.2.1 s_.2.2.1), (19, .slice raB raN raC), (20, .int .i64 (raN : Int)), (21, .int .i64 s_.2.2.2)]) (fun s_ H => I19 s_.1 s_.2.1 s_.2.2.1 s_.2.2.2 H) (fun s_ H => m19 s_.1 s_.2.1 s_.2.2.1 s_.2.2.2 H) ((none, 0, 0, 0) : (Option Addr) × Nat × Nat × Int) (by kernel_rfl) i3 (sb (by kernel_rfl)) ?_
    rintro ⟨sB, sN, sC, s21⟩ H2 i5
    have h := i4 sB sN sC s21 H2 i5
    refine S_sub [(8, .slice sB sN sC), (19, .slice raB raN raC), (20, .int .i64 (raN : Int)), (21, .int .i64 s21)] (sb (by kernel_rfl)) ?_
    refine S_seq kk19 kk20 (by kernel_rfl) ?_
    refine S_region 6 (Code.ops kk19) (by kernel_rfl) ?_
    refine N_run 1 [(8, .slice sB sN sC), (19, .slice raB raN raC), (20, .int .i64 (raN : Int)), (21, .int .i64 s21), (22, .bool (decide (s21 < (raN : Int))))] (fun w => by kernel_rfl) ?_
    refine N_end (by kernel_rfl) ?_
    refine S_then ?_
    refine S_seq kk21 kk22 (by kernel_rfl) ?_
    by_cases c6 : s21 < (raN : Int)
    · rw [if_pos c6] at h
      have b7 : (decide (s21 < (raN : Int))) = true := decide_eq_true c6
      refine S_env [(8, .slice sB sN sC), (19, .slice raB raN raC), (20, .int .i64 (raN : Int)), (21, .int .i64 s21), (22, .bool true)] (by simp only [b7, Bool.not_true, Bool.not_false]) ?_
      clear b7
      refine S_condT (.tmp 22) kk23 kk24 (by kernel_rfl) (by kernel_rfl) ?_
      refine S_skip (by kernel_rfl) ?_
      refine S_then ?_
      refine S_seq kk25 kk26 (by kernel_rfl) ?_
      refine S_block 1 kk27 (by kernel_rfl) ?_
      refine S_seq kk28 kk29 (by kernel_rfl) ?_
      refine S_region 7 (Code.ops kk28) (by kernel_rfl) ?_
      refine N_sub [(8, .slice sB sN sC), (19, .slice raB raN raC), (20, .int .i64 (raN : Int)), (21, .int .i64 s21)] (sb (by kernel_rfl)) ?_
      obtain ⟨raBA, rfl, h⟩ := h
      obtain ⟨q8, h⟩ := h
      refine N_val (some 23) (indexAtN 39 (.slice (some raBA) raN raC) (.int .i64 s21)) (.pointer (some (raBA.add (Int.toNat s21 * 1)))) (fun w => by kernel_rfl) (fun w _ => indexAt_run (P := Try.prog) (t := 39) (elem := 29) (sz := 1) (a := raBA) (len := raN) (cap := raC) (k := .i64) (i := s21) Try.underlying39 (fun w => by kernel_rfl) q8.1 q8.2 w) [(8, .slice sB sN sC), (19, .slice (some raBA) raN raC), (20, .int .i64 (raN : Int)), (21, .int .i64 s21), (23, .pointer (some (raBA.add (Int.toNat s21 * 1))))] (ps (by kernel_rfl)) ?_
      obtain ⟨x, q9, h⟩ := h
      refine N_val (some 24) (loadN 29 (.pointer (some (raBA.add (Int.toNat s21 * 1))))) (.int .u64 x) (fun w => by kernel_rfl) (loadN_run (loadOK_one (fun w => by kernel_rfl) q9)) [(8, .slice sB sN sC), (19, .slice (some raBA) raN raC), (20, .int .i64 (raN : Int)), (21, .int .i64 s21), (24, .int .u64 x)] (ps (by kernel_rfl)) ?_
      refine N_run 1 [(8, .slice sB sN sC), (10, .int .u64 x), (19, .slice (some raBA) raN raC), (20, .int .i64 (raN : Int)), (21, .int .i64 s21)] (fun w => by kernel_rfl) ?_
      refine N_end (by kernel_rfl) ?_
      refine S_then ?_
      refine S_seq kk30 kk31 (by kernel_rfl) ?_
      refine S_seq kk32 kk33 (by kernel_rfl) ?_
      refine S_region 8 (Code.ops kk32) (by kernel_rfl) ?_
      refine N_run 2 [(8, .slice sB sN sC), (10, .int .u64 x), (19, .slice (some raBA) raN raC), (20, .int .i64 (raN : Int)), (21, .int .i64 s21), (26, .bool (decide (x > 1114111)))] (fun w => by kernel_rfl) ?_
      refine N_end (by kernel_rfl) ?_
      refine S_then ?_
      by_cases c10 : x > 1114111
      · rw [if_pos c10] at h
        have b11 : (decide (x > 1114111)) = true := decide_eq_true c10
        refine S_env [(8, .slice sB sN sC), (10, .int .u64 x), (19, .slice (some raBA) raN raC), (20, .int .i64 (raN : Int)), (21, .int .i64 s21), (26, .bool true)] (by simp only [b11, Bool.not_true, Bool.not_false]) ?_
        clear b11
        refine S_condT (.tmp 26) kk34 kk35 (by kernel_rfl) (by kernel_rfl) ?_
        refine S_region 9 (Code.ops kk34) (by kernel_rfl) ?_
        refine N_run 1 [(8, .slice sB sN sC), (10, .int .u64 65533), (19, .slice (some raBA) raN raC), (20, .int .i64 (raN : Int)), (21, .int .i64 s21)] (fun w => by kernel_rfl) ?_
        refine N_end (by kernel_rfl) ?_
        refine S_then ?_
        refine S_region 10 (Code.ops kk31) (by kernel_rfl) ?_
        refine N_run 3 [(19, .slice (some raBA) raN raC), (20, .int .i64 (raN : Int)), (21, .int .i64 s21), (27, .slice sB sN sC), (29, .int .i32 (IntKind.wrap .i32 65533))] (fun w => by kernel_rfl) ?_
        refine N_new (some 30) (fun b => .slice (some (Addr.mk b 0 none)) 1 1) (.cells #[.int .i32 (IntKind.wrap .i32 65533)] 21) (fun w => by kernel_rfl) ?_
        intro b H3 e12 e13
        replace h := h b H3 e12 e13
        refine ⟨[(19, .slice (some raBA) raN raC), (20, .int .i64 (raN : Int)), (21, .int .i64 s21), (27, .slice sB sN sC), (30, .slice (some (Addr.mk b 0 none)) 1 1)], ps (by kernel_rfl), ?_⟩
        refine N_op (some 31) (appendN #[86, 86] 86 #[.slice sB sN sC, .slice (some (Addr.mk b 0 none)) 1 1]) _ (fun w => by kernel_rfl) (ss_append (T := 21) (sz := 1) (bytes := 4) (zero := (.int .i32 0 : Value)) Try.underlying86 Try.underlying86 rfl (show Try.prog.info? 21 = some Try.t21 from by kernel_rfl) (by kernel_rfl) (by kernel_rfl) (by decide) (by kernel_rfl) (by first | exact h | (simpa only [Value.cells, List.toList_toArray] using h))) ?_
        rintro _ H4 ⟨ap, apC, rfl, h⟩
        refine ⟨[(19, .slice (some raBA) raN raC), (20, .int .i64 (raN : Int)), (21, .int .i64 s21), (31, .slice ap (sN + 1) apC)], ps (by kernel_rfl), ?_⟩
        refine N_run 1 [(8, .slice ap (sN + 1) apC), (19, .slice (some raBA) raN raC), (20, .int .i64 (raN : Int)), (21, .int .i64 s21)] (fun w => by kernel_rfl) ?_
        refine N_end (by kernel_rfl) ?_
        refine S_blockEnd ?_
        refine S_then ?_
        refine S_region 11 (Code.ops kk26) (by kernel_rfl) ?_
        refine N_run 2 [(8, .slice ap (sN + 1) apC), (19, .slice (some raBA) raN raC), (20, .int .i64 (raN : Int)), (21, .int .i64 (IntKind.wrap .i64 (s21 + 1)))] (fun w => by kernel_rfl) ?_
        refine N_end (by kernel_rfl) ?_
        refine S_then ?_
        exact S_round ((ap, (sN + 1), apC, (IntKind.wrap .i64 (s21 + 1))) : (Option Addr) × Nat × Nat × Int) (sb (by kernel_rfl)) h
      · rw [if_neg c10] at h
        have b11 : (decide (x > 1114111)) = false := decide_eq_false c10
        refine S_env [(8, .slice sB sN sC), (10, .int .u64 x), (19, .slice (some raBA) raN raC), (20, .int .i64 (raN : Int)), (21, .int .i64 s21), (26, .bool false)] (by simp only [b11, Bool.not_true, Bool.not_false]) ?_
        clear b11
        refine S_condF (.tmp 26) kk34 kk35 (by kernel_rfl) (by kernel_rfl) ?_
        refine S_skip (by kernel_rfl) ?_
        refine S_then ?_
        refine S_region 10 (Code.ops kk31) (by kernel_rfl) ?_
        refine N_run 3 [(19, .slice (some raBA) raN raC), (20, .int .i64 (raN : Int)), (21, .int .i64 s21), (27, .slice sB sN sC), (29, .int .i32 (IntKind.wrap .i32 x))] (fun w => by kernel_rfl) ?_
        refine N_new (some 30) (fun b => .slice (some (Addr.mk b 0 none)) 1 1) (.cells #[.int .i32 (IntKind.wrap .i32 x)] 21) (fun w => by kernel_rfl) ?_
        intro b_2 H5 e14 e15
        replace h := h b_2 H5 e14 e15
        refine ⟨[(19, .slice (some raBA) raN raC), (20, .int .i64 (raN : Int)), (21, .int .i64 s21), (27, .slice sB sN sC), (30, .slice (some (Addr.mk b_2 0 none)) 1 1)], ps (by kernel_rfl), ?_⟩
        refine N_op (some 31) (appendN #[86, 86] 86 #[.slice sB sN sC, .slice (some (Addr.mk b_2 0 none)) 1 1]) _ (fun w => by kernel_rfl) (ss_append (T := 21) (sz := 1) (bytes := 4) (zero := (.int .i32 0 : Value)) Try.underlying86 Try.underlying86 rfl (show Try.prog.info? 21 = some Try.t21 from by kernel_rfl) (by kernel_rfl) (by kernel_rfl) (by decide) (by kernel_rfl) (by first | exact h | (simpa only [Value.cells, List.toList_toArray] using h))) ?_
        rintro _ H6 ⟨ap_2, apC_2, rfl, h⟩
        refine ⟨[(19, .slice (some raBA) raN raC), (20, .int .i64 (raN : Int)), (21, .int .i64 s21), (31, .slice ap_2 (sN + 1) apC_2)], ps (by kernel_rfl), ?_⟩
        refine N_run 1 [(8, .slice ap_2 (sN + 1) apC_2), (19, .slice (some raBA) raN raC), (20, .int .i64 (raN : Int)), (21, .int .i64 s21)] (fun w => by kernel_rfl) ?_
        refine N_end (by kernel_rfl) ?_
        refine S_blockEnd ?_
        refine S_then ?_
        refine S_region 11 (Code.ops kk26) (by kernel_rfl) ?_
        refine N_run 2 [(8, .slice ap_2 (sN + 1) apC_2), (19, .slice (some raBA) raN raC), (20, .int .i64 (raN : Int)), (21, .int .i64 (IntKind.wrap .i64 (s21 + 1)))] (fun w => by kernel_rfl) ?_
        refine N_end (by kernel_rfl) ?_
        refine S_then ?_
        exact S_round ((ap_2, (sN + 1), apC_2, (IntKind.wrap .i64 (s21 + 1))) : (Option Addr) × Nat × Nat × Int) (sb (by kernel_rfl)) h
    · rw [if_neg c6] at h
      have b7 : (decide (s21 < (raN : Int))) = false := decide_eq_false c6
      refine S_env [(8, .slice sB sN sC), (19, .slice raB raN raC), (20, .int .i64 (raN : Int)), (21, .int .i64 s21), (22, .bool false)] (by simp only [b7, Bool.not_true, Bool.not_false]) ?_
      clear b7
      refine S_condF (.tmp 22) kk23 kk24 (by kernel_rfl) (by kernel_rfl) ?_
      refine S_exit 0 (by kernel_rfl) ?_
      refine S_exitThen ?_
      refine S_exitThen ?_
      refine S_exitHere ?_
      refine S_then ?_
      refine S_seq kk36 kk37 (by kernel_rfl) ?_
      refine S_region 12 (Code.ops kk36) (by kernel_rfl) ?_
      refine N_run 1 [(33, .slice sB sN sC)] (fun w => by kernel_rfl) ?_
      obtain ⟨rs, q16, h⟩ := h
      refine N_val (some 34) (convertN 86 9 (.slice sB sN sC)) (.string (runesStr rs)) (fun w => by kernel_rfl) (fun w hw => convert_runes Try.underlying86 Try.underlying9 Try.underlying21 (by rw [hw]; exact q16.1) q16.2) [(34, .string (runesStr rs))] (ps (by kernel_rfl)) ?_
      refine N_run 2 [(4, .string (runesStr rs)), (5, .int .i64 0)] (fun w => by kernel_rfl) ?_
      refine N_end (by kernel_rfl) ?_
      refine S_then ?_
      refine S_ret (by kernel_rfl) ?_
      show At _ _ _ _ _ (Q .ret)
      exact S_done (fn := Try.f40) [.string (runesStr rs), .int .i64 0] hQ (show ResOK _ _ _ [.tmp 4, .tmp 5] _ from .tmp (by kernel_rfl) (.tmp (by kernel_rfl) (.nil))) h
  · rw [if_neg c1] at h
    have b2 : (!rb) = true := congrArg Bool.not (eq_false_of_ne_true c1)
    have b22 : rb = false := eq_false_of_ne_true c1
    refine S_env [(6, .slice raB raN raC), (18, .bool true)] (by simp only [b2, b22, Bool.not_true, Bool.not_false]) ?_
    clear b2 b22
    refine S_condT (.tmp 18) kk9 kk10 (by kernel_rfl) (by kernel_rfl) ?_
    refine S_seq kk38 kk39 (by kernel_rfl) ?_
    refine S_region 3 (Code.ops kk38) (by kernel_rfl) ?_
    refine N_run 2 [(4, .string (ByteArray.mk #[])), (5, .int .i64 3)] (fun w => by kernel_rfl) ?_
    refine N_end (by kernel_rfl) ?_
    refine S_then ?_
    refine S_ret (by kernel_rfl) ?_
    show At _ _ _ _ _ (Q .ret)
    exact S_done (fn := Try.f40) [.string (ByteArray.mk #[]), .int .i64 3] hQ (show ResOK _ _ _ [.tmp 4, .tmp 5] _ from .tmp (by kernel_rfl) (.tmp (by kernel_rfl) (.nil))) h
end obj_Heap_Text

/-! (*moraine/obj.Heap).Vector -/
namespace obj_Heap_Vector
def kk0 := Func.code Try.f46
def kk1 := Code.fa kk0
def kk2 := Code.fb kk0
def kk3 := Code.fa kk2
def kk4 := Code.fb kk2
def kk5 := Code.fa kk3
def kk6 := Code.fa kk5
def kk7 := Code.fb kk5
def kk8 := Code.fa kk7
def kk9 := Code.fb kk7
def kk10 := Code.fa kk8
def kk11 := Code.fb kk8
def kk12 := Code.fa kk9
def kk13 := Code.fb kk9
def kk14 := Code.fa kk13
def kk15 := Code.fb kk13
def kk16 := Code.fa kk14
def kk17 := Code.fb kk14
def kk18 := Code.fa kk4
def kk19 := Code.fb kk4
end obj_Heap_Vector
def obj_Heap_Vector.pt (hv : Option Addr) (nv : Int) (fill : Int) (H : Array Obj) (R : Value → Array Obj → Prop) : Prop :=
 if nv < 0 then (
  R (.tuple #[.int .u64 0, .int .i64 4]) H)
 else
 if nv > 62 then (
  R (.tuple #[.int .u64 0, .int .i64 6]) H)
 else
 ∀ (b : Nat) (H1 : Array Obj), b = H.size → H1 = H.push (.cells #[.int .u64 fill] 29) →
 slices_Repeat_api_Word_api_Word.C (some (Addr.mk b 0 none)) 1 1 nv H1 (fun v H2 => ∃ xB : Option Addr, ∃ xN : Nat, ∃ xC : Nat, v = .slice xB xN xC ∧ 
  obj_Heap_Make.C hv 1 0 xB xN xC H2 (fun v_2 H3 => ∃ ra : Int, ∃ rb : Int, v_2 = .tuple #[.int .u64 ra, .int .i64 rb] ∧ 
   R (.tuple #[.int .u64 ra, .int .i64 rb]) H3))
namespace obj_Heap_Vector
set_option maxRecDepth 100000 in
theorem link {hv : Option Addr} {nv : Int} {fill : Int} {H : Array Obj} {R : Value → Array Obj → Prop} (h : pt hv nv fill H R) : C hv nv fill H R := by
  refine S_enter (fn := Try.f46) (c := kk0) 22 Try.func46 (by kernel_rfl) (by kernel_rfl) (Nat.le_of_ble_eq_true (by kernel_rfl)) ?_
  intro w0 Q hQ
  unfold pt at h
  refine S_sub [(0, .pointer hv), (1, .int .i64 nv), (2, .int .u64 fill)] (sb (by kernel_rfl)) ?_
  refine S_seq kk1 kk2 (by kernel_rfl) ?_
  refine S_region 0 (Code.ops kk1) (by kernel_rfl) ?_
  refine N_run 2 [(0, .pointer hv), (1, .int .i64 nv), (2, .int .u64 fill)] (fun w => by kernel_rfl) ?_
  refine N_end (by kernel_rfl) ?_
  refine S_then ?_
  refine S_seq kk3 kk4 (by kernel_rfl) ?_
  refine S_block 0 kk5 (by kernel_rfl) ?_
  refine S_seq kk6 kk7 (by kernel_rfl) ?_
  refine S_region 1 (Code.ops kk6) (by kernel_rfl) ?_
  refine N_run 3 [(0, .pointer hv), (1, .int .i64 nv), (2, .int .u64 fill), (8, .bool (decide (nv < 0)))] (fun w => by kernel_rfl) ?_
  refine N_end (by kernel_rfl) ?_
  refine S_then ?_
  by_cases c1 : nv < 0
  · rw [if_pos c1] at h
    have b2 : (decide (nv < 0)) = true := decide_eq_true c1
    refine S_env [(0, .pointer hv), (1, .int .i64 nv), (2, .int .u64 fill), (8, .bool true)] (by simp only [b2, Bool.not_true, Bool.not_false]) ?_
    clear b2
    refine S_condT (.tmp 8) kk8 kk9 (by kernel_rfl) (by kernel_rfl) ?_
    refine S_seq kk10 kk11 (by kernel_rfl) ?_
    refine S_region 2 (Code.ops kk10) (by kernel_rfl) ?_
    refine N_run 2 [(6, .int .u64 0), (7, .int .i64 4)] (fun w => by kernel_rfl) ?_
    refine N_end (by kernel_rfl) ?_
    refine S_then ?_
    refine S_ret (by kernel_rfl) ?_
    show At _ _ _ _ _ (Q .ret)
    exact S_done (fn := Try.f46) [.int .u64 0, .int .i64 4] hQ (show ResOK _ _ _ [.tmp 6, .tmp 7] _ from .tmp (by kernel_rfl) (.tmp (by kernel_rfl) (.nil))) h
  · rw [if_neg c1] at h
    have b2 : (decide (nv < 0)) = false := decide_eq_false c1
    refine S_env [(0, .pointer hv), (1, .int .i64 nv), (2, .int .u64 fill), (8, .bool false)] (by simp only [b2, Bool.not_true, Bool.not_false]) ?_
    clear b2
    refine S_condF (.tmp 8) kk8 kk9 (by kernel_rfl) (by kernel_rfl) ?_
    refine S_seq kk12 kk13 (by kernel_rfl) ?_
    refine S_region 3 (Code.ops kk12) (by kernel_rfl) ?_
    refine N_run 3 [(0, .pointer hv), (1, .int .i64 nv), (2, .int .u64 fill), (11, .bool (decide (nv > 62)))] (fun w => by kernel_rfl) ?_
    refine N_end (by kernel_rfl) ?_
    refine S_then ?_
    by_cases c3 : nv > 62
    · rw [if_pos c3] at h
      have b4 : (decide (nv > 62)) = true := decide_eq_true c3
      refine S_env [(0, .pointer hv), (1, .int .i64 nv), (2, .int .u64 fill), (11, .bool true)] (by simp only [b4, Bool.not_true, Bool.not_false]) ?_
      clear b4
      refine S_condT (.tmp 11) kk14 kk15 (by kernel_rfl) (by kernel_rfl) ?_
      refine S_seq kk16 kk17 (by kernel_rfl) ?_
      refine S_region 4 (Code.ops kk16) (by kernel_rfl) ?_
      refine N_run 2 [(6, .int .u64 0), (7, .int .i64 6)] (fun w => by kernel_rfl) ?_
      refine N_end (by kernel_rfl) ?_
      refine S_then ?_
      refine S_ret (by kernel_rfl) ?_
      show At _ _ _ _ _ (Q .ret)
      exact S_done (fn := Try.f46) [.int .u64 0, .int .i64 6] hQ (show ResOK _ _ _ [.tmp 6, .tmp 7] _ from .tmp (by kernel_rfl) (.tmp (by kernel_rfl) (.nil))) h
    · rw [if_neg c3] at h
      have b4 : (decide (nv > 62)) = false := decide_eq_false c3
      refine S_env [(0, .pointer hv), (1, .int .i64 nv), (2, .int .u64 fill), (11, .bool false)] (by simp only [b4, Bool.not_true, Bool.not_false]) ?_
      clear b4
      refine S_condF (.tmp 11) kk14 kk15 (by kernel_rfl) (by kernel_rfl) ?_
      refine S_skip (by kernel_rfl) ?_
      refine S_blockEnd ?_
      refine S_then ?_
      refine S_seq kk18 kk19 (by kernel_rfl) ?_
      refine S_region 5 (Code.ops kk18) (by kernel_rfl) ?_
      refine N_run 2 [(1, .int .i64 nv), (14, .pointer hv), (15, .int .u64 fill)] (fun w => by kernel_rfl) ?_
      refine N_new (some 16) (fun b => .slice (some (Addr.mk b 0 none)) 1 1) (.cells #[.int .u64 fill] 29) (fun w => by kernel_rfl) ?_
      intro b H1 e5 e6
      replace h := h b H1 e5 e6
      refine ⟨[(1, .int .i64 nv), (14, .pointer hv), (16, .slice (some (Addr.mk b 0 none)) 1 1)], ps (by kernel_rfl), ?_⟩
      refine N_run 1 [(14, .pointer hv), (16, .slice (some (Addr.mk b 0 none)) 1 1), (17, .int .i64 nv)] (fun w => by kernel_rfl) ?_
      refine N_call (some 18) 74 #[.slice (some (Addr.mk b 0 none)) 1 1, .int .i64 nv] (fun w => by kernel_rfl) h ?_; clear h
      rintro v H2 ⟨xB, xN, xC, rfl, h⟩
      refine ⟨[(14, .pointer hv), (18, .slice xB xN xC)], ps (by kernel_rfl), ?_⟩
      refine N_call (some 19) 30 #[.pointer hv, .int .i64 1, .int .u64 0, .slice xB xN xC] (fun w => by kernel_rfl) h ?_; clear h
      rintro v_2 H3 ⟨ra, rb, rfl, h⟩
      refine ⟨[(19, .tuple #[.int .u64 ra, .int .i64 rb])], ps (by kernel_rfl), ?_⟩
      refine N_run 4 [(6, .int .u64 ra), (7, .int .i64 rb)] (fun w => by kernel_rfl) ?_
      refine N_end (by kernel_rfl) ?_
      refine S_then ?_
      refine S_ret (by kernel_rfl) ?_
      show At _ _ _ _ _ (Q .ret)
      exact S_done (fn := Try.f46) [.int .u64 ra, .int .i64 rb] hQ (show ResOK _ _ _ [.tmp 6, .tmp 7] _ from .tmp (by kernel_rfl) (.tmp (by kernel_rfl) (.nil))) h
end obj_Heap_Vector

/-! (*moraine/obj.Heap).Next -/
namespace obj_Heap_Next
def kk0 := Func.code Try.f47
def kk1 := Code.fa kk0
def kk2 := Code.fb kk0
def kk3 := Code.fa kk2
def kk4 := Code.fb kk2
end obj_Heap_Next
def obj_Heap_Next.pt (hv : Option Addr) (H : Array Obj) (R : Value → Array Obj → Prop) : Prop :=
 obj_Heap_none.C hv H (fun v H1 => ∃ x : Bool, v = .bool x ∧ 
  if x = true then (
   R (.tuple #[]) H1)
  else
  ∃ hvA : Addr, hv = some hvA ∧
  ∃ x_2 : Int, hat H1 (hvA.add 3) = some (.int .u64 x_2) ∧
  (CanPuts H1 (hvA.add 3) 0 1) ∧ ∀ H2 : Array Obj, H2 = hputs H1 (hvA.add 3) [.int .u64 (IntKind.wrap .u64 (x_2 + 1))] 0 →
  R (.tuple #[]) H2)
namespace obj_Heap_Next
set_option maxRecDepth 100000 in
theorem link {hv : Option Addr} {H : Array Obj} {R : Value → Array Obj → Prop} (h : pt hv H R) : C hv H R := by
  refine S_enter (fn := Try.f47) (c := kk0) 12 Try.func47 (by kernel_rfl) (by kernel_rfl) (Nat.le_of_ble_eq_true (by kernel_rfl)) ?_
  intro w0 Q hQ
  unfold pt at h
  refine S_sub [(0, .pointer hv)] (sb (by kernel_rfl)) ?_
  refine S_seq kk1 kk2 (by kernel_rfl) ?_
  refine S_region 0 (Code.ops kk1) (by kernel_rfl) ?_
  refine N_run 1 [(0, .pointer hv), (2, .pointer hv)] (fun w => by kernel_rfl) ?_
  refine N_call (some 3) 75 #[.pointer hv] (fun w => by kernel_rfl) h ?_; clear h
  rintro v H1 ⟨x, rfl, h⟩
  refine ⟨[(0, .pointer hv), (3, .bool x)], ps (by kernel_rfl), ?_⟩
  refine N_run 1 [(0, .pointer hv), (4, .bool (!x))] (fun w => by kernel_rfl) ?_
  refine N_end (by kernel_rfl) ?_
  refine S_then ?_
  by_cases c1 : x = true
  · rw [if_pos c1] at h
    have b2 : (!x) = false := congrArg Bool.not (c1)
    have b22 : x = true := c1
    refine S_env [(0, .pointer hv), (4, .bool false)] (by simp only [b2, b22, Bool.not_true, Bool.not_false]) ?_
    clear b2 b22
    refine S_condF (.tmp 4) kk3 kk4 (by kernel_rfl) (by kernel_rfl) ?_
    refine S_skip (by kernel_rfl) ?_
    exact S_doneN (fn := Try.f47) [] hQ (show ResOK _ _ _ [] _ from .nil) h
  · rw [if_neg c1] at h
    have b2 : (!x) = true := congrArg Bool.not (eq_false_of_ne_true c1)
    have b22 : x = false := eq_false_of_ne_true c1
    refine S_env [(0, .pointer hv), (4, .bool true)] (by simp only [b2, b22, Bool.not_true, Bool.not_false]) ?_
    clear b2 b22
    refine S_condT (.tmp 4) kk3 kk4 (by kernel_rfl) (by kernel_rfl) ?_
    refine S_region 1 (Code.ops kk3) (by kernel_rfl) ?_
    refine N_run 1 [(5, .pointer hv)] (fun w => by kernel_rfl) ?_
    obtain ⟨hvA, rfl, h⟩ := h
    refine N_run 2 [(5, .pointer (some hvA)), (7, .pointer (some (hvA.add 3)))] (fun w => by kernel_rfl) ?_
    obtain ⟨x_2, q3, h⟩ := h
    refine N_val (some 8) (loadN 28 (.pointer (some (hvA.add 3)))) (.int .u64 x_2) (fun w => by kernel_rfl) (loadN_run (loadOK_one (fun w => by kernel_rfl) q3)) [(5, .pointer (some hvA)), (8, .int .u64 x_2)] (ps (by kernel_rfl)) ?_
    refine N_run 3 [(9, .int .u64 (IntKind.wrap .u64 (x_2 + 1))), (11, .pointer (some (hvA.add 3)))] (fun w => by kernel_rfl) ?_
    obtain ⟨q5, h⟩ := h
    refine N_skipop none (storeN 28 (.pointer (some (hvA.add 3))) (.int .u64 (IntKind.wrap .u64 (x_2 + 1)))) (fun Hz => Hz = hputs H1 (hvA.add 3) [.int .u64 (IntKind.wrap .u64 (x_2 + 1))] 0) (fun w => by kernel_rfl) (ss_store [.int .u64 (IntKind.wrap .u64 (x_2 + 1))] 1 (by kernel_rfl) (by kernel_rfl) (fun w => by kernel_rfl) (by kernel_rfl) q5) ?_
    intro H2 e4
    replace h := h H2 e4
    refine ⟨[], ps (by kernel_rfl), ?_⟩
    refine N_end (by kernel_rfl) ?_
    exact S_doneN (fn := Try.f47) [] hQ (show ResOK _ _ _ [] _ from .nil) h
end obj_Heap_Next

/-! (*moraine/obj.Heap).Epoch -/
namespace obj_Heap_Epoch
def kk0 := Func.code Try.f50
def kk1 := Code.fa kk0
def kk2 := Code.fb kk0
def kk3 := Code.fa kk2
def kk4 := Code.fb kk2
def kk5 := Code.fa kk3
def kk6 := Code.fb kk3
def kk7 := Code.fa kk6
def kk8 := Code.fb kk6
def kk9 := Code.fa kk7
def kk10 := Code.fb kk7
def kk11 := Code.fa kk4
def kk12 := Code.fb kk4
end obj_Heap_Epoch
def obj_Heap_Epoch.pt (hv : Option Addr) (H : Array Obj) (R : Value → Array Obj → Prop) : Prop :=
 obj_Heap_none.C hv H (fun v H1 => ∃ x : Bool, v = .bool x ∧ 
  if x = true then (
   R (.int .u64 0) H1)
  else
  ∃ hvA : Addr, hv = some hvA ∧
  ∃ x_2 : Int, hat H1 (hvA.add 3) = some (.int .u64 x_2) ∧
  R (.int .u64 x_2) H1)
namespace obj_Heap_Epoch
set_option maxRecDepth 100000 in
theorem link {hv : Option Addr} {H : Array Obj} {R : Value → Array Obj → Prop} (h : pt hv H R) : C hv H R := by
  refine S_enter (fn := Try.f50) (c := kk0) 9 Try.func50 (by kernel_rfl) (by kernel_rfl) (Nat.le_of_ble_eq_true (by kernel_rfl)) ?_
  intro w0 Q hQ
  unfold pt at h
  refine S_sub [(0, .pointer hv)] (sb (by kernel_rfl)) ?_
  refine S_seq kk1 kk2 (by kernel_rfl) ?_
  refine S_region 0 (Code.ops kk1) (by kernel_rfl) ?_
  refine N_run 1 [(0, .pointer hv)] (fun w => by kernel_rfl) ?_
  refine N_end (by kernel_rfl) ?_
  refine S_then ?_
  refine S_seq kk3 kk4 (by kernel_rfl) ?_
  refine S_seq kk5 kk6 (by kernel_rfl) ?_
  refine S_region 1 (Code.ops kk5) (by kernel_rfl) ?_
  refine N_run 1 [(0, .pointer hv), (3, .pointer hv)] (fun w => by kernel_rfl) ?_
  refine N_call (some 4) 75 #[.pointer hv] (fun w => by kernel_rfl) h ?_; clear h
  rintro v H1 ⟨x, rfl, h⟩
  refine ⟨[(0, .pointer hv), (4, .bool x)], ps (by kernel_rfl), ?_⟩
  refine N_end (by kernel_rfl) ?_
  refine S_then ?_
  by_cases c1 : x = true
  · rw [if_pos c1] at h
    have b2 : x = true := c1
    refine S_env [(0, .pointer hv), (4, .bool true)] (by simp only [b2, Bool.not_true, Bool.not_false]) ?_
    clear b2
    refine S_condT (.tmp 4) kk7 kk8 (by kernel_rfl) (by kernel_rfl) ?_
    refine S_seq kk9 kk10 (by kernel_rfl) ?_
    refine S_region 2 (Code.ops kk9) (by kernel_rfl) ?_
    refine N_run 1 [(2, .int .u64 0)] (fun w => by kernel_rfl) ?_
    refine N_end (by kernel_rfl) ?_
    refine S_then ?_
    refine S_ret (by kernel_rfl) ?_
    show At _ _ _ _ _ (Q .ret)
    exact S_done (fn := Try.f50) [.int .u64 0] hQ (show ResOK _ _ _ [.tmp 2] _ from .tmp (by kernel_rfl) (.nil)) h
  · rw [if_neg c1] at h
    have b2 : x = false := eq_false_of_ne_true c1
    refine S_env [(0, .pointer hv), (4, .bool false)] (by simp only [b2, Bool.not_true, Bool.not_false]) ?_
    clear b2
    refine S_condF (.tmp 4) kk7 kk8 (by kernel_rfl) (by kernel_rfl) ?_
    refine S_skip (by kernel_rfl) ?_
    refine S_then ?_
    refine S_seq kk11 kk12 (by kernel_rfl) ?_
    refine S_region 3 (Code.ops kk11) (by kernel_rfl) ?_
    refine N_run 1 [(5, .pointer hv)] (fun w => by kernel_rfl) ?_
    obtain ⟨hvA, rfl, h⟩ := h
    refine N_run 2 [(7, .pointer (some (hvA.add 3)))] (fun w => by kernel_rfl) ?_
    obtain ⟨x_2, q3, h⟩ := h
    refine N_val (some 8) (loadN 28 (.pointer (some (hvA.add 3)))) (.int .u64 x_2) (fun w => by kernel_rfl) (loadN_run (loadOK_one (fun w => by kernel_rfl) q3)) [(8, .int .u64 x_2)] (ps (by kernel_rfl)) ?_
    refine N_run 1 [(2, .int .u64 x_2)] (fun w => by kernel_rfl) ?_
    refine N_end (by kernel_rfl) ?_
    refine S_then ?_
    refine S_ret (by kernel_rfl) ?_
    show At _ _ _ _ _ (Q .ret)
    exact S_done (fn := Try.f50) [.int .u64 x_2] hQ (show ResOK _ _ _ [.tmp 2] _ from .tmp (by kernel_rfl) (.nil)) h
end obj_Heap_Epoch

/-! (*moraine/obj.Heap).Copy -/
namespace obj_Heap_Copy
def kk0 := Func.code Try.f51
def kk1 := Code.fa kk0
def kk2 := Code.fb kk0
def kk3 := Code.fa kk2
def kk4 := Code.fb kk2
def kk5 := Code.fa kk3
def kk6 := Code.fb kk3
def kk7 := Code.fa kk6
def kk8 := Code.fb kk6
def kk9 := Code.fa kk7
def kk10 := Code.fb kk7
def kk11 := Code.fa kk4
def kk12 := Code.fb kk4
end obj_Heap_Copy
def obj_Heap_Copy.pt (hv : Option Addr) (H : Array Obj) (R : Value → Array Obj → Prop) : Prop :=
 onPtr hv (
  R (.pointer none) H) (fun hvA =>
  ∃ x : Option Addr, hat H hvA = some (.pointer x) ∧
  ∃ xB : Option Addr, ∃ xN : Nat, ∃ xC : Nat, hat H (hvA.add 1) = some (.slice xB xN xC) ∧
  ∃ xB_2 : Option Addr, ∃ xN_2 : Nat, ∃ xC_2 : Nat, hat H (hvA.add 2) = some (.slice xB_2 xN_2 xC_2) ∧
  ∃ x_2 : Int, hat H (hvA.add 3) = some (.int .u64 x_2) ∧
  card_Cards_Copy.C x H (fun v H1 => ∃ x_3 : Option Addr, v = .pointer x_3 ∧ RowAt H1 (hvA.add 1) 0 [.slice xB xN xC] ∧ RowAt H1 (hvA.add 2) 0 [.slice xB_2 xN_2 xC_2] ∧ RowAt H1 (hvA.add 3) 0 [.int .u64 x_2] ∧ 
   slices_Clone_api_Word_api_Word.C xB xN xC H1 (fun v_2 H2 => ∃ xB_3 : Option Addr, ∃ xN_3 : Nat, ∃ xC_3 : Nat, v_2 = .slice xB_3 xN_3 xC_3 ∧ RowAt H2 (hvA.add 2) 0 [.slice xB_2 xN_2 xC_2] ∧ RowAt H2 (hvA.add 3) 0 [.int .u64 x_2] ∧ 
    slices_Clone_api_Entry_api_Entry.C xB_2 xN_2 xC_2 H2 (fun v_3 H3 => ∃ xB_4 : Option Addr, ∃ xN_4 : Nat, ∃ xC_4 : Nat, v_3 = .slice xB_4 xN_4 xC_4 ∧ RowAt H3 (hvA.add 3) 0 [.int .u64 x_2] ∧ 
     ∀ (b : Nat) (H4 : Array Obj), b = H3.size → H4 = H3.push (.cells #[.pointer x_3, .slice xB_3 xN_3 xC_3, .slice xB_4 xN_4 xC_4, .int .u64 x_2] 60) → 
     R (.pointer (some (Addr.mk b 0 none))) H4))))
namespace obj_Heap_Copy
set_option maxRecDepth 100000 in
theorem link {hv : Option Addr} {H : Array Obj} {R : Value → Array Obj → Prop} (h : pt hv H R) : C hv H R := by
  refine S_enter (fn := Try.f51) (c := kk0) 26 Try.func51 (by kernel_rfl) (by kernel_rfl) (Nat.le_of_ble_eq_true (by kernel_rfl)) ?_
  intro w0 Q hQ
  unfold pt at h
  refine S_sub [(0, .pointer hv)] (sb (by kernel_rfl)) ?_
  refine S_seq kk1 kk2 (by kernel_rfl) ?_
  refine S_region 0 (Code.ops kk1) (by kernel_rfl) ?_
  refine N_run 1 [(0, .pointer hv)] (fun w => by kernel_rfl) ?_
  refine N_end (by kernel_rfl) ?_
  refine S_then ?_
  refine S_seq kk3 kk4 (by kernel_rfl) ?_
  refine S_seq kk5 kk6 (by kernel_rfl) ?_
  refine S_region 1 (Code.ops kk5) (by kernel_rfl) ?_
  refine N_run 1 [(0, .pointer hv), (3, .pointer hv)] (fun w => by kernel_rfl) ?_
  rcases hv with _ | hvA
  · rw [onPtr_none] at h
    refine N_run 1 [(0, .pointer none), (4, .bool true)] (fun w => by kernel_rfl) ?_
    refine N_end (by kernel_rfl) ?_
    refine S_then ?_
    refine S_condT (.tmp 4) kk7 kk8 (by kernel_rfl) (by kernel_rfl) ?_
    refine S_seq kk9 kk10 (by kernel_rfl) ?_
    refine S_region 2 (Code.ops kk9) (by kernel_rfl) ?_
    refine N_run 1 [(2, .pointer none)] (fun w => by kernel_rfl) ?_
    refine N_end (by kernel_rfl) ?_
    refine S_then ?_
    refine S_ret (by kernel_rfl) ?_
    show At _ _ _ _ _ (Q .ret)
    exact S_done (fn := Try.f51) [.pointer none] hQ (show ResOK _ _ _ [.tmp 2] _ from .tmp (by kernel_rfl) (.nil)) h
  · rw [onPtr_some] at h
    refine N_run 1 [(0, .pointer (some hvA)), (4, .bool false)] (fun w => by kernel_rfl) ?_
    refine N_end (by kernel_rfl) ?_
    refine S_then ?_
    refine S_condF (.tmp 4) kk7 kk8 (by kernel_rfl) (by kernel_rfl) ?_
    refine S_skip (by kernel_rfl) ?_
    refine S_then ?_
    refine S_seq kk11 kk12 (by kernel_rfl) ?_
    obtain ⟨x, q1, h⟩ := h
    obtain ⟨xB, xN, xC, q2, h⟩ := h
    obtain ⟨xB_2, xN_2, xC_2, q3, h⟩ := h
    obtain ⟨x_2, q4, h⟩ := h
    refine S_regionG 3 (Code.ops kk11) [(4, hvA, [.pointer x]), (9, (hvA.add 1), [.slice xB xN xC]), (14, (hvA.add 2), [.slice xB_2 xN_2 xC_2]), (20, (hvA.add 3), [.int .u64 x_2])] 22 #[false, false, false, false, false, false, false, false, false, false, false, false, false, false, false, false, false, false, false, false, false, false] (by kernel_rfl) (by kernel_rfl) (by kernel_rfl) (by kernel_rfl) (by kernel_rfl) (show FactsAt _ _ _ from ⟨⟨q1, trivial⟩, ⟨q2, trivial⟩, ⟨q3, trivial⟩, ⟨q4, trivial⟩, trivial⟩) ?_
    refine G_take 0 (some 5) (.pointer (some hvA)) #[true, false, false, false, false, false, false, false, false, false, false, false, false, false, false, false, false, false, false, false, false, false] [(0, .pointer (some hvA)), (5, .pointer (some hvA))] ((pure (.value (.pointer (some hvA))) : Sem Next)) (fun w => by kernel_rfl) (fun _ _ _ _ _ => rfl) (by kernel_rfl) (by kernel_rfl) (by kernel_rfl) (by kernel_rfl) (by kernel_rfl) (by kernel_rfl) (ps (by kernel_rfl)) ?_
    refine G_take 1 (some 6) (.pointer (some hvA)) #[true, true, false, false, false, false, false, false, false, false, false, false, false, false, false, false, false, false, false, false, false, false] [(0, .pointer (some hvA)), (6, .pointer (some hvA))] ((pure (.value (.pointer (some hvA))) : Sem Next)) (fun w => by kernel_rfl) (fun _ _ _ _ _ => rfl) (by kernel_rfl) (by kernel_rfl) (by kernel_rfl) (by kernel_rfl) (by kernel_rfl) (by kernel_rfl) (ps (by kernel_rfl)) ?_
    refine G_take 2 (some 7) (.pointer (some hvA)) #[true, true, true, false, false, false, false, false, false, false, false, false, false, false, false, false, false, false, false, false, false, false] [(0, .pointer (some hvA)), (7, .pointer (some hvA))] ((pure (.value (.pointer (some hvA))) : Sem Next)) (fun w => by kernel_rfl) (fun _ _ _ _ _ => rfl) (by kernel_rfl) (by kernel_rfl) (by kernel_rfl) (by kernel_rfl) (by kernel_rfl) (by kernel_rfl) (ps (by kernel_rfl)) ?_
    refine G_take 3 (some 8) (.pointer x) #[true, true, true, true, false, false, false, false, false, false, false, false, false, false, false, false, false, false, false, false, false, false] [(0, .pointer (some hvA)), (8, .pointer x)] (loadN 57 (.pointer (some hvA))) (fun w => by kernel_rfl) (held_one 4 (fun w => by kernel_rfl) (List.Mem.head _) (.inl (by kernel_rfl))) (by kernel_rfl) (by kernel_rfl) (by kernel_rfl) (by kernel_rfl) (by kernel_rfl) (by kernel_rfl) (ps (by kernel_rfl)) ?_
    refine G_take 5 (some 10) (.pointer (some hvA)) #[true, true, true, true, false, true, false, false, false, false, false, false, false, false, false, false, false, false, false, false, false, false] [(0, .pointer (some hvA)), (8, .pointer x), (10, .pointer (some hvA))] ((pure (.value (.pointer (some hvA))) : Sem Next)) (fun w => by kernel_rfl) (fun _ _ _ _ _ => rfl) (by kernel_rfl) (by kernel_rfl) (by kernel_rfl) (by kernel_rfl) (by kernel_rfl) (by kernel_rfl) (ps (by kernel_rfl)) ?_
    refine G_take 6 (some 11) (.pointer (some hvA)) #[true, true, true, true, false, true, true, false, false, false, false, false, false, false, false, false, false, false, false, false, false, false] [(0, .pointer (some hvA)), (8, .pointer x), (11, .pointer (some hvA))] ((pure (.value (.pointer (some hvA))) : Sem Next)) (fun w => by kernel_rfl) (fun _ _ _ _ _ => rfl) (by kernel_rfl) (by kernel_rfl) (by kernel_rfl) (by kernel_rfl) (by kernel_rfl) (by kernel_rfl) (ps (by kernel_rfl)) ?_
    refine G_take 7 (some 12) (.pointer (some (hvA.add 1))) #[true, true, true, true, false, true, true, true, false, false, false, false, false, false, false, false, false, false, false, false, false, false] [(0, .pointer (some hvA)), (8, .pointer x), (12, .pointer (some (hvA.add 1)))] ((pure (.value (.pointer (some (hvA.add 1)))) : Sem Next)) (fun w => by kernel_rfl) (fun _ _ _ _ _ => rfl) (by kernel_rfl) (by kernel_rfl) (by kernel_rfl) (by kernel_rfl) (by kernel_rfl) (by kernel_rfl) (ps (by kernel_rfl)) ?_
    refine G_take 8 (some 13) (.slice xB xN xC) #[true, true, true, true, false, true, true, true, true, false, false, false, false, false, false, false, false, false, false, false, false, false] [(0, .pointer (some hvA)), (8, .pointer x), (13, .slice xB xN xC)] (loadN 39 (.pointer (some (hvA.add 1)))) (fun w => by kernel_rfl) (held_one 9 (fun w => by kernel_rfl) (List.Mem.tail _ (List.Mem.head _)) (.inl (by kernel_rfl))) (by kernel_rfl) (by kernel_rfl) (by kernel_rfl) (by kernel_rfl) (by kernel_rfl) (by kernel_rfl) (ps (by kernel_rfl)) ?_
    refine G_take 10 (some 15) (.pointer (some hvA)) #[true, true, true, true, false, true, true, true, true, false, true, false, false, false, false, false, false, false, false, false, false, false] [(0, .pointer (some hvA)), (8, .pointer x), (13, .slice xB xN xC), (15, .pointer (some hvA))] ((pure (.value (.pointer (some hvA))) : Sem Next)) (fun w => by kernel_rfl) (fun _ _ _ _ _ => rfl) (by kernel_rfl) (by kernel_rfl) (by kernel_rfl) (by kernel_rfl) (by kernel_rfl) (by kernel_rfl) (ps (by kernel_rfl)) ?_
    refine G_take 11 (some 16) (.pointer (some hvA)) #[true, true, true, true, false, true, true, true, true, false, true, true, false, false, false, false, false, false, false, false, false, false] [(0, .pointer (some hvA)), (8, .pointer x), (13, .slice xB xN xC), (16, .pointer (some hvA))] ((pure (.value (.pointer (some hvA))) : Sem Next)) (fun w => by kernel_rfl) (fun _ _ _ _ _ => rfl) (by kernel_rfl) (by kernel_rfl) (by kernel_rfl) (by kernel_rfl) (by kernel_rfl) (by kernel_rfl) (ps (by kernel_rfl)) ?_
    refine G_take 12 (some 17) (.pointer (some (hvA.add 2))) #[true, true, true, true, false, true, true, true, true, false, true, true, true, false, false, false, false, false, false, false, false, false] [(0, .pointer (some hvA)), (8, .pointer x), (13, .slice xB xN xC), (17, .pointer (some (hvA.add 2)))] ((pure (.value (.pointer (some (hvA.add 2)))) : Sem Next)) (fun w => by kernel_rfl) (fun _ _ _ _ _ => rfl) (by kernel_rfl) (by kernel_rfl) (by kernel_rfl) (by kernel_rfl) (by kernel_rfl) (by kernel_rfl) (ps (by kernel_rfl)) ?_
    refine G_take 13 (some 18) (.slice xB_2 xN_2 xC_2) #[true, true, true, true, false, true, true, true, true, false, true, true, true, true, false, false, false, false, false, false, false, false] [(0, .pointer (some hvA)), (8, .pointer x), (13, .slice xB xN xC), (18, .slice xB_2 xN_2 xC_2)] (loadN 58 (.pointer (some (hvA.add 2)))) (fun w => by kernel_rfl) (held_one 14 (fun w => by kernel_rfl) (List.Mem.tail _ (List.Mem.tail _ (List.Mem.head _))) (.inl (by kernel_rfl))) (by kernel_rfl) (by kernel_rfl) (by kernel_rfl) (by kernel_rfl) (by kernel_rfl) (by kernel_rfl) (ps (by kernel_rfl)) ?_
    refine G_take 15 (some 20) (.pointer (some hvA)) #[true, true, true, true, false, true, true, true, true, false, true, true, true, true, false, true, false, false, false, false, false, false] [(8, .pointer x), (13, .slice xB xN xC), (18, .slice xB_2 xN_2 xC_2), (20, .pointer (some hvA))] ((pure (.value (.pointer (some hvA))) : Sem Next)) (fun w => by kernel_rfl) (fun _ _ _ _ _ => rfl) (by kernel_rfl) (by kernel_rfl) (by kernel_rfl) (by kernel_rfl) (by kernel_rfl) (by kernel_rfl) (ps (by kernel_rfl)) ?_
    refine G_take 16 (some 21) (.pointer (some hvA)) #[true, true, true, true, false, true, true, true, true, false, true, true, true, true, false, true, true, false, false, false, false, false] [(8, .pointer x), (13, .slice xB xN xC), (18, .slice xB_2 xN_2 xC_2), (21, .pointer (some hvA))] ((pure (.value (.pointer (some hvA))) : Sem Next)) (fun w => by kernel_rfl) (fun _ _ _ _ _ => rfl) (by kernel_rfl) (by kernel_rfl) (by kernel_rfl) (by kernel_rfl) (by kernel_rfl) (by kernel_rfl) (ps (by kernel_rfl)) ?_
    refine G_take 17 (some 22) (.pointer (some (hvA.add 3))) #[true, true, true, true, false, true, true, true, true, false, true, true, true, true, false, true, true, true, false, false, false, false] [(8, .pointer x), (13, .slice xB xN xC), (18, .slice xB_2 xN_2 xC_2), (22, .pointer (some (hvA.add 3)))] ((pure (.value (.pointer (some (hvA.add 3)))) : Sem Next)) (fun w => by kernel_rfl) (fun _ _ _ _ _ => rfl) (by kernel_rfl) (by kernel_rfl) (by kernel_rfl) (by kernel_rfl) (by kernel_rfl) (by kernel_rfl) (ps (by kernel_rfl)) ?_
    refine G_take 18 (some 23) (.int .u64 x_2) #[true, true, true, true, false, true, true, true, true, false, true, true, true, true, false, true, true, true, true, false, false, false] [(8, .pointer x), (13, .slice xB xN xC), (18, .slice xB_2 xN_2 xC_2), (23, .int .u64 x_2)] (loadN 28 (.pointer (some (hvA.add 3)))) (fun w => by kernel_rfl) (held_one 20 (fun w => by kernel_rfl) (List.Mem.tail _ (List.Mem.tail _ (List.Mem.tail _ (List.Mem.head _)))) (.inl (by kernel_rfl))) (by kernel_rfl) (by kernel_rfl) (by kernel_rfl) (by kernel_rfl) (by kernel_rfl) (by kernel_rfl) (ps (by kernel_rfl)) ?_
    refine G_call 4 (some 9) #[true, true, true, true, true, true, true, true, true, false, true, true, true, true, false, true, true, true, true, false, false, false] 78 #[.pointer x] (by kernel_rfl) (fun w => by kernel_rfl) h (by kernel_rfl) ?_; clear h
    rintro v H1 ⟨x_3, rfl, h⟩
    obtain ⟨f5, f6, f7, h⟩ := h
    refine ⟨[(9, .pointer x_3), (13, .slice xB xN xC), (18, .slice xB_2 xN_2 xC_2), (23, .int .u64 x_2)], ps (by kernel_rfl), (show FactsAt _ _ _ from ⟨trivial, f5, f6, f7, trivial⟩), ?_⟩
    refine G_call 9 (some 14) #[true, true, true, true, true, true, true, true, true, true, true, true, true, true, false, true, true, true, true, false, false, false] 79 #[.slice xB xN xC] (by kernel_rfl) (fun w => by kernel_rfl) h (by kernel_rfl) ?_; clear h
    rintro v_2 H2 ⟨xB_3, xN_3, xC_3, rfl, h⟩
    obtain ⟨f8, f9, h⟩ := h
    refine ⟨[(9, .pointer x_3), (14, .slice xB_3 xN_3 xC_3), (18, .slice xB_2 xN_2 xC_2), (23, .int .u64 x_2)], ps (by kernel_rfl), (show FactsAt _ _ _ from ⟨trivial, trivial, f8, f9, trivial⟩), ?_⟩
    refine G_call 14 (some 19) #[true, true, true, true, true, true, true, true, true, true, true, true, true, true, true, true, true, true, true, false, false, false] 80 #[.slice xB_2 xN_2 xC_2] (by kernel_rfl) (fun w => by kernel_rfl) h (by kernel_rfl) ?_; clear h
    rintro v_3 H3 ⟨xB_4, xN_4, xC_4, rfl, h⟩
    obtain ⟨f10, h⟩ := h
    refine ⟨[(9, .pointer x_3), (14, .slice xB_3 xN_3 xC_3), (19, .slice xB_4 xN_4 xC_4), (23, .int .u64 x_2)], ps (by kernel_rfl), (show FactsAt _ _ _ from ⟨trivial, trivial, trivial, f10, trivial⟩), ?_⟩
    refine G_take 19 (some 24) (.agg #[.pointer x_3, .slice xB_3 xN_3 xC_3, .slice xB_4 xN_4 xC_4, .int .u64 x_2]) #[true, true, true, true, true, true, true, true, true, true, true, true, true, true, true, true, true, true, true, true, false, false] [(24, .agg #[.pointer x_3, .slice xB_3 xN_3 xC_3, .slice xB_4 xN_4 xC_4, .int .u64 x_2])] (pure (.value (.agg #[.pointer x_3, .slice xB_3 xN_3 xC_3, .slice xB_4 xN_4 xC_4, .int .u64 x_2])) : Sem Next) (fun w => by kernel_rfl) (fun _ _ _ _ _ => rfl) (by kernel_rfl) (by kernel_rfl) (by kernel_rfl) (by kernel_rfl) (by kernel_rfl) (by kernel_rfl) (ps (by kernel_rfl)) ?_
    refine G_new 20 (some 25) #[true, true, true, true, true, true, true, true, true, true, true, true, true, true, true, true, true, true, true, true, true, false] (fun b => .pointer (some (Addr.mk b 0 none))) (.cells #[.pointer x_3, .slice xB_3 xN_3 xC_3, .slice xB_4 xN_4 xC_4, .int .u64 x_2] 60) (by kernel_rfl) (fun w => by kernel_rfl) (by kernel_rfl) ?_
    intro b H4 e11 e12
    replace h := h b H4 e11 e12
    refine ⟨[(25, .pointer (some (Addr.mk b 0 none)))], ps (by kernel_rfl), (show FactsAt _ _ _ from ⟨trivial, trivial, trivial, trivial, trivial⟩), ?_⟩
    refine G_take 21 (some 2) (.pointer (some (Addr.mk b 0 none))) #[true, true, true, true, true, true, true, true, true, true, true, true, true, true, true, true, true, true, true, true, true, true] [(2, .pointer (some (Addr.mk b 0 none)))] (pure (.value (.pointer (some (Addr.mk b 0 none)))) : Sem Next) (fun w => by kernel_rfl) (fun _ _ _ _ _ => rfl) (by kernel_rfl) (by kernel_rfl) (by kernel_rfl) (by kernel_rfl) (by kernel_rfl) (by kernel_rfl) (ps (by kernel_rfl)) ?_
    refine G_sub [(2, .pointer (some (Addr.mk b 0 none)))] (sb (by kernel_rfl)) ?_
    refine G_end (by kernel_rfl) ?_
    refine S_then ?_
    refine S_ret (by kernel_rfl) ?_
    show At _ _ _ _ _ (Q .ret)
    exact S_done (fn := Try.f51) [.pointer (some (Addr.mk b 0 none))] hQ (show ResOK _ _ _ [.tmp 2] _ from .tmp (by kernel_rfl) (.nil)) h
end obj_Heap_Copy

/-! (*moraine/obj.Heap).words -/
namespace obj_Heap_words
def kk0 := Func.code Try.f68
def kk1 := Code.fa kk0
def kk2 := Code.fb kk0
def kk3 := Code.fa kk2
def kk4 := Code.fb kk2
def kk5 := Code.fa kk4
def kk6 := Code.fb kk4
def kk7 := Code.fa kk5
def kk8 := Code.fb kk5
def kk9 := Code.fa kk8
def kk10 := Code.fb kk8
def kk11 := Code.fa kk9
def kk12 := Code.fb kk9
def kk13 := Code.fa kk6
def kk14 := Code.fb kk6
def kk15 := Code.fa kk14
def kk16 := Code.fb kk14
def kk17 := Code.fa kk15
def kk18 := Code.fb kk15
def kk19 := Code.fa kk18
def kk20 := Code.fa kk19
def kk21 := Code.fa kk20
def kk22 := Code.fb kk20
def kk23 := Code.fa kk22
def kk24 := Code.fb kk22
def kk25 := Code.fa kk23
def kk26 := Code.fb kk23
def kk27 := Code.fa kk24
def kk28 := Code.fb kk24
def kk29 := Code.fa kk27
def kk30 := Code.fa kk29
def kk31 := Code.fb kk29
def kk32 := Code.fa kk16
def kk33 := Code.fb kk16
end obj_Heap_words
def obj_Heap_words.pt (hv : Option Addr) (wv : Int) (kind : Int) (H : Array Obj) (R : Value → Array Obj → Prop) : Prop :=
 obj_Heap_object.C hv wv H (fun v H1 => ∃ ra : Int, ∃ rb : Int, ∃ rc : Int, ∃ rd : Int, ∃ re : Bool, v = .tuple #[.int .i64 ra, .int .i64 rb, .int .i64 rc, .int .u64 rd, .bool re] ∧ 
  if ((!re) || (rb != kind)) = true then (
   R (.tuple #[.slice none 0 0, .bool false]) H1)
  else
  0 ≤ rc ∧ rc ≤ rc ∧ 8 * rc ≤ 2 ^ 48 ∧ rc ≤ 9223372036854775807 ∧
  ∀ (b : Nat) (H2 : Array Obj), b = H1.size → H2 = H1.push (.cells (Builtin.zeroCells #[.int .u64 0] (Int.toNat rc)) 29) →
  ∃ (I21 : Int → Array Obj → Prop) (m21 : Int → Array Obj → Nat), I21 0 H2 ∧ ∀ (s35 : Int) (H3 : Array Obj), I21 s35 H3 →
  if s35 < ((Int.toNat rc) : Int) then (
   ∃ hvA : Addr, hv = some hvA ∧
   ∃ x : Option Addr, hat H3 hvA = some (.pointer x) ∧
   ∃ xA : Addr, x = some xA ∧
   ∃ x_2 : Option Addr, hat H3 xA = some (.pointer x_2) ∧
   ∃ x2A : Addr, x_2 = some x2A ∧
   ∃ x_3 : Option Addr, hat H3 x2A = some (.pointer x_3) ∧
   seg_Mem_Read.C x_3 (IntKind.wrap .i64 ((IntKind.wrap .i64 (ra + 1)) + s35)) H3 (fun v_2 H4 => ∃ ra_2 : Int, ∃ rb_2 : Int, v_2 = .tuple #[.int .u64 ra_2, .int .i64 rb_2] ∧ 
    ((0 : Int) ≤ s35 ∧ s35 < ((Int.toNat rc) : Int)) ∧
    (CanPuts H4 ((Addr.mk b 0 none).add (Int.toNat s35 * 1)) 0 1) ∧ ∀ H5 : Array Obj, H5 = hputs H4 ((Addr.mk b 0 none).add (Int.toNat s35 * 1)) [.int .u64 ra_2] 0 →
    (I21 (IntKind.wrap .i64 (s35 + 1)) H5 ∧ m21 (IntKind.wrap .i64 (s35 + 1)) H5 < m21 s35 H3)))
  else
  R (.tuple #[.slice (some (Addr.mk b 0 none)) (Int.toNat rc) (Int.toNat rc), .bool true]) H3)
namespace obj_Heap_words
set_option maxRecDepth 100000 in
theorem link {hv : Option Addr} {wv : Int} {kind : Int} {H : Array Obj} {R : Value → Array Obj → Prop} (h : pt hv wv kind H R) : C hv wv kind H R := by
  refine S_enter (fn := Try.f68) (c := kk0) 61 Try.func68 (by kernel_rfl) (by kernel_rfl) (Nat.le_of_ble_eq_true (by kernel_rfl)) ?_
  intro w0 Q hQ
  unfold pt at h
  refine S_sub [(0, .pointer hv), (1, .int .u64 wv), (2, .int .i64 kind)] (sb (by kernel_rfl)) ?_
  refine S_seq kk1 kk2 (by kernel_rfl) ?_
  refine S_region 0 (Code.ops kk1) (by kernel_rfl) ?_
  refine N_run 2 [(0, .pointer hv), (1, .int .u64 wv), (2, .int .i64 kind)] (fun w => by kernel_rfl) ?_
  refine N_end (by kernel_rfl) ?_
  refine S_then ?_
  refine S_seq kk3 kk4 (by kernel_rfl) ?_
  refine S_region 1 (Code.ops kk3) (by kernel_rfl) ?_
  refine N_run 2 [(0, .pointer hv), (2, .int .i64 kind), (16, .pointer hv), (17, .int .u64 wv)] (fun w => by kernel_rfl) ?_
  refine N_call (some 18) 66 #[.pointer hv, .int .u64 wv] (fun w => by kernel_rfl) h ?_; clear h
  rintro v H1 ⟨ra, rb, rc, rd, re, rfl, h⟩
  refine ⟨[(0, .pointer hv), (2, .int .i64 kind), (18, .tuple #[.int .i64 ra, .int .i64 rb, .int .i64 rc, .int .u64 rd, .bool re])], ps (by kernel_rfl), ?_⟩
  refine N_run 11 [(0, .pointer hv), (2, .int .i64 kind), (8, .int .i64 ra), (9, .int .i64 rb), (10, .int .i64 rc), (12, .bool re)] (fun w => by kernel_rfl) ?_
  refine N_end (by kernel_rfl) ?_
  refine S_then ?_
  refine S_seq kk5 kk6 (by kernel_rfl) ?_
  refine S_seq kk7 kk8 (by kernel_rfl) ?_
  refine S_region 2 (Code.ops kk7) (by kernel_rfl) ?_
  refine N_cut [(0, .pointer hv), (8, .int .i64 ra), (10, .int .i64 rc), (30, .bool ((!re) || (rb != kind)))] ?_ ?_
  · refine S_then ?_
    by_cases c3 : ((!re) || (rb != kind)) = true
    · rw [if_pos c3] at h
      have b4 : ((!re) || (rb != kind)) = true := c3
      refine S_env [(0, .pointer hv), (8, .int .i64 ra), (10, .int .i64 rc), (30, .bool true)] (by simp only [b4, Bool.not_true, Bool.not_false]) ?_
      clear b4
      refine S_condT (.tmp 30) kk9 kk10 (by kernel_rfl) (by kernel_rfl) ?_
      refine S_seq kk11 kk12 (by kernel_rfl) ?_
      refine S_region 3 (Code.ops kk11) (by kernel_rfl) ?_
      refine N_run 2 [(6, .slice none 0 0), (7, .bool false)] (fun w => by kernel_rfl) ?_
      refine N_end (by kernel_rfl) ?_
      refine S_then ?_
      refine S_ret (by kernel_rfl) ?_
      show At _ _ _ _ _ (Q .ret)
      exact S_done (fn := Try.f68) [.slice none 0 0, .bool false] hQ (show ResOK _ _ _ [.tmp 6, .tmp 7] _ from .tmp (by kernel_rfl) (.tmp (by kernel_rfl) (.nil))) h
    · rw [if_neg c3] at h
      have b4 : ((!re) || (rb != kind)) = false := eq_false_of_ne_true c3
      refine S_env [(0, .pointer hv), (8, .int .i64 ra), (10, .int .i64 rc), (30, .bool false)] (by simp only [b4, Bool.not_true, Bool.not_false]) ?_
      clear b4
      refine S_condF (.tmp 30) kk9 kk10 (by kernel_rfl) (by kernel_rfl) ?_
      refine S_skip (by kernel_rfl) ?_
      refine S_then ?_
      refine S_seq kk13 kk14 (by kernel_rfl) ?_
      refine S_region 4 (Code.ops kk13) (by kernel_rfl) ?_
      refine N_run 1 [(0, .pointer hv), (8, .int .i64 ra), (31, .int .i64 rc)] (fun w => by kernel_rfl) ?_
      obtain ⟨q5, q6, q7, q8, h⟩ := h
      refine N_op (some 32) (makeSliceN 39 (.int .i64 rc) (.int .i64 rc)) (fun v Hz => v = Value.slice (some (Addr.mk H1.size 0 none)) (Int.toNat rc) (Int.toNat rc) ∧ Hz = H1.push (.cells (Builtin.zeroCells #[.int .u64 0] (Int.toNat rc)) 29)) (fun w => by kernel_rfl) (ss_make (T := 29) (zero := .int .u64 0) Try.underlying39 (show Try.prog.info? 29 = some Try.t29 from by kernel_rfl) (by kernel_rfl) q5 q6 q7 q8 (by kernel_rfl) (by decide)) ?_
      rintro _ H2 ⟨rfl, e10⟩
      obtain ⟨b, e9⟩ : ∃ b, b = H1.size := ⟨_, rfl⟩
      replace h := h b H2 e9 e10
      rw [← e9]
      refine ⟨[(0, .pointer hv), (8, .int .i64 ra), (32, .slice (some (Addr.mk b 0 none)) (Int.toNat rc) (Int.toNat rc))], ps (by kernel_rfl), ?_⟩
      refine N_run 1 [(0, .pointer hv), (8, .int .i64 ra), (13, .slice (some (Addr.mk b 0 none)) (Int.toNat rc) (Int.toNat rc))] (fun w => by kernel_rfl) ?_
      refine N_end (by kernel_rfl) ?_
      refine S_then ?_
      refine S_seq kk15 kk16 (by kernel_rfl) ?_
      refine S_seq kk17 kk18 (by kernel_rfl) ?_
      refine S_region 5 (Code.ops kk17) (by kernel_rfl) ?_
      refine N_run 3 [(0, .pointer hv), (8, .int .i64 ra), (13, .slice (some (Addr.mk b 0 none)) (Int.toNat rc) (Int.toNat rc)), (34, .int .i64 ((Int.toNat rc) : Int)), (35, .int .i64 0)] (fun w => by kernel_rfl) ?_
      refine N_end (by kernel_rfl) ?_
      refine S_then ?_
      refine S_block 0 kk19 (by kernel_rfl) ?_
      obtain ⟨I21, m21, i11, i12⟩ := h
      refine S_loop (x := kk20) (σ := Int) (fun s_ => [(0, .pointer hv), (8, .int .i64 ra), (13, .slice (some (Addr.mk b 0 none)) (Int.toNat rc) (Int.toNat rc)), (34, .int .i64 ((Int.toNat rc) : Int)), (35, .int .i64 s_)]) (fun s_ H => I21 s_ H) (fun s_ H => m21 s_ H) (0 : Int) (by kernel_rfl) i11 (sb (by kernel_rfl)) ?_
      rintro s35 H3 i13
      have h := i12 s35 H3 i13
      refine S_sub [(0, .pointer hv), (8, .int .i64 ra), (13, .slice (some (Addr.mk b 0 none)) (Int.toNat rc) (Int.toNat rc)), (34, .int .i64 ((Int.toNat rc) : Int)), (35, .int .i64 s35)] (sb (by kernel_rfl)) ?_
      refine S_seq kk21 kk22 (by kernel_rfl) ?_
      refine S_region 6 (Code.ops kk21) (by kernel_rfl) ?_
      refine N_run 1 [(0, .pointer hv), (8, .int .i64 ra), (13, .slice (some (Addr.mk b 0 none)) (Int.toNat rc) (Int.toNat rc)), (34, .int .i64 ((Int.toNat rc) : Int)), (35, .int .i64 s35), (36, .bool (decide (s35 < ((Int.toNat rc) : Int))))] (fun w => by kernel_rfl) ?_
      refine N_end (by kernel_rfl) ?_
      refine S_then ?_
      refine S_seq kk23 kk24 (by kernel_rfl) ?_
      by_cases c14 : s35 < ((Int.toNat rc) : Int)
      · rw [if_pos c14] at h
        have b15 : (decide (s35 < ((Int.toNat rc) : Int))) = true := decide_eq_true c14
        refine S_env [(0, .pointer hv), (8, .int .i64 ra), (13, .slice (some (Addr.mk b 0 none)) (Int.toNat rc) (Int.toNat rc)), (34, .int .i64 ((Int.toNat rc) : Int)), (35, .int .i64 s35), (36, .bool true)] (by simp only [b15, Bool.not_true, Bool.not_false]) ?_
        clear b15
        refine S_condT (.tmp 36) kk25 kk26 (by kernel_rfl) (by kernel_rfl) ?_
        refine S_skip (by kernel_rfl) ?_
        refine S_then ?_
        refine S_seq kk27 kk28 (by kernel_rfl) ?_
        refine S_block 1 kk29 (by kernel_rfl) ?_
        refine S_seq kk30 kk31 (by kernel_rfl) ?_
        refine S_region 7 (Code.ops kk30) (by kernel_rfl) ?_
        refine N_run 2 [(0, .pointer hv), (8, .int .i64 ra), (13, .slice (some (Addr.mk b 0 none)) (Int.toNat rc) (Int.toNat rc)), (14, .int .i64 s35), (34, .int .i64 ((Int.toNat rc) : Int)), (35, .int .i64 s35)] (fun w => by kernel_rfl) ?_
        refine N_end (by kernel_rfl) ?_
        refine S_then ?_
        refine S_region 8 (Code.ops kk31) (by kernel_rfl) ?_
        refine N_run 3 [(0, .pointer hv), (8, .int .i64 ra), (13, .slice (some (Addr.mk b 0 none)) (Int.toNat rc) (Int.toNat rc)), (14, .int .i64 s35), (34, .int .i64 ((Int.toNat rc) : Int)), (35, .int .i64 s35), (39, .slice (some (Addr.mk b 0 none)) (Int.toNat rc) (Int.toNat rc)), (40, .int .i64 s35), (41, .pointer hv)] (fun w => by kernel_rfl) ?_
        obtain ⟨hvA, rfl, h⟩ := h
        refine N_run 2 [(0, .pointer (some hvA)), (8, .int .i64 ra), (13, .slice (some (Addr.mk b 0 none)) (Int.toNat rc) (Int.toNat rc)), (14, .int .i64 s35), (34, .int .i64 ((Int.toNat rc) : Int)), (35, .int .i64 s35), (39, .slice (some (Addr.mk b 0 none)) (Int.toNat rc) (Int.toNat rc)), (40, .int .i64 s35), (43, .pointer (some hvA))] (fun w => by kernel_rfl) ?_
        obtain ⟨x, q16, h⟩ := h
        refine N_val (some 44) (loadN 57 (.pointer (some hvA))) (.pointer x) (fun w => by kernel_rfl) (loadN_run (loadOK_one (fun w => by kernel_rfl) q16)) [(0, .pointer (some hvA)), (8, .int .i64 ra), (13, .slice (some (Addr.mk b 0 none)) (Int.toNat rc) (Int.toNat rc)), (14, .int .i64 s35), (34, .int .i64 ((Int.toNat rc) : Int)), (35, .int .i64 s35), (39, .slice (some (Addr.mk b 0 none)) (Int.toNat rc) (Int.toNat rc)), (40, .int .i64 s35), (44, .pointer x)] (ps (by kernel_rfl)) ?_
        obtain ⟨xA, rfl, h⟩ := h
        refine N_run 2 [(0, .pointer (some hvA)), (8, .int .i64 ra), (13, .slice (some (Addr.mk b 0 none)) (Int.toNat rc) (Int.toNat rc)), (14, .int .i64 s35), (34, .int .i64 ((Int.toNat rc) : Int)), (35, .int .i64 s35), (39, .slice (some (Addr.mk b 0 none)) (Int.toNat rc) (Int.toNat rc)), (40, .int .i64 s35), (46, .pointer (some xA))] (fun w => by kernel_rfl) ?_
        obtain ⟨x_2, q17, h⟩ := h
        refine N_val (some 47) (loadN 107 (.pointer (some xA))) (.pointer x_2) (fun w => by kernel_rfl) (loadN_run (loadOK_one (fun w => by kernel_rfl) q17)) [(0, .pointer (some hvA)), (8, .int .i64 ra), (13, .slice (some (Addr.mk b 0 none)) (Int.toNat rc) (Int.toNat rc)), (14, .int .i64 s35), (34, .int .i64 ((Int.toNat rc) : Int)), (35, .int .i64 s35), (39, .slice (some (Addr.mk b 0 none)) (Int.toNat rc) (Int.toNat rc)), (40, .int .i64 s35), (47, .pointer x_2)] (ps (by kernel_rfl)) ?_
        obtain ⟨x2A, rfl, h⟩ := h
        refine N_run 2 [(0, .pointer (some hvA)), (8, .int .i64 ra), (13, .slice (some (Addr.mk b 0 none)) (Int.toNat rc) (Int.toNat rc)), (14, .int .i64 s35), (34, .int .i64 ((Int.toNat rc) : Int)), (35, .int .i64 s35), (39, .slice (some (Addr.mk b 0 none)) (Int.toNat rc) (Int.toNat rc)), (40, .int .i64 s35), (49, .pointer (some x2A))] (fun w => by kernel_rfl) ?_
        obtain ⟨x_3, q18, h⟩ := h
        refine N_val (some 50) (loadN 124 (.pointer (some x2A))) (.pointer x_3) (fun w => by kernel_rfl) (loadN_run (loadOK_one (fun w => by kernel_rfl) q18)) [(0, .pointer (some hvA)), (8, .int .i64 ra), (13, .slice (some (Addr.mk b 0 none)) (Int.toNat rc) (Int.toNat rc)), (14, .int .i64 s35), (34, .int .i64 ((Int.toNat rc) : Int)), (35, .int .i64 s35), (39, .slice (some (Addr.mk b 0 none)) (Int.toNat rc) (Int.toNat rc)), (40, .int .i64 s35), (50, .pointer x_3)] (ps (by kernel_rfl)) ?_
        refine N_run 4 [(0, .pointer (some hvA)), (8, .int .i64 ra), (13, .slice (some (Addr.mk b 0 none)) (Int.toNat rc) (Int.toNat rc)), (34, .int .i64 ((Int.toNat rc) : Int)), (35, .int .i64 s35), (39, .slice (some (Addr.mk b 0 none)) (Int.toNat rc) (Int.toNat rc)), (40, .int .i64 s35), (50, .pointer x_3), (54, .int .i64 (IntKind.wrap .i64 ((IntKind.wrap .i64 (ra + 1)) + s35)))] (fun w => by kernel_rfl) ?_
        refine N_call (some 55) 67 #[.pointer x_3, .int .i64 (IntKind.wrap .i64 ((IntKind.wrap .i64 (ra + 1)) + s35))] (fun w => by kernel_rfl) h ?_; clear h
        rintro v_2 H4 ⟨ra_2, rb_2, rfl, h⟩
        refine ⟨[(0, .pointer (some hvA)), (8, .int .i64 ra), (13, .slice (some (Addr.mk b 0 none)) (Int.toNat rc) (Int.toNat rc)), (34, .int .i64 ((Int.toNat rc) : Int)), (35, .int .i64 s35), (39, .slice (some (Addr.mk b 0 none)) (Int.toNat rc) (Int.toNat rc)), (40, .int .i64 s35), (55, .tuple #[.int .u64 ra_2, .int .i64 rb_2])], ps (by kernel_rfl), ?_⟩
        refine N_run 3 [(0, .pointer (some hvA)), (8, .int .i64 ra), (13, .slice (some (Addr.mk b 0 none)) (Int.toNat rc) (Int.toNat rc)), (34, .int .i64 ((Int.toNat rc) : Int)), (35, .int .i64 s35), (39, .slice (some (Addr.mk b 0 none)) (Int.toNat rc) (Int.toNat rc)), (40, .int .i64 s35), (56, .int .u64 ra_2)] (fun w => by kernel_rfl) ?_
        obtain ⟨q19, h⟩ := h
        refine N_val (some 58) (indexAtN 39 (.slice (some (Addr.mk b 0 none)) (Int.toNat rc) (Int.toNat rc)) (.int .i64 s35)) (.pointer (some ((Addr.mk b 0 none).add (Int.toNat s35 * 1)))) (fun w => by kernel_rfl) (fun w _ => indexAt_run (P := Try.prog) (t := 39) (elem := 29) (sz := 1) (a := (Addr.mk b 0 none)) (len := (Int.toNat rc)) (cap := (Int.toNat rc)) (k := .i64) (i := s35) Try.underlying39 (fun w => by kernel_rfl) q19.1 q19.2 w) [(0, .pointer (some hvA)), (8, .int .i64 ra), (13, .slice (some (Addr.mk b 0 none)) (Int.toNat rc) (Int.toNat rc)), (34, .int .i64 ((Int.toNat rc) : Int)), (35, .int .i64 s35), (56, .int .u64 ra_2), (58, .pointer (some ((Addr.mk b 0 none).add (Int.toNat s35 * 1))))] (ps (by kernel_rfl)) ?_
        obtain ⟨q21, h⟩ := h
        refine N_skipop none (storeN 29 (.pointer (some ((Addr.mk b 0 none).add (Int.toNat s35 * 1)))) (.int .u64 ra_2)) (fun Hz => Hz = hputs H4 ((Addr.mk b 0 none).add (Int.toNat s35 * 1)) [.int .u64 ra_2] 0) (fun w => by kernel_rfl) (ss_store [.int .u64 ra_2] 1 (by kernel_rfl) (by kernel_rfl) (fun w => by kernel_rfl) (by kernel_rfl) q21) ?_
        intro H5 e20
        replace h := h H5 e20
        refine ⟨[(0, .pointer (some hvA)), (8, .int .i64 ra), (13, .slice (some (Addr.mk b 0 none)) (Int.toNat rc) (Int.toNat rc)), (34, .int .i64 ((Int.toNat rc) : Int)), (35, .int .i64 s35)], ps (by kernel_rfl), ?_⟩
        refine N_end (by kernel_rfl) ?_
        refine S_blockEnd ?_
        refine S_then ?_
        refine S_region 9 (Code.ops kk28) (by kernel_rfl) ?_
        refine N_run 2 [(0, .pointer (some hvA)), (8, .int .i64 ra), (13, .slice (some (Addr.mk b 0 none)) (Int.toNat rc) (Int.toNat rc)), (34, .int .i64 ((Int.toNat rc) : Int)), (35, .int .i64 (IntKind.wrap .i64 (s35 + 1)))] (fun w => by kernel_rfl) ?_
        refine N_end (by kernel_rfl) ?_
        refine S_then ?_
        exact S_round ((IntKind.wrap .i64 (s35 + 1)) : Int) (sb (by kernel_rfl)) h
      · rw [if_neg c14] at h
        have b15 : (decide (s35 < ((Int.toNat rc) : Int))) = false := decide_eq_false c14
        refine S_env [(0, .pointer hv), (8, .int .i64 ra), (13, .slice (some (Addr.mk b 0 none)) (Int.toNat rc) (Int.toNat rc)), (34, .int .i64 ((Int.toNat rc) : Int)), (35, .int .i64 s35), (36, .bool false)] (by simp only [b15, Bool.not_true, Bool.not_false]) ?_
        clear b15
        refine S_condF (.tmp 36) kk25 kk26 (by kernel_rfl) (by kernel_rfl) ?_
        refine S_exit 0 (by kernel_rfl) ?_
        refine S_exitThen ?_
        refine S_exitThen ?_
        refine S_exitHere ?_
        refine S_then ?_
        refine S_seq kk32 kk33 (by kernel_rfl) ?_
        refine S_region 10 (Code.ops kk32) (by kernel_rfl) ?_
        refine N_run 3 [(6, .slice (some (Addr.mk b 0 none)) (Int.toNat rc) (Int.toNat rc)), (7, .bool true)] (fun w => by kernel_rfl) ?_
        refine N_end (by kernel_rfl) ?_
        refine S_then ?_
        refine S_ret (by kernel_rfl) ?_
        show At _ _ _ _ _ (Q .ret)
        exact S_done (fn := Try.f68) [.slice (some (Addr.mk b 0 none)) (Int.toNat rc) (Int.toNat rc), .bool true] hQ (show ResOK _ _ _ [.tmp 6, .tmp 7] _ from .tmp (by kernel_rfl) (.tmp (by kernel_rfl) (.nil))) h
  · intro hk
    refine N_run 3 [(0, .pointer hv), (2, .int .i64 kind), (8, .int .i64 ra), (9, .int .i64 rb), (10, .int .i64 rc), (26, .bool (!re))] (fun w => by kernel_rfl) ?_
    by_cases c1 : re = true
    · have b2 : (!re) = false := congrArg Bool.not (c1)
      have b22 : re = true := c1
      refine N_env [(0, .pointer hv), (2, .int .i64 kind), (8, .int .i64 ra), (9, .int .i64 rb), (10, .int .i64 rc), (26, .bool false)] (by simp only [b2, b22, Bool.not_true, Bool.not_false]) ?_
      refine N_run 4 [(0, .pointer hv), (8, .int .i64 ra), (10, .int .i64 rc), (30, .bool (rb != kind))] (fun w => by kernel_rfl) ?_
      refine N_end (by kernel_rfl) ?_
      refine S_env [(0, .pointer hv), (8, .int .i64 ra), (10, .int .i64 rc), (30, .bool ((!re) || (rb != kind)))] (by simp only [b2, Bool.true_or, Bool.false_or, Bool.or_true, Bool.or_false, Bool.true_and, Bool.false_and, Bool.and_true, Bool.and_false, Bool.not_true, Bool.not_false, cond_true, cond_false]) ?_
      exact hk
    · have b2 : (!re) = true := congrArg Bool.not (eq_false_of_ne_true c1)
      have b22 : re = false := eq_false_of_ne_true c1
      refine N_env [(0, .pointer hv), (2, .int .i64 kind), (8, .int .i64 ra), (9, .int .i64 rb), (10, .int .i64 rc), (26, .bool true)] (by simp only [b2, b22, Bool.not_true, Bool.not_false]) ?_
      refine N_run 4 [(0, .pointer hv), (8, .int .i64 ra), (10, .int .i64 rc), (30, .bool true)] (fun w => by kernel_rfl) ?_
      refine N_end (by kernel_rfl) ?_
      refine S_env [(0, .pointer hv), (8, .int .i64 ra), (10, .int .i64 rc), (30, .bool ((!re) || (rb != kind)))] (by simp only [b2, Bool.true_or, Bool.false_or, Bool.or_true, Bool.or_false, Bool.true_and, Bool.false_and, Bool.and_true, Bool.and_false, Bool.not_true, Bool.not_false, cond_true, cond_false]) ?_
      exact hk
end obj_Heap_words

end Go.Proofs.Ytfohlkiikppefaa
