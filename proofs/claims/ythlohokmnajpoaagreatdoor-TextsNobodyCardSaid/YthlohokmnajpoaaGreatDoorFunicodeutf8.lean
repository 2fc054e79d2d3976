/-
 Written by a program of mine (gen.py): for functions of this translation a predicate transformer over heaps (.pt), and the proof that it is sound for the call (.link).
-/
import Derived.Test.YthlohokmnajpoaaGreatDoorFnsC
set_option linter.unusedSimpArgs false
set_option linter.unusedVariables false
set_option maxHeartbeats 1000000
noncomputable section
namespace Go.Proofs.YthlohokmnajpoaaGreatDoor
open Go
/-! unicode/utf8.ValidString -/
namespace unicode_utf8_ValidString
def kk0 := Func.code Tryz.f83
def kk1 := Code.fa kk0
def kk2 := Code.fb kk0
def kk3 := Code.fa kk2
def kk4 := Code.fb kk2
def kk5 := Code.fa kk3
def kk6 := Code.fa kk5
def kk7 := Code.fa kk6
def kk8 := Code.fb kk6
def kk9 := Code.fa kk7
def kk10 := Code.fb kk7
def kk11 := Code.fa kk10
def kk12 := Code.fb kk10
def kk13 := Code.fa kk8
def kk14 := Code.fa kk13
def kk15 := Code.fb kk13
def kk16 := Code.fa kk15
def kk17 := Code.fb kk15
def kk18 := Code.fa kk16
def kk19 := Code.fb kk16
def kk20 := Code.fa kk19
def kk21 := Code.fb kk19
def kk22 := Code.fa kk20
def kk23 := Code.fb kk20
def kk24 := Code.fa kk23
def kk25 := Code.fb kk23
def kk26 := Code.fa kk24
def kk27 := Code.fb kk24
def kk28 := Code.fa kk27
def kk29 := Code.fb kk27
def kk30 := Code.fa kk28
def kk31 := Code.fb kk28
def kk32 := Code.fa kk31
def kk33 := Code.fb kk31
def kk34 := Code.fa kk33
def kk35 := Code.fb kk33
def kk36 := Code.fa kk34
def kk37 := Code.fb kk34
def kk38 := Code.fa kk37
def kk39 := Code.fa kk38
def kk40 := Code.fa kk39
def kk41 := Code.fb kk39
def kk42 := Code.fa kk40
def kk43 := Code.fb kk40
def kk44 := Code.fa kk43
def kk45 := Code.fb kk43
def kk46 := Code.fa kk41
def kk47 := Code.fa kk17
def kk48 := Code.fb kk17
def kk49 := Code.fa kk48
def kk50 := Code.fb kk48
def kk51 := Code.fa kk50
def kk52 := Code.fb kk50
def kk53 := Code.fa kk52
def kk54 := Code.fb kk52
def kk55 := Code.fa kk54
def kk56 := Code.fa kk55
def kk57 := Code.fb kk55
def kk58 := Code.fa kk57
def kk59 := Code.fb kk57
def kk60 := Code.fa kk58
def kk61 := Code.fb kk58
def kk62 := Code.fa kk60
def kk63 := Code.fb kk60
def kk64 := Code.fa kk63
def kk65 := Code.fb kk63
def kk66 := Code.fa kk64
def kk67 := Code.fb kk64
def kk68 := Code.fa kk59
def kk69 := Code.fb kk59
def kk70 := Code.fa kk69
def kk71 := Code.fb kk69
def kk72 := Code.fa kk70
def kk73 := Code.fb kk70
def kk74 := Code.fa kk72
def kk75 := Code.fb kk72
def kk76 := Code.fa kk75
def kk77 := Code.fb kk75
def kk78 := Code.fa kk76
def kk79 := Code.fb kk76
def kk80 := Code.fa kk71
def kk81 := Code.fb kk71
def kk82 := Code.fa kk81
def kk83 := Code.fb kk81
def kk84 := Code.fa kk82
def kk85 := Code.fb kk82
def kk86 := Code.fa kk84
def kk87 := Code.fb kk84
def kk88 := Code.fa kk87
def kk89 := Code.fb kk87
def kk90 := Code.fa kk88
def kk91 := Code.fb kk88
def kk92 := Code.fa kk83
def kk93 := Code.fb kk83
def kk94 := Code.fa kk4
def kk95 := Code.fb kk4
end unicode_utf8_ValidString
set_option maxRecDepth 100000 in def unicode_utf8_ValidString.pt (s : ByteArray) (H : Array Obj) (R : Value → Array Obj → Prop) : Prop :=
 ∃ (I7 : ByteArray → Array Obj → Prop) (m7 : ByteArray → Array Obj → Nat), I7 s H ∧ ∀ (d : ByteArray) (H1 : Array Obj), I7 d H1 →
 if (d.size : Int) > 0 then (
 ∃ c : UInt8, ((0 : Int) ≤ 0 ∧ d[Int.toNat 0]? = some c) ∧
 if ((c.toNat : Nat) : Int) < 128 then (
 ∃ (lo hi : Nat), 1 = (lo : Int) ∧ hi = d.size ∧ lo ≤ hi ∧ hi ≤ d.size ∧
 ∃ J : Bool → Array Obj → Prop, (
 if ((d.extract lo hi).size : Int) > 8 then (
 unicode_utf8_word_string.C (d.extract lo hi) H1 (fun bm bo => ∃ bf : Int, bm = .int .u64 bf ∧ 
 J ((iand .u64 bf 9259542123273814144) == 0) bo))
 else
 J false H1) ∧ ∀ (bc : Bool) (H2 : Array Obj), J bc H2 →
 ∃ bd : ByteArray → Array Obj → Prop, (
 if bc = true then (
 ∃ (g f : Nat), 8 = (g : Int) ∧ f = (d.extract lo hi).size ∧ g ≤ f ∧ f ≤ (d.extract lo hi).size ∧
 ∃ bh : Bool → Array Obj → Prop, (
 if (((d.extract lo hi).extract g f).size : Int) > 16 then (
 ∃ (a7 a1 : Nat), 8 = (a7 : Int) ∧ a1 = ((d.extract lo hi).extract g f).size ∧ a7 ≤ a1 ∧ a1 ≤ ((d.extract lo hi).extract g f).size ∧
 unicode_utf8_word_string.C ((d.extract lo hi).extract g f) H2 (fun bl bi => ∃ ah : Int, bl = .int .u64 ah ∧ 
 unicode_utf8_word_string.C (((d.extract lo hi).extract g f).extract a7 a1) bi (fun bn bp => ∃ ak : Int, bn = .int .u64 ak ∧ 
 bh ((iand .u64 (ior .u64 ah ak) 9259542123273814144) == 0) bp)))
 else
 bh false H2) ∧ ∀ (bb : Bool) (H4 : Array Obj), bh bb H4 →
 if bb = true then (
 ∃ (a8 a4 : Nat), 16 = (a8 : Int) ∧ a4 = ((d.extract lo hi).extract g f).size ∧ a8 ≤ a4 ∧ a4 ≤ ((d.extract lo hi).extract g f).size ∧
 ∃ (bg : ByteArray → Array Obj → Prop) (m40 : ByteArray → Array Obj → Nat), bg (((d.extract lo hi).extract g f).extract a8 a4) H4 ∧ ∀ (e : ByteArray) (H5 : Array Obj), bg e H5 →
 if (e.size : Int) > 32 then (
 ∃ (an ag : Nat), 8 = (an : Int) ∧ ag = e.size ∧ an ≤ ag ∧ ag ≤ e.size ∧
 ∃ (am ad : Nat), 16 = (am : Int) ∧ ad = e.size ∧ am ≤ ad ∧ ad ≤ e.size ∧
 ∃ (ar ao : Nat), 24 = (ar : Int) ∧ ao = e.size ∧ ar ≤ ao ∧ ao ≤ e.size ∧
 unicode_utf8_word_string.C e H5 (fun v H6 => ∃ x : Int, v = .int .u64 x ∧ 
 unicode_utf8_word_string.C (e.extract an ag) H6 (fun bq H7 => ∃ m : Int, bq = .int .u64 m ∧ 
 unicode_utf8_word_string.C (e.extract am ad) H7 (fun bk H8 => ∃ o : Int, bk = .int .u64 o ∧ 
 unicode_utf8_word_string.C (e.extract ar ao) H8 (fun bj H9 => ∃ p : Int, bj = .int .u64 p ∧ 
 if (iand .u64 (ior .u64 (ior .u64 x m) (ior .u64 o p)) 9259542123273814144) = 0 then (
 ∃ (a2 ax : Nat), 32 = (a2 : Int) ∧ ax = e.size ∧ a2 ≤ ax ∧ ax ≤ e.size ∧
 (bg (e.extract a2 ax) H9 ∧ m40 (e.extract a2 ax) H9 < m40 e H5))
 else
 bd e H9)))))
 else
 bd e H5)
 else
 bd ((d.extract lo hi).extract g f) H4)
 else
 bd (d.extract lo hi) H2) ∧ ∀ (be : ByteArray) (H3 : Array Obj), bd be H3 →
 (I7 be H3 ∧ m7 be H3 < m7 d H1))
 else
 ((0 : Int) ≤ ((c.toNat : Nat) : Int) ∧ ((c.toNat : Nat) : Int) < (256 : Int)) ∧
 ∃ j : Int, hat H1 ((Addr.mk 0 0 none).add (Int.toNat ((c.toNat : Nat) : Int) * 1)) = some (.int .u8 j) ∧
 ((0 : Int) ≤ (ishr .u8 j 4) ∧ (ishr .u8 j 4) < (16 : Int)) ∧
 ∃ a9 : Int, ∃ ba : Int, RowAt H1 ((Addr.mk 1 0 none).add (Int.toNat (ishr .u8 j 4) * 2)) 0 [.int .u8 a9, .int .u8 ba] ∧
 ∀ (b : Nat) (H13 : Array Obj), b = H1.size → H13 = H1.push (.cells #[.int .u8 0, .int .u8 0] 220) →
 (CanPuts H13 (Addr.mk b 0 none) 0 2) ∧ ∀ l : Array Obj, l = hputs H13 (Addr.mk b 0 none) [.int .u8 a9, .int .u8 ba] 0 →
 if (IntKind.wrap .i64 (iand .u8 j 7)) = 2 then (
 if (d.size : Int) < 2 then (
 R (.bool false) l)
 else
 ∃ au : UInt8, ((0 : Int) ≤ 1 ∧ d[Int.toNat 1]? = some au) ∧
 ∃ az : Int, hat l (Addr.mk b 0 none) = some (.int .u8 az) ∧
 if ((au.toNat : Nat) : Int) < az then (
 R (.bool false) l)
 else
 ∃ y : Int, hat l ((Addr.mk b 0 none).add 1) = some (.int .u8 y) ∧
 ∃ a5 : UInt8, ((0 : Int) ≤ 1 ∧ d[Int.toNat 1]? = some a5) ∧
 if y < ((a5.toNat : Nat) : Int) then (
 R (.bool false) l)
 else
 ∃ (a3 aw : Nat), 2 = (a3 : Int) ∧ aw = d.size ∧ a3 ≤ aw ∧ aw ≤ d.size ∧
 (I7 (d.extract a3 aw) l ∧ m7 (d.extract a3 aw) l < m7 d H1))
 else
 if (IntKind.wrap .i64 (iand .u8 j 7)) = 3 then (
 if (d.size : Int) < 3 then (
 R (.bool false) l)
 else
 ∃ av : UInt8, ((0 : Int) ≤ 1 ∧ d[Int.toNat 1]? = some av) ∧
 ∃ aj : Int, hat l (Addr.mk b 0 none) = some (.int .u8 aj) ∧
 if ((av.toNat : Nat) : Int) < aj then (
 R (.bool false) l)
 else
 ∃ u : Int, hat l ((Addr.mk b 0 none).add 1) = some (.int .u8 u) ∧
 ∃ ay : UInt8, ((0 : Int) ≤ 1 ∧ d[Int.toNat 1]? = some ay) ∧
 if u < ((ay.toNat : Nat) : Int) then (
 R (.bool false) l)
 else
 ∃ a0 : UInt8, ((0 : Int) ≤ 2 ∧ d[Int.toNat 2]? = some a0) ∧
 if ((a0.toNat : Nat) : Int) < 128 then (
 R (.bool false) l)
 else
 ∃ a6 : UInt8, ((0 : Int) ≤ 2 ∧ d[Int.toNat 2]? = some a6) ∧
 if 191 < ((a6.toNat : Nat) : Int) then (
 R (.bool false) l)
 else
 ∃ (aq z : Nat), 3 = (aq : Int) ∧ z = d.size ∧ aq ≤ z ∧ z ≤ d.size ∧
 (I7 (d.extract aq z) l ∧ m7 (d.extract aq z) l < m7 d H1))
 else
 if (IntKind.wrap .i64 (iand .u8 j 7)) = 4 then (
 if (d.size : Int) < 4 then (
 R (.bool false) l)
 else
 ∃ r : UInt8, ((0 : Int) ≤ 1 ∧ d[Int.toNat 1]? = some r) ∧
 ∃ ai : Int, hat l (Addr.mk b 0 none) = some (.int .u8 ai) ∧
 if ((r.toNat : Nat) : Int) < ai then (
 R (.bool false) l)
 else
 ∃ q : Int, hat l ((Addr.mk b 0 none).add 1) = some (.int .u8 q) ∧
 ∃ ab : UInt8, ((0 : Int) ≤ 1 ∧ d[Int.toNat 1]? = some ab) ∧
 if q < ((ab.toNat : Nat) : Int) then (
 R (.bool false) l)
 else
 ∃ aa : UInt8, ((0 : Int) ≤ 2 ∧ d[Int.toNat 2]? = some aa) ∧
 if ((aa.toNat : Nat) : Int) < 128 then (
 R (.bool false) l)
 else
 ∃ ac : UInt8, ((0 : Int) ≤ 2 ∧ d[Int.toNat 2]? = some ac) ∧
 if 191 < ((ac.toNat : Nat) : Int) then (
 R (.bool false) l)
 else
 ∃ af : UInt8, ((0 : Int) ≤ 3 ∧ d[Int.toNat 3]? = some af) ∧
 if ((af.toNat : Nat) : Int) < 128 then (
 R (.bool false) l)
 else
 ∃ al : UInt8, ((0 : Int) ≤ 3 ∧ d[Int.toNat 3]? = some al) ∧
 if 191 < ((al.toNat : Nat) : Int) then (
 R (.bool false) l)
 else
 ∃ (ap ae : Nat), 4 = (ap : Int) ∧ ae = d.size ∧ ap ≤ ae ∧ ae ≤ d.size ∧
 (I7 (d.extract ap ae) l ∧ m7 (d.extract ap ae) l < m7 d H1))
 else
 R (.bool false) l)
 else
 R (.bool true) H1
namespace unicode_utf8_ValidString
set_option maxRecDepth 100000 in
theorem link {s : ByteArray} {H : Array Obj} {R : Value → Array Obj → Prop} (h : pt s H R) : C s H R := by
 refine S_enter (fn := Tryz.f83) (c := kk0) 169 Tryz.func83 (by kernel_rfl) (by kernel_rfl) (Nat.le_of_ble_eq_true (by kernel_rfl)) ?_
 intro w0 Q hQ
 unfold pt at h
 refine T_su [(0, .string s)] ?_
 refine T_sr 0 kk1 kk2 ?_
 refine T_ne 1 [(0, .string s)] ?_
 refine T_s kk3 kk4 ?_
 refine T_b 0 kk5 ?_
 obtain ⟨I7, m7, i1, i2⟩ := h
 refine S_loop (x := kk6) (σ := ByteArray) (fun s_ => [(0, .string s_)]) (fun s_ H => I7 s_ H) (fun s_ H => m7 s_ H) (s : ByteArray) (by kernel_rfl) i1 sk ?_
 rintro d H1 i3
 have h := i2 d H1 i3
 refine T_su [(0, .string d)] ?_
 refine T_s kk7 kk8 ?_
 refine T_sr 1 kk9 kk10 ?_
 refine T_ne 3 [(0, .string d), (9, .bool (decide ((d.size : Int) > 0)))] ?_
 by_cases c4 : (d.size : Int) > 0
 ·rw [if_pos c4] at h
  have b5 : (decide ((d.size : Int) > 0)) = true := decide_eq_true c4
  refine T_cT 9 kk11 kk12 b5 ?_
  refine T_kt ?_
  refine T_b 1 kk13 ?_
  refine T_sr 2 kk14 kk15 ?_
  refine T_n 1 [(0, .string d), (10, .string d)] ?_
  obtain ⟨c, q6, h⟩ := h
  refine T_v (some 11) (indexN 9 (.string d) (vi 0)) (.int .u8 ((c.toNat : Nat) : Int)) (fun w _ => indexStr_run (P := Tryz.prog) (t := 9) (s := d) (k := .i64) (i := 0) Tryz.underlying9 q6.1 q6.2 w) [(0, .string d), (11, .int .u8 ((c.toNat : Nat) : Int))] ?_
  refine T_ne 1 [(0, .string d), (3, .int .u8 ((c.toNat : Nat) : Int))] ?_
  refine T_s kk16 kk17 ?_
  refine T_sr 3 kk18 kk19 ?_
  refine T_ne 2 [(0, .string d), (3, .int .u8 ((c.toNat : Nat) : Int)), (13, .bool (decide (((c.toNat : Nat) : Int) < 128)))] ?_
  by_cases c7 : ((c.toNat : Nat) : Int) < 128
  ·rw [if_pos c7] at h
   have b8 : (decide (((c.toNat : Nat) : Int) < 128)) = true := decide_eq_true c7
   refine T_cT 13 kk20 kk21 b8 ?_
   refine T_sr 4 kk22 kk23 ?_
   refine T_n 1 [(14, .string d)] ?_
   obtain ⟨lo, hi, q9, q10, q11, q12, h⟩ := h
   refine T_v (some 15) (sliceN 9 (.string d) (some (vi 1)) none none) (.string (d.extract lo hi)) (fun w _ => sliceStr_run (P := Tryz.prog) (t := 9) (s := d) (some (vi 1)) none lo hi Tryz.underlying9 (.inr ⟨.i64, by rw [q9]⟩) (.inl ⟨rfl, q10⟩) q11 q12 w) [(15, .string (d.extract lo hi))] ?_
   refine T_ne 1 [(0, .string (d.extract lo hi))] ?_
   refine T_s kk24 kk25 ?_
   refine T_s kk26 kk27 ?_
   obtain ⟨J, h, j15⟩ := h
   refine S_join (σ := Bool) (fun s_ => [(0, .string (d.extract lo hi)), (24, .bool s_)]) (fun s_ H => J s_ H) ?_ ?_
   ·rintro bc H2 j16
    replace h := j15 bc H2 j16
    refine T_su [(0, .string (d.extract lo hi)), (24, .bool bc)] ?_
    refine S_then ?_
    obtain ⟨bd, h, j18⟩ := h
    refine S_join (σ := ByteArray) (fun s_ => [(0, .string s_)]) (fun s_ H => bd s_ H) ?_ ?_
    ·rintro be H3 j19
     replace h := j18 be H3 j19
     refine T_su [(0, .string be)] ?_
     refine S_then ?_
     refine S_exit 1 (by kernel_rfl) ?_
     refine S_exitThen ?_
     refine S_exitHere ?_
     refine S_then ?_
     exact S_round (be : ByteArray) sk h
    ·by_cases c20 : bc = true
     ·rw [if_pos c20] at h
      have b21 : bc = true := c20
      refine S_env [(0, .string (d.extract lo hi)), (24, .bool true)] (by simp only [b21, Bool.not_true, Bool.not_false]) ?_
      clear b21
      refine T_t 24 kk28 kk29 ?_
      refine T_sr 6 kk30 kk31 ?_
      refine T_n 1 [(25, .string (d.extract lo hi))] ?_
      obtain ⟨g, f, q22, q23, q24, q25, h⟩ := h
      refine T_v (some 26) (sliceN 9 (.string (d.extract lo hi)) (some (vi 8)) none none) (.string ((d.extract lo hi).extract g f)) (fun w _ => sliceStr_run (P := Tryz.prog) (t := 9) (s := (d.extract lo hi)) (some (vi 8)) none g f Tryz.underlying9 (.inr ⟨.i64, by rw [q22]⟩) (.inl ⟨rfl, q23⟩) q24 q25 w) [(26, .string ((d.extract lo hi).extract g f))] ?_
      refine T_ne 1 [(0, .string ((d.extract lo hi).extract g f))] ?_
      refine T_s kk32 kk33 ?_
      obtain ⟨bh, h, j28⟩ := h
      refine S_join (σ := Bool) (fun s_ => [(0, .string ((d.extract lo hi).extract g f)), (39, .bool s_)]) (fun s_ H => bh s_ H) ?_ ?_
      ·rintro bb H4 j29
       replace h := j28 bb H4 j29
       refine T_su [(0, .string ((d.extract lo hi).extract g f)), (39, .bool bb)] ?_
       refine S_then ?_
       by_cases c30 : bb = true
       ·rw [if_pos c30] at h
        have b31 : bb = true := c30
        refine T_cT 39 kk34 kk35 b31 ?_
        refine T_sr 8 kk36 kk37 ?_
        refine T_n 1 [(40, .string ((d.extract lo hi).extract g f))] ?_
        obtain ⟨a8, a4, q32, q33, q34, q35, h⟩ := h
        refine T_v (some 41) (sliceN 9 (.string ((d.extract lo hi).extract g f)) (some (vi 16)) none none) (.string (((d.extract lo hi).extract g f).extract a8 a4)) (fun w _ => sliceStr_run (P := Tryz.prog) (t := 9) (s := ((d.extract lo hi).extract g f)) (some (vi 16)) none a8 a4 Tryz.underlying9 (.inr ⟨.i64, by rw [q32]⟩) (.inl ⟨rfl, q33⟩) q34 q35 w) [(41, .string (((d.extract lo hi).extract g f).extract a8 a4))] ?_
        refine T_ne 1 [(0, .string (((d.extract lo hi).extract g f).extract a8 a4))] ?_
        refine T_b 2 kk38 ?_
        obtain ⟨bg, m40, i37, i38⟩ := h
        refine S_loop (x := kk39) (σ := ByteArray) (fun s_ => [(0, .string s_)]) (fun s_ H => bg s_ H) (fun s_ H => m40 s_ H) ((((d.extract lo hi).extract g f).extract a8 a4) : ByteArray) (by kernel_rfl) i37 sk ?_
        rintro e H5 i39
        have h := i38 e H5 i39
        refine T_su [(0, .string e)] ?_
        refine T_s kk40 kk41 ?_
        refine T_s kk42 kk43 ?_
        by_cases c40 : (e.size : Int) > 32
        ·rw [if_pos c40] at h
         have b41 : (decide ((e.size : Int) > 32)) = true := decide_eq_true c40
         obtain ⟨an, ag, q42, q43, q44, q45, h⟩ := h
         obtain ⟨am, ad, q47, q48, q49, q50, h⟩ := h
         obtain ⟨ar, ao, q52, q53, q54, q55, h⟩ := h
         refine S_regionG 9 (Code.ops kk42) [] 21 #[false, false, false, false, false, false, false, false, false, false, false, false, false, false, false, false, false, false, false, false, false] (by kernel_rfl) (by kernel_rfl) (by kernel_rfl) (by kernel_rfl) (by kernel_rfl) (show FactsAt _ _ _ from trivial) ?_
         refine T_gp 0 (some 42) (.string e) #[true, false, false, false, false, false, false, false, false, false, false, false, false, false, false, false, false, false, false, false, false] [(0, .string e), (42, .string e)] ?_
         refine T_gp 1 (some 43) (vi (e.size : Int)) #[true, true, false, false, false, false, false, false, false, false, false, false, false, false, false, false, false, false, false, false, false] [(0, .string e), (43, vi (e.size : Int))] ?_
         refine T_gp 2 (some 44) (.bool (decide ((e.size : Int) > 32))) #[true, true, true, false, false, false, false, false, false, false, false, false, false, false, false, false, false, false, false, false, false] [(0, .string e), (44, .bool (decide ((e.size : Int) > 32)))] ?_
         refine T_gp 3 (some 45) (.bool (decide ((e.size : Int) > 32))) #[true, true, true, true, false, false, false, false, false, false, false, false, false, false, false, false, false, false, false, false, false] [(0, .string e), (45, .bool (decide ((e.size : Int) > 32)))] ?_
         refine G_env [(0, .string e), (45, .bool true)] (by simp only [b41, Bool.not_true, Bool.not_false]) ?_
         refine T_gp 4 (some 46) (.string e) #[true, true, true, true, true, false, false, false, false, false, false, false, false, false, false, false, false, false, false, false, false] [(0, .string e), (45, .bool true), (46, .string e)] ?_
         refine T_gp 6 (some 48) (.string e) #[true, true, true, true, true, false, true, false, false, false, false, false, false, false, false, false, false, false, false, false, false] [(0, .string e), (45, .bool true), (46, .string e), (48, .string e)] ?_
         refine T_g 7 (some 49) (.string (e.extract an ag)) #[true, true, true, true, true, false, true, true, false, false, false, false, false, false, false, false, false, false, false, false, false] [(0, .string e), (45, .bool true), (46, .string e), (49, .string (e.extract an ag))] (sliceN 9 (.string e) (some (vi 8)) none none) (fun _ w _ _ _ => sliceStr_run (P := Tryz.prog) (t := 9) (s := e) (some (vi 8)) none an ag Tryz.underlying9 (.inr ⟨.i64, by rw [q42]⟩) (.inl ⟨rfl, q43⟩) q44 q45 w) ?_
         refine T_gp 10 (some 52) (.string e) #[true, true, true, true, true, false, true, true, false, false, true, false, false, false, false, false, false, false, false, false, false] [(0, .string e), (45, .bool true), (46, .string e), (49, .string (e.extract an ag)), (52, .string e)] ?_
         refine T_g 11 (some 53) (.string (e.extract am ad)) #[true, true, true, true, true, false, true, true, false, false, true, true, false, false, false, false, false, false, false, false, false] [(0, .string e), (45, .bool true), (46, .string e), (49, .string (e.extract an ag)), (53, .string (e.extract am ad))] (sliceN 9 (.string e) (some (vi 16)) none none) (fun _ w _ _ _ => sliceStr_run (P := Tryz.prog) (t := 9) (s := e) (some (vi 16)) none am ad Tryz.underlying9 (.inr ⟨.i64, by rw [q47]⟩) (.inl ⟨rfl, q48⟩) q49 q50 w) ?_
         refine T_gp 13 (some 55) (.string e) #[true, true, true, true, true, false, true, true, false, false, true, true, false, true, false, false, false, false, false, false, false] [(0, .string e), (45, .bool true), (46, .string e), (49, .string (e.extract an ag)), (53, .string (e.extract am ad)), (55, .string e)] ?_
         refine T_g 14 (some 56) (.string (e.extract ar ao)) #[true, true, true, true, true, false, true, true, false, false, true, true, false, true, true, false, false, false, false, false, false] [(0, .string e), (45, .bool true), (46, .string e), (49, .string (e.extract an ag)), (53, .string (e.extract am ad)), (56, .string (e.extract ar ao))] (sliceN 9 (.string e) (some (vi 24)) none none) (fun _ w _ _ _ => sliceStr_run (P := Tryz.prog) (t := 9) (s := e) (some (vi 24)) none ar ao Tryz.underlying9 (.inr ⟨.i64, by rw [q52]⟩) (.inl ⟨rfl, q53⟩) q54 q55 w) ?_
         refine G_call 5 (some 47) #[true, true, true, true, true, true, true, true, false, false, true, true, false, true, true, false, false, false, false, false, false] 137 #[.string e] (by kernel_rfl) (fun _=>by kernel_rfl) h (by kernel_rfl) ?_; clear h
         rintro v H6 ⟨x, rfl, h⟩
         refine ⟨[(0, .string e), (45, .bool true), (47, vu x), (49, .string (e.extract an ag)), (53, .string (e.extract am ad)), (56, .string (e.extract ar ao))], pk, (show FactsAt _ _ _ from trivial), ?_⟩
         refine G_call 8 (some 50) #[true, true, true, true, true, true, true, true, true, false, true, true, false, true, true, false, false, false, false, false, false] 137 #[.string (e.extract an ag)] (by kernel_rfl) (fun _=>by kernel_rfl) h (by kernel_rfl) ?_; clear h
         rintro bq H7 ⟨m, rfl, h⟩
         refine ⟨[(0, .string e), (45, .bool true), (47, vu x), (50, vu m), (53, .string (e.extract am ad)), (56, .string (e.extract ar ao))], pk, (show FactsAt _ _ _ from trivial), ?_⟩
         refine T_g 9 (some 51) (vu (ior .u64 x m)) #[true, true, true, true, true, true, true, true, true, true, true, true, false, true, true, false, false, false, false, false, false] [(0, .string e), (45, .bool true), (51, vu (ior .u64 x m)), (53, .string (e.extract am ad)), (56, .string (e.extract ar ao))] (pure (.value (vu (ior .u64 x m))) : Sem Next) (fun _ _ _ _ _ => rfl) ?_
         refine G_call 12 (some 54) #[true, true, true, true, true, true, true, true, true, true, true, true, true, true, true, false, false, false, false, false, false] 137 #[.string (e.extract am ad)] (by kernel_rfl) (fun _=>by kernel_rfl) h (by kernel_rfl) ?_; clear h
         rintro bk H8 ⟨o, rfl, h⟩
         refine ⟨[(0, .string e), (45, .bool true), (51, vu (ior .u64 x m)), (54, vu o), (56, .string (e.extract ar ao))], pk, (show FactsAt _ _ _ from trivial), ?_⟩
         refine G_call 15 (some 57) #[true, true, true, true, true, true, true, true, true, true, true, true, true, true, true, true, false, false, false, false, false] 137 #[.string (e.extract ar ao)] (by kernel_rfl) (fun _=>by kernel_rfl) h (by kernel_rfl) ?_; clear h
         rintro bj H9 ⟨p, rfl, h⟩
         refine ⟨[(0, .string e), (45, .bool true), (51, vu (ior .u64 x m)), (54, vu o), (57, vu p)], pk, (show FactsAt _ _ _ from trivial), ?_⟩
         refine T_g 16 (some 58) (vu (ior .u64 o p)) #[true, true, true, true, true, true, true, true, true, true, true, true, true, true, true, true, true, false, false, false, false] [(0, .string e), (45, .bool true), (51, vu (ior .u64 x m)), (58, vu (ior .u64 o p))] (pure (.value (vu (ior .u64 o p))) : Sem Next) (fun _ _ _ _ _ => rfl) ?_
         refine T_g 17 (some 59) (vu (ior .u64 (ior .u64 x m) (ior .u64 o p))) #[true, true, true, true, true, true, true, true, true, true, true, true, true, true, true, true, true, true, false, false, false] [(0, .string e), (45, .bool true), (59, vu (ior .u64 (ior .u64 x m) (ior .u64 o p)))] (pure (.value (vu (ior .u64 (ior .u64 x m) (ior .u64 o p)))) : Sem Next) (fun _ _ _ _ _ => rfl) ?_
         refine T_g 18 (some 60) (vu (iand .u64 (ior .u64 (ior .u64 x m) (ior .u64 o p)) 9259542123273814144)) #[true, true, true, true, true, true, true, true, true, true, true, true, true, true, true, true, true, true, true, false, false] [(0, .string e), (45, .bool true), (60, vu (iand .u64 (ior .u64 (ior .u64 x m) (ior .u64 o p)) 9259542123273814144))] (pure (.value (vu (iand .u64 (ior .u64 (ior .u64 x m) (ior .u64 o p)) 9259542123273814144))) : Sem Next) (fun _ _ _ _ _ => rfl) ?_
         refine T_g 19 (some 61) (.bool ((iand .u64 (ior .u64 (ior .u64 x m) (ior .u64 o p)) 9259542123273814144) == 0)) #[true, true, true, true, true, true, true, true, true, true, true, true, true, true, true, true, true, true, true, true, false] [(0, .string e), (45, .bool true), (61, .bool ((iand .u64 (ior .u64 (ior .u64 x m) (ior .u64 o p)) 9259542123273814144) == 0))] (pure (.value (.bool ((iand .u64 (ior .u64 (ior .u64 x m) (ior .u64 o p)) 9259542123273814144) == 0))) : Sem Next) (fun _ _ _ _ _ => rfl) ?_
         refine T_g 20 (some 62) (.bool ((iand .u64 (ior .u64 (ior .u64 x m) (ior .u64 o p)) 9259542123273814144) == 0)) #[true, true, true, true, true, true, true, true, true, true, true, true, true, true, true, true, true, true, true, true, true] [(0, .string e), (62, .bool ((iand .u64 (ior .u64 (ior .u64 x m) (ior .u64 o p)) 9259542123273814144) == 0))] (pure (.value (.bool ((iand .u64 (ior .u64 (ior .u64 x m) (ior .u64 o p)) 9259542123273814144) == 0))) : Sem Next) (fun _ _ _ _ _ => rfl) ?_
         refine G_sub [(0, .string e), (62, .bool ((iand .u64 (ior .u64 (ior .u64 x m) (ior .u64 o p)) 9259542123273814144) == 0))] sk ?_
         refine G_end (by kernel_rfl) ?_
         refine S_then ?_
         by_cases c57 : (iand .u64 (ior .u64 (ior .u64 x m) (ior .u64 o p)) 9259542123273814144) = 0
         ·rw [if_pos c57] at h
          have b58 : ((iand .u64 (ior .u64 (ior .u64 x m) (ior .u64 o p)) 9259542123273814144) == 0) = true := beq_iff_eq.mpr c57
          refine T_cT 62 kk44 kk45 b58 ?_
          refine T_kt ?_
          refine T_b 3 kk46 ?_
          refine T_r 10 kk46 ?_
          refine T_n 1 [(63, .string e)] ?_
          obtain ⟨a2, ax, q59, q60, q61, q62, h⟩ := h
          refine T_v (some 64) (sliceN 9 (.string e) (some (vi 32)) none none) (.string (e.extract a2 ax)) (fun w _ => sliceStr_run (P := Tryz.prog) (t := 9) (s := e) (some (vi 32)) none a2 ax Tryz.underlying9 (.inr ⟨.i64, by rw [q59]⟩) (.inl ⟨rfl, q60⟩) q61 q62 w) [(64, .string (e.extract a2 ax))] ?_
          refine T_n 1 [(0, .string (e.extract a2 ax))] ?_
          refine N_end (by kernel_rfl) ?_
          refine S_blockEnd ?_
          refine S_then ?_
          exact S_round ((e.extract a2 ax) : ByteArray) sk h
         ·rw [if_neg c57] at h
          have b58 : ((iand .u64 (ior .u64 (ior .u64 x m) (ior .u64 o p)) 9259542123273814144) == 0) = false := beq_eq_false_iff_ne.mpr c57
          refine S_env [(0, .string e), (62, .bool false)] (by simp only [b58, Bool.not_true, Bool.not_false]) ?_
          clear b58
          refine T_f 62 kk44 kk45 ?_
          refine S_exit 2 (by kernel_rfl) ?_
          refine S_exitThen ?_
          refine S_exitThen ?_
          refine S_exitHere ?_
          refine S_then ?_
          exact S_meet (e : ByteArray) sk h
        ·rw [if_neg c40] at h
         have b41 : (decide ((e.size : Int) > 32)) = false := decide_eq_false c40
         refine S_regionG 9 (Code.ops kk42) [] 21 #[false, false, false, false, false, false, false, false, false, false, false, false, false, false, false, false, false, false, false, false, false] (by kernel_rfl) (by kernel_rfl) (by kernel_rfl) (by kernel_rfl) (by kernel_rfl) (show FactsAt _ _ _ from trivial) ?_
         refine T_gp 0 (some 42) (.string e) #[true, false, false, false, false, false, false, false, false, false, false, false, false, false, false, false, false, false, false, false, false] [(0, .string e), (42, .string e)] ?_
         refine T_gp 1 (some 43) (vi (e.size : Int)) #[true, true, false, false, false, false, false, false, false, false, false, false, false, false, false, false, false, false, false, false, false] [(0, .string e), (43, vi (e.size : Int))] ?_
         refine T_gp 2 (some 44) (.bool (decide ((e.size : Int) > 32))) #[true, true, true, false, false, false, false, false, false, false, false, false, false, false, false, false, false, false, false, false, false] [(0, .string e), (44, .bool (decide ((e.size : Int) > 32)))] ?_
         refine T_gp 3 (some 45) (.bool (decide ((e.size : Int) > 32))) #[true, true, true, true, false, false, false, false, false, false, false, false, false, false, false, false, false, false, false, false, false] [(0, .string e), (45, .bool (decide ((e.size : Int) > 32)))] ?_
         refine G_env [(0, .string e), (45, .bool false)] (by simp only [b41, Bool.not_true, Bool.not_false]) ?_
         refine G_pass 4 (some 46) #[true, true, true, true, true, false, false, false, false, false, false, false, false, false, false, false, false, false, false, false, false] [(0, .string e), (45, .bool false), (46, undef)] (by kernel_rfl) (by kernel_rfl) (by kernel_rfl) (by kernel_rfl) (by kernel_rfl) (by kernel_rfl) (by kernel_rfl) pk ?_
         refine G_pass 5 (some 47) #[true, true, true, true, true, true, false, false, false, false, false, false, false, false, false, false, false, false, false, false, false] [(0, .string e), (45, .bool false), (47, undef)] (by kernel_rfl) (by kernel_rfl) (by kernel_rfl) (by kernel_rfl) (by kernel_rfl) (by kernel_rfl) (by kernel_rfl) pk ?_
         refine G_pass 6 (some 48) #[true, true, true, true, true, true, true, false, false, false, false, false, false, false, false, false, false, false, false, false, false] [(0, .string e), (45, .bool false), (47, undef), (48, undef)] (by kernel_rfl) (by kernel_rfl) (by kernel_rfl) (by kernel_rfl) (by kernel_rfl) (by kernel_rfl) (by kernel_rfl) pk ?_
         refine G_pass 7 (some 49) #[true, true, true, true, true, true, true, true, false, false, false, false, false, false, false, false, false, false, false, false, false] [(0, .string e), (45, .bool false), (47, undef), (49, undef)] (by kernel_rfl) (by kernel_rfl) (by kernel_rfl) (by kernel_rfl) (by kernel_rfl) (by kernel_rfl) (by kernel_rfl) pk ?_
         refine G_pass 8 (some 50) #[true, true, true, true, true, true, true, true, true, false, false, false, false, false, false, false, false, false, false, false, false] [(0, .string e), (45, .bool false), (47, undef), (50, undef)] (by kernel_rfl) (by kernel_rfl) (by kernel_rfl) (by kernel_rfl) (by kernel_rfl) (by kernel_rfl) (by kernel_rfl) pk ?_
         refine G_pass 9 (some 51) #[true, true, true, true, true, true, true, true, true, true, false, false, false, false, false, false, false, false, false, false, false] [(0, .string e), (45, .bool false), (51, undef)] (by kernel_rfl) (by kernel_rfl) (by kernel_rfl) (by kernel_rfl) (by kernel_rfl) (by kernel_rfl) (by kernel_rfl) pk ?_
         refine G_pass 10 (some 52) #[true, true, true, true, true, true, true, true, true, true, true, false, false, false, false, false, false, false, false, false, false] [(0, .string e), (45, .bool false), (51, undef), (52, undef)] (by kernel_rfl) (by kernel_rfl) (by kernel_rfl) (by kernel_rfl) (by kernel_rfl) (by kernel_rfl) (by kernel_rfl) pk ?_
         refine G_pass 11 (some 53) #[true, true, true, true, true, true, true, true, true, true, true, true, false, false, false, false, false, false, false, false, false] [(0, .string e), (45, .bool false), (51, undef), (53, undef)] (by kernel_rfl) (by kernel_rfl) (by kernel_rfl) (by kernel_rfl) (by kernel_rfl) (by kernel_rfl) (by kernel_rfl) pk ?_
         refine G_pass 12 (some 54) #[true, true, true, true, true, true, true, true, true, true, true, true, true, false, false, false, false, false, false, false, false] [(0, .string e), (45, .bool false), (51, undef), (54, undef)] (by kernel_rfl) (by kernel_rfl) (by kernel_rfl) (by kernel_rfl) (by kernel_rfl) (by kernel_rfl) (by kernel_rfl) pk ?_
         refine G_pass 13 (some 55) #[true, true, true, true, true, true, true, true, true, true, true, true, true, true, false, false, false, false, false, false, false] [(0, .string e), (45, .bool false), (51, undef), (54, undef), (55, undef)] (by kernel_rfl) (by kernel_rfl) (by kernel_rfl) (by kernel_rfl) (by kernel_rfl) (by kernel_rfl) (by kernel_rfl) pk ?_
         refine G_pass 14 (some 56) #[true, true, true, true, true, true, true, true, true, true, true, true, true, true, true, false, false, false, false, false, false] [(0, .string e), (45, .bool false), (51, undef), (54, undef), (56, undef)] (by kernel_rfl) (by kernel_rfl) (by kernel_rfl) (by kernel_rfl) (by kernel_rfl) (by kernel_rfl) (by kernel_rfl) pk ?_
         refine G_pass 15 (some 57) #[true, true, true, true, true, true, true, true, true, true, true, true, true, true, true, true, false, false, false, false, false] [(0, .string e), (45, .bool false), (51, undef), (54, undef), (57, undef)] (by kernel_rfl) (by kernel_rfl) (by kernel_rfl) (by kernel_rfl) (by kernel_rfl) (by kernel_rfl) (by kernel_rfl) pk ?_
         refine G_pass 16 (some 58) #[true, true, true, true, true, true, true, true, true, true, true, true, true, true, true, true, true, false, false, false, false] [(0, .string e), (45, .bool false), (51, undef), (58, undef)] (by kernel_rfl) (by kernel_rfl) (by kernel_rfl) (by kernel_rfl) (by kernel_rfl) (by kernel_rfl) (by kernel_rfl) pk ?_
         refine G_pass 17 (some 59) #[true, true, true, true, true, true, true, true, true, true, true, true, true, true, true, true, true, true, false, false, false] [(0, .string e), (45, .bool false), (59, undef)] (by kernel_rfl) (by kernel_rfl) (by kernel_rfl) (by kernel_rfl) (by kernel_rfl) (by kernel_rfl) (by kernel_rfl) pk ?_
         refine G_pass 18 (some 60) #[true, true, true, true, true, true, true, true, true, true, true, true, true, true, true, true, true, true, true, false, false] [(0, .string e), (45, .bool false), (60, undef)] (by kernel_rfl) (by kernel_rfl) (by kernel_rfl) (by kernel_rfl) (by kernel_rfl) (by kernel_rfl) (by kernel_rfl) pk ?_
         refine G_pass 19 (some 61) #[true, true, true, true, true, true, true, true, true, true, true, true, true, true, true, true, true, true, true, true, false] [(0, .string e), (45, .bool false), (61, undef)] (by kernel_rfl) (by kernel_rfl) (by kernel_rfl) (by kernel_rfl) (by kernel_rfl) (by kernel_rfl) (by kernel_rfl) pk ?_
         refine T_gp 20 (some 62) (.bool false) #[true, true, true, true, true, true, true, true, true, true, true, true, true, true, true, true, true, true, true, true, true] [(0, .string e), (62, .bool false)] ?_
         refine G_sub [(0, .string e), (62, .bool false)] sk ?_
         refine G_end (by kernel_rfl) ?_
         refine S_then ?_
         refine T_f 62 kk44 kk45 ?_
         refine S_exit 2 (by kernel_rfl) ?_
         refine S_exitThen ?_
         refine S_exitThen ?_
         refine S_exitHere ?_
         refine S_then ?_
         exact S_meet (e : ByteArray) sk h
       ·rw [if_neg c30] at h
        have b31 : bb = false := eq_false_of_ne_true c30
        refine S_env [(0, .string ((d.extract lo hi).extract g f)), (39, .bool false)] (by simp only [b31, Bool.not_true, Bool.not_false]) ?_
        clear b31
        refine T_f 39 kk34 kk35 ?_
        refine T_kt ?_
        exact S_meet (((d.extract lo hi).extract g f) : ByteArray) sk h
      ·by_cases c64 : (((d.extract lo hi).extract g f).size : Int) > 16
       ·rw [if_pos c64] at h
        have b65 : (decide ((((d.extract lo hi).extract g f).size : Int) > 16)) = true := decide_eq_true c64
        obtain ⟨a7, a1, q66, q67, q68, q69, h⟩ := h
        refine S_regionG 7 (Code.ops kk32) [] 13 #[false, false, false, false, false, false, false, false, false, false, false, false, false] (by kernel_rfl) (by kernel_rfl) (by kernel_rfl) (by kernel_rfl) (by kernel_rfl) (show FactsAt _ _ _ from trivial) ?_
        refine T_gp 0 (some 27) (.string ((d.extract lo hi).extract g f)) #[true, false, false, false, false, false, false, false, false, false, false, false, false] [(0, .string ((d.extract lo hi).extract g f)), (27, .string ((d.extract lo hi).extract g f))] ?_
        refine T_gp 1 (some 28) (vi (((d.extract lo hi).extract g f).size : Int)) #[true, true, false, false, false, false, false, false, false, false, false, false, false] [(0, .string ((d.extract lo hi).extract g f)), (28, vi (((d.extract lo hi).extract g f).size : Int))] ?_
        refine T_gp 2 (some 29) (.bool (decide ((((d.extract lo hi).extract g f).size : Int) > 16))) #[true, true, true, false, false, false, false, false, false, false, false, false, false] [(0, .string ((d.extract lo hi).extract g f)), (29, .bool (decide ((((d.extract lo hi).extract g f).size : Int) > 16)))] ?_
        refine T_gp 3 (some 30) (.bool (decide ((((d.extract lo hi).extract g f).size : Int) > 16))) #[true, true, true, true, false, false, false, false, false, false, false, false, false] [(0, .string ((d.extract lo hi).extract g f)), (30, .bool (decide ((((d.extract lo hi).extract g f).size : Int) > 16)))] ?_
        refine G_env [(0, .string ((d.extract lo hi).extract g f)), (30, .bool true)] (by simp only [b65, Bool.not_true, Bool.not_false]) ?_
        refine T_gp 4 (some 31) (.string ((d.extract lo hi).extract g f)) #[true, true, true, true, true, false, false, false, false, false, false, false, false] [(0, .string ((d.extract lo hi).extract g f)), (30, .bool true), (31, .string ((d.extract lo hi).extract g f))] ?_
        refine T_gp 6 (some 33) (.string ((d.extract lo hi).extract g f)) #[true, true, true, true, true, false, true, false, false, false, false, false, false] [(0, .string ((d.extract lo hi).extract g f)), (30, .bool true), (31, .string ((d.extract lo hi).extract g f)), (33, .string ((d.extract lo hi).extract g f))] ?_
        refine T_g 7 (some 34) (.string (((d.extract lo hi).extract g f).extract a7 a1)) #[true, true, true, true, true, false, true, true, false, false, false, false, false] [(0, .string ((d.extract lo hi).extract g f)), (30, .bool true), (31, .string ((d.extract lo hi).extract g f)), (34, .string (((d.extract lo hi).extract g f).extract a7 a1))] (sliceN 9 (.string ((d.extract lo hi).extract g f)) (some (vi 8)) none none) (fun _ w _ _ _ => sliceStr_run (P := Tryz.prog) (t := 9) (s := ((d.extract lo hi).extract g f)) (some (vi 8)) none a7 a1 Tryz.underlying9 (.inr ⟨.i64, by rw [q66]⟩) (.inl ⟨rfl, q67⟩) q68 q69 w) ?_
        refine G_call 5 (some 32) #[true, true, true, true, true, true, true, true, false, false, false, false, false] 137 #[.string ((d.extract lo hi).extract g f)] (by kernel_rfl) (fun _=>by kernel_rfl) h (by kernel_rfl) ?_; clear h
        rintro bl bi ⟨ah, rfl, h⟩
        refine ⟨[(0, .string ((d.extract lo hi).extract g f)), (30, .bool true), (32, vu ah), (34, .string (((d.extract lo hi).extract g f).extract a7 a1))], pk, (show FactsAt _ _ _ from trivial), ?_⟩
        refine G_call 8 (some 35) #[true, true, true, true, true, true, true, true, true, false, false, false, false] 137 #[.string (((d.extract lo hi).extract g f).extract a7 a1)] (by kernel_rfl) (fun _=>by kernel_rfl) h (by kernel_rfl) ?_; clear h
        rintro bn bp ⟨ak, rfl, h⟩
        refine ⟨[(0, .string ((d.extract lo hi).extract g f)), (30, .bool true), (32, vu ah), (35, vu ak)], pk, (show FactsAt _ _ _ from trivial), ?_⟩
        refine T_g 9 (some 36) (vu (ior .u64 ah ak)) #[true, true, true, true, true, true, true, true, true, true, false, false, false] [(0, .string ((d.extract lo hi).extract g f)), (30, .bool true), (36, vu (ior .u64 ah ak))] (pure (.value (vu (ior .u64 ah ak))) : Sem Next) (fun _ _ _ _ _ => rfl) ?_
        refine T_g 10 (some 37) (vu (iand .u64 (ior .u64 ah ak) 9259542123273814144)) #[true, true, true, true, true, true, true, true, true, true, true, false, false] [(0, .string ((d.extract lo hi).extract g f)), (30, .bool true), (37, vu (iand .u64 (ior .u64 ah ak) 9259542123273814144))] (pure (.value (vu (iand .u64 (ior .u64 ah ak) 9259542123273814144))) : Sem Next) (fun _ _ _ _ _ => rfl) ?_
        refine T_g 11 (some 38) (.bool ((iand .u64 (ior .u64 ah ak) 9259542123273814144) == 0)) #[true, true, true, true, true, true, true, true, true, true, true, true, false] [(0, .string ((d.extract lo hi).extract g f)), (30, .bool true), (38, .bool ((iand .u64 (ior .u64 ah ak) 9259542123273814144) == 0))] (pure (.value (.bool ((iand .u64 (ior .u64 ah ak) 9259542123273814144) == 0))) : Sem Next) (fun _ _ _ _ _ => rfl) ?_
        refine T_g 12 (some 39) (.bool ((iand .u64 (ior .u64 ah ak) 9259542123273814144) == 0)) #[true, true, true, true, true, true, true, true, true, true, true, true, true] [(0, .string ((d.extract lo hi).extract g f)), (39, .bool ((iand .u64 (ior .u64 ah ak) 9259542123273814144) == 0))] (pure (.value (.bool ((iand .u64 (ior .u64 ah ak) 9259542123273814144) == 0))) : Sem Next) (fun _ _ _ _ _ => rfl) ?_
        refine G_sub [(0, .string ((d.extract lo hi).extract g f)), (39, .bool ((iand .u64 (ior .u64 ah ak) 9259542123273814144) == 0))] sk ?_
        refine G_end (by kernel_rfl) ?_
        refine S_then ?_
        exact S_meet (((iand .u64 (ior .u64 ah ak) 9259542123273814144) == 0) : Bool) sk h
       ·rw [if_neg c64] at h
        have b65 : (decide ((((d.extract lo hi).extract g f).size : Int) > 16)) = false := decide_eq_false c64
        refine S_regionG 7 (Code.ops kk32) [] 13 #[false, false, false, false, false, false, false, false, false, false, false, false, false] (by kernel_rfl) (by kernel_rfl) (by kernel_rfl) (by kernel_rfl) (by kernel_rfl) (show FactsAt _ _ _ from trivial) ?_
        refine T_gp 0 (some 27) (.string ((d.extract lo hi).extract g f)) #[true, false, false, false, false, false, false, false, false, false, false, false, false] [(0, .string ((d.extract lo hi).extract g f)), (27, .string ((d.extract lo hi).extract g f))] ?_
        refine T_gp 1 (some 28) (vi (((d.extract lo hi).extract g f).size : Int)) #[true, true, false, false, false, false, false, false, false, false, false, false, false] [(0, .string ((d.extract lo hi).extract g f)), (28, vi (((d.extract lo hi).extract g f).size : Int))] ?_
        refine T_gp 2 (some 29) (.bool (decide ((((d.extract lo hi).extract g f).size : Int) > 16))) #[true, true, true, false, false, false, false, false, false, false, false, false, false] [(0, .string ((d.extract lo hi).extract g f)), (29, .bool (decide ((((d.extract lo hi).extract g f).size : Int) > 16)))] ?_
        refine T_gp 3 (some 30) (.bool (decide ((((d.extract lo hi).extract g f).size : Int) > 16))) #[true, true, true, true, false, false, false, false, false, false, false, false, false] [(0, .string ((d.extract lo hi).extract g f)), (30, .bool (decide ((((d.extract lo hi).extract g f).size : Int) > 16)))] ?_
        refine G_env [(0, .string ((d.extract lo hi).extract g f)), (30, .bool false)] (by simp only [b65, Bool.not_true, Bool.not_false]) ?_
        refine G_pass 4 (some 31) #[true, true, true, true, true, false, false, false, false, false, false, false, false] [(0, .string ((d.extract lo hi).extract g f)), (30, .bool false), (31, undef)] (by kernel_rfl) (by kernel_rfl) (by kernel_rfl) (by kernel_rfl) (by kernel_rfl) (by kernel_rfl) (by kernel_rfl) pk ?_
        refine G_pass 5 (some 32) #[true, true, true, true, true, true, false, false, false, false, false, false, false] [(0, .string ((d.extract lo hi).extract g f)), (30, .bool false), (32, undef)] (by kernel_rfl) (by kernel_rfl) (by kernel_rfl) (by kernel_rfl) (by kernel_rfl) (by kernel_rfl) (by kernel_rfl) pk ?_
        refine G_pass 6 (some 33) #[true, true, true, true, true, true, true, false, false, false, false, false, false] [(0, .string ((d.extract lo hi).extract g f)), (30, .bool false), (32, undef), (33, undef)] (by kernel_rfl) (by kernel_rfl) (by kernel_rfl) (by kernel_rfl) (by kernel_rfl) (by kernel_rfl) (by kernel_rfl) pk ?_
        refine G_pass 7 (some 34) #[true, true, true, true, true, true, true, true, false, false, false, false, false] [(0, .string ((d.extract lo hi).extract g f)), (30, .bool false), (32, undef), (34, undef)] (by kernel_rfl) (by kernel_rfl) (by kernel_rfl) (by kernel_rfl) (by kernel_rfl) (by kernel_rfl) (by kernel_rfl) pk ?_
        refine G_pass 8 (some 35) #[true, true, true, true, true, true, true, true, true, false, false, false, false] [(0, .string ((d.extract lo hi).extract g f)), (30, .bool false), (32, undef), (35, undef)] (by kernel_rfl) (by kernel_rfl) (by kernel_rfl) (by kernel_rfl) (by kernel_rfl) (by kernel_rfl) (by kernel_rfl) pk ?_
        refine G_pass 9 (some 36) #[true, true, true, true, true, true, true, true, true, true, false, false, false] [(0, .string ((d.extract lo hi).extract g f)), (30, .bool false), (36, undef)] (by kernel_rfl) (by kernel_rfl) (by kernel_rfl) (by kernel_rfl) (by kernel_rfl) (by kernel_rfl) (by kernel_rfl) pk ?_
        refine G_pass 10 (some 37) #[true, true, true, true, true, true, true, true, true, true, true, false, false] [(0, .string ((d.extract lo hi).extract g f)), (30, .bool false), (37, undef)] (by kernel_rfl) (by kernel_rfl) (by kernel_rfl) (by kernel_rfl) (by kernel_rfl) (by kernel_rfl) (by kernel_rfl) pk ?_
        refine G_pass 11 (some 38) #[true, true, true, true, true, true, true, true, true, true, true, true, false] [(0, .string ((d.extract lo hi).extract g f)), (30, .bool false), (38, undef)] (by kernel_rfl) (by kernel_rfl) (by kernel_rfl) (by kernel_rfl) (by kernel_rfl) (by kernel_rfl) (by kernel_rfl) pk ?_
        refine T_gp 12 (some 39) (.bool false) #[true, true, true, true, true, true, true, true, true, true, true, true, true] [(0, .string ((d.extract lo hi).extract g f)), (39, .bool false)] ?_
        refine G_sub [(0, .string ((d.extract lo hi).extract g f)), (39, .bool false)] sk ?_
        refine G_end (by kernel_rfl) ?_
        refine S_then ?_
        exact S_meet (false : Bool) sk h
     ·rw [if_neg c20] at h
      have b21 : bc = false := eq_false_of_ne_true c20
      refine S_env [(0, .string (d.extract lo hi)), (24, .bool false)] (by simp only [b21, Bool.not_true, Bool.not_false]) ?_
      clear b21
      refine T_f 24 kk28 kk29 ?_
      refine T_kt ?_
      exact S_meet ((d.extract lo hi) : ByteArray) sk h
   ·refine T_r 5 kk26 ?_
    refine T_n 4 [(0, .string (d.extract lo hi)), (19, .bool (decide (((d.extract lo hi).size : Int) > 8)))] ?_
    by_cases c71 : ((d.extract lo hi).size : Int) > 8
    ·rw [if_pos c71] at h
     have b72 : (decide (((d.extract lo hi).size : Int) > 8)) = true := decide_eq_true c71
     refine N_env [(0, .string (d.extract lo hi)), (19, .bool true)] (by simp only [b72, Bool.not_true, Bool.not_false]) ?_
     clear b72
     refine T_n 1 [(0, .string (d.extract lo hi)), (19, .bool true), (20, .string (d.extract lo hi))] ?_
     refine N_call (some 21) 137 #[.string (d.extract lo hi)] (fun _=>by kernel_rfl) h ?_; clear h
     rintro bm bo ⟨bf, rfl, h⟩
     refine ⟨[(0, .string (d.extract lo hi)), (19, .bool true), (21, vu bf)], pk, ?_⟩
     refine T_ne 3 [(0, .string (d.extract lo hi)), (24, .bool ((iand .u64 bf 9259542123273814144) == 0))] ?_
     exact S_meet (((iand .u64 bf 9259542123273814144) == 0) : Bool) sk h
    ·rw [if_neg c71] at h
     have b72 : (decide (((d.extract lo hi).size : Int) > 8)) = false := decide_eq_false c71
     refine N_env [(0, .string (d.extract lo hi)), (19, .bool false)] (by simp only [b72, Bool.not_true, Bool.not_false]) ?_
     clear b72
     refine T_ne 5 [(0, .string (d.extract lo hi)), (24, .bool false)] ?_
     exact S_meet (false : Bool) sk h
  ·rw [if_neg c7] at h
   have b8 : (decide (((c.toNat : Nat) : Int) < 128)) = false := decide_eq_false c7
   refine S_env [(0, .string d), (3, .int .u8 ((c.toNat : Nat) : Int)), (13, .bool false)] (by simp only [b8, Bool.not_true, Bool.not_false]) ?_
   clear b8
   refine T_f 13 kk20 kk21 ?_
   refine T_kt ?_
   refine T_sr 11 kk47 kk48 ?_
   refine T_n 1 [(0, .string d), (65, .int .u8 ((c.toNat : Nat) : Int))] ?_
   obtain ⟨q73, h⟩ := h
   refine T_v (some 66) (indexAtN 218 (vp (pa 0)) (.int .u8 ((c.toNat : Nat) : Int))) (vp (some ((Addr.mk 0 0 none).add (Int.toNat ((c.toNat : Nat) : Int) * 1)))) (fun w _ => indexArr_run (P := Tryz.prog) (t := 218) (elem := 5) (sz := 1) (n := 256) (a := (Addr.mk 0 0 none)) (k := .u8) (i := ((c.toNat : Nat) : Int)) Tryz.underlying218 (fun _=>by kernel_rfl) q73.1 q73.2 w) [(0, .string d), (66, vp (some ((Addr.mk 0 0 none).add (Int.toNat ((c.toNat : Nat) : Int) * 1))))] ?_
   obtain ⟨j, q74, h⟩ := h
   refine T_l (some 67) 5 q74 [(0, .string d), (67, .int .u8 j)] ?_
   refine T_ne 1 [(0, .string d), (4, .int .u8 j)] ?_
   refine T_sr 12 kk49 kk50 ?_
   refine T_ne 4 [(0, .string d), (4, .int .u8 j), (5, vi (IntKind.wrap .i64 (iand .u8 j 7)))] ?_
   refine T_sr 13 kk51 kk52 ?_
   refine T_n 2 [(0, .string d), (5, vi (IntKind.wrap .i64 (iand .u8 j 7))), (72, .int .u8 (ishr .u8 j 4))] ?_
   obtain ⟨q75, h⟩ := h
   refine T_v (some 73) (indexAtN 221 (vp (pa 1)) (.int .u8 (ishr .u8 j 4))) (vp (some ((Addr.mk 1 0 none).add (Int.toNat (ishr .u8 j 4) * 2)))) (fun w _ => indexArr_run (P := Tryz.prog) (t := 221) (elem := 220) (sz := 2) (n := 16) (a := (Addr.mk 1 0 none)) (k := .u8) (i := (ishr .u8 j 4)) Tryz.underlying221 (fun _=>by kernel_rfl) q75.1 q75.2 w) [(0, .string d), (5, vi (IntKind.wrap .i64 (iand .u8 j 7))), (73, vp (some ((Addr.mk 1 0 none).add (Int.toNat (ishr .u8 j 4) * 2))))] ?_
   obtain ⟨a9, ba, q76, h⟩ := h
   refine T_v (some 74) (loadN 220 (vp (some ((Addr.mk 1 0 none).add (Int.toNat (ishr .u8 j 4) * 2))))) (.agg #[.int .u8 a9, .int .u8 ba]) (loadN_run (loadOK_row (fun _=>by kernel_rfl) (fun _=>by kernel_rfl) q76)) [(0, .string d), (5, vi (IntKind.wrap .i64 (iand .u8 j 7))), (74, .agg #[.int .u8 a9, .int .u8 ba])] ?_
   refine N_new (some 6) (fun b => vp (pa b)) (.cells #[.int .u8 0, .int .u8 0] 220) (fun _=>by kernel_rfl) ?_
   intro b H13 e77 e78
   replace h := h b H13 e77 e78
   refine ⟨[(0, .string d), (5, vi (IntKind.wrap .i64 (iand .u8 j 7))), (6, vp (pa b)), (74, .agg #[.int .u8 a9, .int .u8 ba])], pk, ?_⟩
   obtain ⟨q80, h⟩ := h
   refine N_skipop none (storeN 220 (vp (pa b)) (.agg #[.int .u8 a9, .int .u8 ba])) (fun Hz => Hz = hputs H13 (Addr.mk b 0 none) [.int .u8 a9, .int .u8 ba] 0) (fun _=>by kernel_rfl) (ss_store [.int .u8 a9, .int .u8 ba] 2 (by kernel_rfl) (by kernel_rfl) (fun _=>by kernel_rfl) (by kernel_rfl) q80) ?_
   intro l e79
   replace h := h l e79
   refine ⟨[(0, .string d), (5, vi (IntKind.wrap .i64 (iand .u8 j 7))), (6, vp (pa b))], pk, ?_⟩
   refine T_e ?_
   refine T_sr 14 kk53 kk54 ?_
   refine T_ne 1 [(0, .string d), (6, vp (pa b)), (75, vi (IntKind.wrap .i64 (iand .u8 j 7)))] ?_
   refine T_b 4 kk55 ?_
   refine T_sr 16 kk56 kk57 ?_
   refine T_ne 2 [(0, .string d), (6, vp (pa b)), (75, vi (IntKind.wrap .i64 (iand .u8 j 7))), (76, .bool ((IntKind.wrap .i64 (iand .u8 j 7)) == 2))] ?_
   by_cases c81 : (IntKind.wrap .i64 (iand .u8 j 7)) = 2
   ·rw [if_pos c81] at h
    have b82 : ((IntKind.wrap .i64 (iand .u8 j 7)) == 2) = true := beq_iff_eq.mpr c81
    refine S_env [(0, .string d), (6, vp (pa b)), (75, vi (IntKind.wrap .i64 (iand .u8 j 7))), (76, .bool true)] (by simp only [b82, Bool.not_true, Bool.not_false]) ?_
    clear b82
    refine T_t 76 kk58 kk59 ?_
    refine T_s kk60 kk61 ?_
    refine T_s kk62 kk63 ?_
    refine T_rq 17 kk62 ?_
    refine T_q (some 78) (.string d) [(0, .string d), (6, vp (pa b)), (78, .string d)] ?_
    refine T_q (some 79) (vi (d.size : Int)) [(0, .string d), (6, vp (pa b)), (79, vi (d.size : Int))] ?_
    refine T_q (some 80) (.bool (decide ((d.size : Int) < 2))) [(0, .string d), (6, vp (pa b)), (80, .bool (decide ((d.size : Int) < 2)))] ?_
    refine T_q (some 81) (.bool (decide ((d.size : Int) < 2))) [(0, .string d), (6, vp (pa b)), (81, .bool (decide ((d.size : Int) < 2)))] ?_
    by_cases c83 : (d.size : Int) < 2
    ·rw [if_pos c83] at h
     have b84 : (decide ((d.size : Int) < 2)) = true := decide_eq_true c83
     refine Q_env [(0, .string d), (6, vp (pa b)), (81, .bool true)] (by simp only [b84, Bool.not_true, Bool.not_false]) ?_
     clear b84
     refine T_q (some 82) (undef) [(0, .string d), (6, vp (pa b)), (81, .bool true), (82, undef)] ?_
     refine T_q (some 83) (undef) [(0, .string d), (6, vp (pa b)), (81, .bool true), (83, undef)] ?_
     refine T_q (some 84) (undef) [(0, .string d), (6, vp (pa b)), (81, .bool true), (83, undef), (84, undef)] ?_
     refine T_q (some 85) (undef) [(0, .string d), (6, vp (pa b)), (81, .bool true), (83, undef), (85, undef)] ?_
     refine T_q (some 86) (undef) [(0, .string d), (6, vp (pa b)), (81, .bool true), (86, undef)] ?_
     refine T_q (some 87) (.bool true) [(0, .string d), (6, vp (pa b)), (87, .bool true)] ?_
     refine T_q (some 88) (.bool true) [(0, .string d), (6, vp (pa b)), (88, .bool true)] ?_
     refine T_q (some 89) (undef) [(0, .string d), (88, .bool true), (89, undef)] ?_
     refine T_q (some 90) (undef) [(0, .string d), (88, .bool true), (90, undef)] ?_
     refine T_q (some 91) (undef) [(0, .string d), (88, .bool true), (90, undef), (91, undef)] ?_
     refine T_q (some 92) (undef) [(0, .string d), (88, .bool true), (90, undef), (92, undef)] ?_
     refine T_q (some 93) (undef) [(0, .string d), (88, .bool true), (93, undef)] ?_
     refine T_q (some 94) (.bool true) [(0, .string d), (94, .bool true)] ?_
     refine Q_sub [(0, .string d), (94, .bool true)] sk ?_
     refine T_qe ?_
     refine T_t 94 kk64 kk65 ?_
     refine T_sr 18 kk66 kk67 ?_
     refine T_ne 1 [(2, .bool false)] ?_
     refine S_ret (by kernel_rfl) ?_
     show At _ _ _ _ _ (Q .ret)
     exact S_done (fn := Tryz.f83) [.bool false] hQ (show ResOK _ _ _ [.tmp 2] _ from .tmp (by kernel_rfl) (.nil)) h
    ·rw [if_neg c83] at h
     have b84 : (decide ((d.size : Int) < 2)) = false := decide_eq_false c83
     refine Q_env [(0, .string d), (6, vp (pa b)), (81, .bool false)] (by simp only [b84, Bool.not_true, Bool.not_false]) ?_
     clear b84
     refine T_q (some 82) (.string d) [(0, .string d), (6, vp (pa b)), (81, .bool false), (82, .string d)] ?_
     obtain ⟨au, q85, h⟩ := h
     refine Q_op (some 83) (indexN 9 (.string d) (vi 1)) (.int .u8 ((au.toNat : Nat) : Int)) (fun _=>by kernel_rfl) (fun w _ => indexStr_run (P := Tryz.prog) (t := 9) (s := d) (k := .i64) (i := 1) Tryz.underlying9 q85.1 q85.2 w) [(0, .string d), (6, vp (pa b)), (81, .bool false), (83, .int .u8 ((au.toNat : Nat) : Int))] pk ?_
     refine T_q (some 84) (vp (pa b)) [(0, .string d), (6, vp (pa b)), (81, .bool false), (83, .int .u8 ((au.toNat : Nat) : Int)), (84, vp (pa b))] ?_
     obtain ⟨az, q86, h⟩ := h
     refine T_ql (some 85) 5 q86 [(0, .string d), (6, vp (pa b)), (81, .bool false), (83, .int .u8 ((au.toNat : Nat) : Int)), (85, .int .u8 az)] ?_
     refine T_q (some 86) (.bool (decide (((au.toNat : Nat) : Int) < az))) [(0, .string d), (6, vp (pa b)), (81, .bool false), (86, .bool (decide (((au.toNat : Nat) : Int) < az)))] ?_
     refine T_q (some 87) (.bool (decide (((au.toNat : Nat) : Int) < az))) [(0, .string d), (6, vp (pa b)), (87, .bool (decide (((au.toNat : Nat) : Int) < az)))] ?_
     refine T_q (some 88) (.bool (decide (((au.toNat : Nat) : Int) < az))) [(0, .string d), (6, vp (pa b)), (88, .bool (decide (((au.toNat : Nat) : Int) < az)))] ?_
     by_cases c87 : ((au.toNat : Nat) : Int) < az
     ·rw [if_pos c87] at h
      have b88 : (decide (((au.toNat : Nat) : Int) < az)) = true := decide_eq_true c87
      refine Q_env [(0, .string d), (6, vp (pa b)), (88, .bool true)] (by simp only [b88, Bool.not_true, Bool.not_false]) ?_
      clear b88
      refine T_q (some 89) (undef) [(0, .string d), (88, .bool true), (89, undef)] ?_
      refine T_q (some 90) (undef) [(0, .string d), (88, .bool true), (90, undef)] ?_
      refine T_q (some 91) (undef) [(0, .string d), (88, .bool true), (90, undef), (91, undef)] ?_
      refine T_q (some 92) (undef) [(0, .string d), (88, .bool true), (90, undef), (92, undef)] ?_
      refine T_q (some 93) (undef) [(0, .string d), (88, .bool true), (93, undef)] ?_
      refine T_q (some 94) (.bool true) [(0, .string d), (94, .bool true)] ?_
      refine Q_sub [(0, .string d), (94, .bool true)] sk ?_
      refine T_qe ?_
      refine T_t 94 kk64 kk65 ?_
      refine T_sr 18 kk66 kk67 ?_
      refine T_ne 1 [(2, .bool false)] ?_
      refine S_ret (by kernel_rfl) ?_
      show At _ _ _ _ _ (Q .ret)
      exact S_done (fn := Tryz.f83) [.bool false] hQ (show ResOK _ _ _ [.tmp 2] _ from .tmp (by kernel_rfl) (.nil)) h
     ·rw [if_neg c87] at h
      have b88 : (decide (((au.toNat : Nat) : Int) < az)) = false := decide_eq_false c87
      refine Q_env [(0, .string d), (6, vp (pa b)), (88, .bool false)] (by simp only [b88, Bool.not_true, Bool.not_false]) ?_
      clear b88
      refine T_q (some 89) (vp (some ((Addr.mk b 0 none).add 1))) [(0, .string d), (88, .bool false), (89, vp (some ((Addr.mk b 0 none).add 1)))] ?_
      obtain ⟨y, q89, h⟩ := h
      refine T_ql (some 90) 5 q89 [(0, .string d), (88, .bool false), (90, .int .u8 y)] ?_
      refine T_q (some 91) (.string d) [(0, .string d), (88, .bool false), (90, .int .u8 y), (91, .string d)] ?_
      obtain ⟨a5, q90, h⟩ := h
      refine Q_op (some 92) (indexN 9 (.string d) (vi 1)) (.int .u8 ((a5.toNat : Nat) : Int)) (fun _=>by kernel_rfl) (fun w _ => indexStr_run (P := Tryz.prog) (t := 9) (s := d) (k := .i64) (i := 1) Tryz.underlying9 q90.1 q90.2 w) [(0, .string d), (88, .bool false), (90, .int .u8 y), (92, .int .u8 ((a5.toNat : Nat) : Int))] pk ?_
      refine T_q (some 93) (.bool (decide (y < ((a5.toNat : Nat) : Int)))) [(0, .string d), (88, .bool false), (93, .bool (decide (y < ((a5.toNat : Nat) : Int))))] ?_
      refine T_q (some 94) (.bool (decide (y < ((a5.toNat : Nat) : Int)))) [(0, .string d), (94, .bool (decide (y < ((a5.toNat : Nat) : Int))))] ?_
      refine Q_sub [(0, .string d), (94, .bool (decide (y < ((a5.toNat : Nat) : Int))))] sk ?_
      refine T_qe ?_
      by_cases c91 : y < ((a5.toNat : Nat) : Int)
      ·rw [if_pos c91] at h
       have b92 : (decide (y < ((a5.toNat : Nat) : Int))) = true := decide_eq_true c91
       refine T_cT 94 kk64 kk65 b92 ?_
       refine T_sr 18 kk66 kk67 ?_
       refine T_ne 1 [(2, .bool false)] ?_
       refine S_ret (by kernel_rfl) ?_
       show At _ _ _ _ _ (Q .ret)
       exact S_done (fn := Tryz.f83) [.bool false] hQ (show ResOK _ _ _ [.tmp 2] _ from .tmp (by kernel_rfl) (.nil)) h
      ·rw [if_neg c91] at h
       have b92 : (decide (y < ((a5.toNat : Nat) : Int))) = false := decide_eq_false c91
       refine S_env [(0, .string d), (94, .bool false)] (by simp only [b92, Bool.not_true, Bool.not_false]) ?_
       clear b92
       refine T_f 94 kk64 kk65 ?_
       refine T_kt ?_
       refine T_r 19 kk61 ?_
       refine T_n 1 [(95, .string d)] ?_
       obtain ⟨a3, aw, q93, q94, q95, q96, h⟩ := h
       refine T_v (some 96) (sliceN 9 (.string d) (some (vi 2)) none none) (.string (d.extract a3 aw)) (fun w _ => sliceStr_run (P := Tryz.prog) (t := 9) (s := d) (some (vi 2)) none a3 aw Tryz.underlying9 (.inr ⟨.i64, by rw [q93]⟩) (.inl ⟨rfl, q94⟩) q95 q96 w) [(96, .string (d.extract a3 aw))] ?_
       refine T_n 1 [(0, .string (d.extract a3 aw))] ?_
       refine N_end (by kernel_rfl) ?_
       refine S_blockEnd ?_
       refine S_blockEnd ?_
       refine S_then ?_
       exact S_round ((d.extract a3 aw) : ByteArray) sk h
   ·rw [if_neg c81] at h
    have b82 : ((IntKind.wrap .i64 (iand .u8 j 7)) == 2) = false := beq_eq_false_iff_ne.mpr c81
    refine S_env [(0, .string d), (6, vp (pa b)), (75, vi (IntKind.wrap .i64 (iand .u8 j 7))), (76, .bool false)] (by simp only [b82, Bool.not_true, Bool.not_false]) ?_
    clear b82
    refine T_f 76 kk58 kk59 ?_
    refine T_sr 20 kk68 kk69 ?_
    refine T_ne 2 [(0, .string d), (6, vp (pa b)), (75, vi (IntKind.wrap .i64 (iand .u8 j 7))), (97, .bool ((IntKind.wrap .i64 (iand .u8 j 7)) == 3))] ?_
    by_cases c98 : (IntKind.wrap .i64 (iand .u8 j 7)) = 3
    ·rw [if_pos c98] at h
     have b99 : ((IntKind.wrap .i64 (iand .u8 j 7)) == 3) = true := beq_iff_eq.mpr c98
     refine S_env [(0, .string d), (6, vp (pa b)), (75, vi (IntKind.wrap .i64 (iand .u8 j 7))), (97, .bool true)] (by simp only [b99, Bool.not_true, Bool.not_false]) ?_
     clear b99
     refine T_t 97 kk70 kk71 ?_
     refine T_s kk72 kk73 ?_
     refine T_s kk74 kk75 ?_
     refine T_rq 21 kk74 ?_
     refine T_q (some 99) (.string d) [(0, .string d), (6, vp (pa b)), (99, .string d)] ?_
     refine T_q (some 100) (vi (d.size : Int)) [(0, .string d), (6, vp (pa b)), (100, vi (d.size : Int))] ?_
     refine T_q (some 101) (.bool (decide ((d.size : Int) < 3))) [(0, .string d), (6, vp (pa b)), (101, .bool (decide ((d.size : Int) < 3)))] ?_
     refine T_q (some 102) (.bool (decide ((d.size : Int) < 3))) [(0, .string d), (6, vp (pa b)), (102, .bool (decide ((d.size : Int) < 3)))] ?_
     by_cases c100 : (d.size : Int) < 3
     ·rw [if_pos c100] at h
      have b101 : (decide ((d.size : Int) < 3)) = true := decide_eq_true c100
      refine Q_env [(0, .string d), (6, vp (pa b)), (102, .bool true)] (by simp only [b101, Bool.not_true, Bool.not_false]) ?_
      clear b101
      refine T_q (some 103) (undef) [(0, .string d), (6, vp (pa b)), (102, .bool true), (103, undef)] ?_
      refine T_q (some 104) (undef) [(0, .string d), (6, vp (pa b)), (102, .bool true), (104, undef)] ?_
      refine T_q (some 105) (undef) [(0, .string d), (6, vp (pa b)), (102, .bool true), (104, undef), (105, undef)] ?_
      refine T_q (some 106) (undef) [(0, .string d), (6, vp (pa b)), (102, .bool true), (104, undef), (106, undef)] ?_
      refine T_q (some 107) (undef) [(0, .string d), (6, vp (pa b)), (102, .bool true), (107, undef)] ?_
      refine T_q (some 108) (.bool true) [(0, .string d), (6, vp (pa b)), (108, .bool true)] ?_
      refine T_q (some 109) (.bool true) [(0, .string d), (6, vp (pa b)), (109, .bool true)] ?_
      refine T_q (some 110) (undef) [(0, .string d), (109, .bool true), (110, undef)] ?_
      refine T_q (some 111) (undef) [(0, .string d), (109, .bool true), (111, undef)] ?_
      refine T_q (some 112) (undef) [(0, .string d), (109, .bool true), (111, undef), (112, undef)] ?_
      refine T_q (some 113) (undef) [(0, .string d), (109, .bool true), (111, undef), (113, undef)] ?_
      refine T_q (some 114) (undef) [(0, .string d), (109, .bool true), (114, undef)] ?_
      refine T_q (some 115) (.bool true) [(0, .string d), (115, .bool true)] ?_
      refine T_q (some 116) (.bool true) [(0, .string d), (116, .bool true)] ?_
      refine T_q (some 117) (undef) [(0, .string d), (116, .bool true), (117, undef)] ?_
      refine T_q (some 118) (undef) [(0, .string d), (116, .bool true), (118, undef)] ?_
      refine T_q (some 119) (undef) [(0, .string d), (116, .bool true), (119, undef)] ?_
      refine T_q (some 120) (.bool true) [(0, .string d), (120, .bool true)] ?_
      refine T_q (some 121) (.bool true) [(0, .string d), (121, .bool true)] ?_
      refine T_q (some 122) (undef) [(0, .string d), (121, .bool true), (122, undef)] ?_
      refine T_q (some 123) (undef) [(0, .string d), (121, .bool true), (123, undef)] ?_
      refine T_q (some 124) (undef) [(0, .string d), (121, .bool true), (124, undef)] ?_
      refine T_q (some 125) (.bool true) [(0, .string d), (125, .bool true)] ?_
      refine Q_sub [(0, .string d), (125, .bool true)] sk ?_
      refine T_qe ?_
      refine T_t 125 kk76 kk77 ?_
      refine T_sr 22 kk78 kk79 ?_
      refine T_ne 1 [(2, .bool false)] ?_
      refine S_ret (by kernel_rfl) ?_
      show At _ _ _ _ _ (Q .ret)
      exact S_done (fn := Tryz.f83) [.bool false] hQ (show ResOK _ _ _ [.tmp 2] _ from .tmp (by kernel_rfl) (.nil)) h
     ·rw [if_neg c100] at h
      have b101 : (decide ((d.size : Int) < 3)) = false := decide_eq_false c100
      refine Q_env [(0, .string d), (6, vp (pa b)), (102, .bool false)] (by simp only [b101, Bool.not_true, Bool.not_false]) ?_
      clear b101
      refine T_q (some 103) (.string d) [(0, .string d), (6, vp (pa b)), (102, .bool false), (103, .string d)] ?_
      obtain ⟨av, q102, h⟩ := h
      refine Q_op (some 104) (indexN 9 (.string d) (vi 1)) (.int .u8 ((av.toNat : Nat) : Int)) (fun _=>by kernel_rfl) (fun w _ => indexStr_run (P := Tryz.prog) (t := 9) (s := d) (k := .i64) (i := 1) Tryz.underlying9 q102.1 q102.2 w) [(0, .string d), (6, vp (pa b)), (102, .bool false), (104, .int .u8 ((av.toNat : Nat) : Int))] pk ?_
      refine T_q (some 105) (vp (pa b)) [(0, .string d), (6, vp (pa b)), (102, .bool false), (104, .int .u8 ((av.toNat : Nat) : Int)), (105, vp (pa b))] ?_
      obtain ⟨aj, q103, h⟩ := h
      refine T_ql (some 106) 5 q103 [(0, .string d), (6, vp (pa b)), (102, .bool false), (104, .int .u8 ((av.toNat : Nat) : Int)), (106, .int .u8 aj)] ?_
      refine T_q (some 107) (.bool (decide (((av.toNat : Nat) : Int) < aj))) [(0, .string d), (6, vp (pa b)), (102, .bool false), (107, .bool (decide (((av.toNat : Nat) : Int) < aj)))] ?_
      refine T_q (some 108) (.bool (decide (((av.toNat : Nat) : Int) < aj))) [(0, .string d), (6, vp (pa b)), (108, .bool (decide (((av.toNat : Nat) : Int) < aj)))] ?_
      refine T_q (some 109) (.bool (decide (((av.toNat : Nat) : Int) < aj))) [(0, .string d), (6, vp (pa b)), (109, .bool (decide (((av.toNat : Nat) : Int) < aj)))] ?_
      by_cases c104 : ((av.toNat : Nat) : Int) < aj
      ·rw [if_pos c104] at h
       have b105 : (decide (((av.toNat : Nat) : Int) < aj)) = true := decide_eq_true c104
       refine Q_env [(0, .string d), (6, vp (pa b)), (109, .bool true)] (by simp only [b105, Bool.not_true, Bool.not_false]) ?_
       clear b105
       refine T_q (some 110) (undef) [(0, .string d), (109, .bool true), (110, undef)] ?_
       refine T_q (some 111) (undef) [(0, .string d), (109, .bool true), (111, undef)] ?_
       refine T_q (some 112) (undef) [(0, .string d), (109, .bool true), (111, undef), (112, undef)] ?_
       refine T_q (some 113) (undef) [(0, .string d), (109, .bool true), (111, undef), (113, undef)] ?_
       refine T_q (some 114) (undef) [(0, .string d), (109, .bool true), (114, undef)] ?_
       refine T_q (some 115) (.bool true) [(0, .string d), (115, .bool true)] ?_
       refine T_q (some 116) (.bool true) [(0, .string d), (116, .bool true)] ?_
       refine T_q (some 117) (undef) [(0, .string d), (116, .bool true), (117, undef)] ?_
       refine T_q (some 118) (undef) [(0, .string d), (116, .bool true), (118, undef)] ?_
       refine T_q (some 119) (undef) [(0, .string d), (116, .bool true), (119, undef)] ?_
       refine T_q (some 120) (.bool true) [(0, .string d), (120, .bool true)] ?_
       refine T_q (some 121) (.bool true) [(0, .string d), (121, .bool true)] ?_
       refine T_q (some 122) (undef) [(0, .string d), (121, .bool true), (122, undef)] ?_
       refine T_q (some 123) (undef) [(0, .string d), (121, .bool true), (123, undef)] ?_
       refine T_q (some 124) (undef) [(0, .string d), (121, .bool true), (124, undef)] ?_
       refine T_q (some 125) (.bool true) [(0, .string d), (125, .bool true)] ?_
       refine Q_sub [(0, .string d), (125, .bool true)] sk ?_
       refine T_qe ?_
       refine T_t 125 kk76 kk77 ?_
       refine T_sr 22 kk78 kk79 ?_
       refine T_ne 1 [(2, .bool false)] ?_
       refine S_ret (by kernel_rfl) ?_
       show At _ _ _ _ _ (Q .ret)
       exact S_done (fn := Tryz.f83) [.bool false] hQ (show ResOK _ _ _ [.tmp 2] _ from .tmp (by kernel_rfl) (.nil)) h
      ·rw [if_neg c104] at h
       have b105 : (decide (((av.toNat : Nat) : Int) < aj)) = false := decide_eq_false c104
       refine Q_env [(0, .string d), (6, vp (pa b)), (109, .bool false)] (by simp only [b105, Bool.not_true, Bool.not_false]) ?_
       clear b105
       refine T_q (some 110) (vp (some ((Addr.mk b 0 none).add 1))) [(0, .string d), (109, .bool false), (110, vp (some ((Addr.mk b 0 none).add 1)))] ?_
       obtain ⟨u, q106, h⟩ := h
       refine T_ql (some 111) 5 q106 [(0, .string d), (109, .bool false), (111, .int .u8 u)] ?_
       refine T_q (some 112) (.string d) [(0, .string d), (109, .bool false), (111, .int .u8 u), (112, .string d)] ?_
       obtain ⟨ay, q107, h⟩ := h
       refine Q_op (some 113) (indexN 9 (.string d) (vi 1)) (.int .u8 ((ay.toNat : Nat) : Int)) (fun _=>by kernel_rfl) (fun w _ => indexStr_run (P := Tryz.prog) (t := 9) (s := d) (k := .i64) (i := 1) Tryz.underlying9 q107.1 q107.2 w) [(0, .string d), (109, .bool false), (111, .int .u8 u), (113, .int .u8 ((ay.toNat : Nat) : Int))] pk ?_
       refine T_q (some 114) (.bool (decide (u < ((ay.toNat : Nat) : Int)))) [(0, .string d), (109, .bool false), (114, .bool (decide (u < ((ay.toNat : Nat) : Int))))] ?_
       refine T_q (some 115) (.bool (decide (u < ((ay.toNat : Nat) : Int)))) [(0, .string d), (115, .bool (decide (u < ((ay.toNat : Nat) : Int))))] ?_
       refine T_q (some 116) (.bool (decide (u < ((ay.toNat : Nat) : Int)))) [(0, .string d), (116, .bool (decide (u < ((ay.toNat : Nat) : Int))))] ?_
       by_cases c108 : u < ((ay.toNat : Nat) : Int)
       ·rw [if_pos c108] at h
        have b109 : (decide (u < ((ay.toNat : Nat) : Int))) = true := decide_eq_true c108
        refine Q_env [(0, .string d), (116, .bool true)] (by simp only [b109, Bool.not_true, Bool.not_false]) ?_
        clear b109
        refine T_q (some 117) (undef) [(0, .string d), (116, .bool true), (117, undef)] ?_
        refine T_q (some 118) (undef) [(0, .string d), (116, .bool true), (118, undef)] ?_
        refine T_q (some 119) (undef) [(0, .string d), (116, .bool true), (119, undef)] ?_
        refine T_q (some 120) (.bool true) [(0, .string d), (120, .bool true)] ?_
        refine T_q (some 121) (.bool true) [(0, .string d), (121, .bool true)] ?_
        refine T_q (some 122) (undef) [(0, .string d), (121, .bool true), (122, undef)] ?_
        refine T_q (some 123) (undef) [(0, .string d), (121, .bool true), (123, undef)] ?_
        refine T_q (some 124) (undef) [(0, .string d), (121, .bool true), (124, undef)] ?_
        refine T_q (some 125) (.bool true) [(0, .string d), (125, .bool true)] ?_
        refine Q_sub [(0, .string d), (125, .bool true)] sk ?_
        refine T_qe ?_
        refine T_t 125 kk76 kk77 ?_
        refine T_sr 22 kk78 kk79 ?_
        refine T_ne 1 [(2, .bool false)] ?_
        refine S_ret (by kernel_rfl) ?_
        show At _ _ _ _ _ (Q .ret)
        exact S_done (fn := Tryz.f83) [.bool false] hQ (show ResOK _ _ _ [.tmp 2] _ from .tmp (by kernel_rfl) (.nil)) h
       ·rw [if_neg c108] at h
        have b109 : (decide (u < ((ay.toNat : Nat) : Int))) = false := decide_eq_false c108
        refine Q_env [(0, .string d), (116, .bool false)] (by simp only [b109, Bool.not_true, Bool.not_false]) ?_
        clear b109
        refine T_q (some 117) (.string d) [(0, .string d), (116, .bool false), (117, .string d)] ?_
        obtain ⟨a0, q110, h⟩ := h
        refine Q_op (some 118) (indexN 9 (.string d) (vi 2)) (.int .u8 ((a0.toNat : Nat) : Int)) (fun _=>by kernel_rfl) (fun w _ => indexStr_run (P := Tryz.prog) (t := 9) (s := d) (k := .i64) (i := 2) Tryz.underlying9 q110.1 q110.2 w) [(0, .string d), (116, .bool false), (118, .int .u8 ((a0.toNat : Nat) : Int))] pk ?_
        refine T_q (some 119) (.bool (decide (((a0.toNat : Nat) : Int) < 128))) [(0, .string d), (116, .bool false), (119, .bool (decide (((a0.toNat : Nat) : Int) < 128)))] ?_
        refine T_q (some 120) (.bool (decide (((a0.toNat : Nat) : Int) < 128))) [(0, .string d), (120, .bool (decide (((a0.toNat : Nat) : Int) < 128)))] ?_
        refine T_q (some 121) (.bool (decide (((a0.toNat : Nat) : Int) < 128))) [(0, .string d), (121, .bool (decide (((a0.toNat : Nat) : Int) < 128)))] ?_
        by_cases c111 : ((a0.toNat : Nat) : Int) < 128
        ·rw [if_pos c111] at h
         have b112 : (decide (((a0.toNat : Nat) : Int) < 128)) = true := decide_eq_true c111
         refine Q_env [(0, .string d), (121, .bool true)] (by simp only [b112, Bool.not_true, Bool.not_false]) ?_
         clear b112
         refine T_q (some 122) (undef) [(0, .string d), (121, .bool true), (122, undef)] ?_
         refine T_q (some 123) (undef) [(0, .string d), (121, .bool true), (123, undef)] ?_
         refine T_q (some 124) (undef) [(0, .string d), (121, .bool true), (124, undef)] ?_
         refine T_q (some 125) (.bool true) [(0, .string d), (125, .bool true)] ?_
         refine Q_sub [(0, .string d), (125, .bool true)] sk ?_
         refine T_qe ?_
         refine T_t 125 kk76 kk77 ?_
         refine T_sr 22 kk78 kk79 ?_
         refine T_ne 1 [(2, .bool false)] ?_
         refine S_ret (by kernel_rfl) ?_
         show At _ _ _ _ _ (Q .ret)
         exact S_done (fn := Tryz.f83) [.bool false] hQ (show ResOK _ _ _ [.tmp 2] _ from .tmp (by kernel_rfl) (.nil)) h
        ·rw [if_neg c111] at h
         have b112 : (decide (((a0.toNat : Nat) : Int) < 128)) = false := decide_eq_false c111
         refine Q_env [(0, .string d), (121, .bool false)] (by simp only [b112, Bool.not_true, Bool.not_false]) ?_
         clear b112
         refine T_q (some 122) (.string d) [(0, .string d), (121, .bool false), (122, .string d)] ?_
         obtain ⟨a6, q113, h⟩ := h
         refine Q_op (some 123) (indexN 9 (.string d) (vi 2)) (.int .u8 ((a6.toNat : Nat) : Int)) (fun _=>by kernel_rfl) (fun w _ => indexStr_run (P := Tryz.prog) (t := 9) (s := d) (k := .i64) (i := 2) Tryz.underlying9 q113.1 q113.2 w) [(0, .string d), (121, .bool false), (123, .int .u8 ((a6.toNat : Nat) : Int))] pk ?_
         refine T_q (some 124) (.bool (decide (191 < ((a6.toNat : Nat) : Int)))) [(0, .string d), (121, .bool false), (124, .bool (decide (191 < ((a6.toNat : Nat) : Int))))] ?_
         refine T_q (some 125) (.bool (decide (191 < ((a6.toNat : Nat) : Int)))) [(0, .string d), (125, .bool (decide (191 < ((a6.toNat : Nat) : Int))))] ?_
         refine Q_sub [(0, .string d), (125, .bool (decide (191 < ((a6.toNat : Nat) : Int))))] sk ?_
         refine T_qe ?_
         by_cases c114 : 191 < ((a6.toNat : Nat) : Int)
         ·rw [if_pos c114] at h
          have b115 : (decide (191 < ((a6.toNat : Nat) : Int))) = true := decide_eq_true c114
          refine T_cT 125 kk76 kk77 b115 ?_
          refine T_sr 22 kk78 kk79 ?_
          refine T_ne 1 [(2, .bool false)] ?_
          refine S_ret (by kernel_rfl) ?_
          show At _ _ _ _ _ (Q .ret)
          exact S_done (fn := Tryz.f83) [.bool false] hQ (show ResOK _ _ _ [.tmp 2] _ from .tmp (by kernel_rfl) (.nil)) h
         ·rw [if_neg c114] at h
          have b115 : (decide (191 < ((a6.toNat : Nat) : Int))) = false := decide_eq_false c114
          refine S_env [(0, .string d), (125, .bool false)] (by simp only [b115, Bool.not_true, Bool.not_false]) ?_
          clear b115
          refine T_f 125 kk76 kk77 ?_
          refine T_kt ?_
          refine T_r 23 kk73 ?_
          refine T_n 1 [(126, .string d)] ?_
          obtain ⟨aq, z, q116, q117, q118, q119, h⟩ := h
          refine T_v (some 127) (sliceN 9 (.string d) (some (vi 3)) none none) (.string (d.extract aq z)) (fun w _ => sliceStr_run (P := Tryz.prog) (t := 9) (s := d) (some (vi 3)) none aq z Tryz.underlying9 (.inr ⟨.i64, by rw [q116]⟩) (.inl ⟨rfl, q117⟩) q118 q119 w) [(127, .string (d.extract aq z))] ?_
          refine T_n 1 [(0, .string (d.extract aq z))] ?_
          refine N_end (by kernel_rfl) ?_
          refine S_blockEnd ?_
          refine S_blockEnd ?_
          refine S_then ?_
          exact S_round ((d.extract aq z) : ByteArray) sk h
    ·rw [if_neg c98] at h
     have b99 : ((IntKind.wrap .i64 (iand .u8 j 7)) == 3) = false := beq_eq_false_iff_ne.mpr c98
     refine S_env [(0, .string d), (6, vp (pa b)), (75, vi (IntKind.wrap .i64 (iand .u8 j 7))), (97, .bool false)] (by simp only [b99, Bool.not_true, Bool.not_false]) ?_
     clear b99
     refine T_f 97 kk70 kk71 ?_
     refine T_sr 24 kk80 kk81 ?_
     refine T_ne 2 [(0, .string d), (6, vp (pa b)), (128, .bool ((IntKind.wrap .i64 (iand .u8 j 7)) == 4))] ?_
     by_cases c121 : (IntKind.wrap .i64 (iand .u8 j 7)) = 4
     ·rw [if_pos c121] at h
      have b122 : ((IntKind.wrap .i64 (iand .u8 j 7)) == 4) = true := beq_iff_eq.mpr c121
      refine S_env [(0, .string d), (6, vp (pa b)), (128, .bool true)] (by simp only [b122, Bool.not_true, Bool.not_false]) ?_
      clear b122
      refine T_t 128 kk82 kk83 ?_
      refine T_s kk84 kk85 ?_
      refine T_s kk86 kk87 ?_
      refine T_rq 25 kk86 ?_
      refine T_q (some 130) (.string d) [(0, .string d), (6, vp (pa b)), (130, .string d)] ?_
      refine T_q (some 131) (vi (d.size : Int)) [(0, .string d), (6, vp (pa b)), (131, vi (d.size : Int))] ?_
      refine T_q (some 132) (.bool (decide ((d.size : Int) < 4))) [(0, .string d), (6, vp (pa b)), (132, .bool (decide ((d.size : Int) < 4)))] ?_
      refine T_q (some 133) (.bool (decide ((d.size : Int) < 4))) [(0, .string d), (6, vp (pa b)), (133, .bool (decide ((d.size : Int) < 4)))] ?_
      by_cases c123 : (d.size : Int) < 4
      ·rw [if_pos c123] at h
       have b124 : (decide ((d.size : Int) < 4)) = true := decide_eq_true c123
       refine Q_env [(0, .string d), (6, vp (pa b)), (133, .bool true)] (by simp only [b124, Bool.not_true, Bool.not_false]) ?_
       clear b124
       refine T_q (some 134) (undef) [(0, .string d), (6, vp (pa b)), (133, .bool true), (134, undef)] ?_
       refine T_q (some 135) (undef) [(0, .string d), (6, vp (pa b)), (133, .bool true), (135, undef)] ?_
       refine T_q (some 136) (undef) [(0, .string d), (6, vp (pa b)), (133, .bool true), (135, undef), (136, undef)] ?_
       refine T_q (some 137) (undef) [(0, .string d), (6, vp (pa b)), (133, .bool true), (135, undef), (137, undef)] ?_
       refine T_q (some 138) (undef) [(0, .string d), (6, vp (pa b)), (133, .bool true), (138, undef)] ?_
       refine T_q (some 139) (.bool true) [(0, .string d), (6, vp (pa b)), (139, .bool true)] ?_
       refine T_q (some 140) (.bool true) [(0, .string d), (6, vp (pa b)), (140, .bool true)] ?_
       refine T_q (some 141) (undef) [(0, .string d), (140, .bool true), (141, undef)] ?_
       refine T_q (some 142) (undef) [(0, .string d), (140, .bool true), (142, undef)] ?_
       refine T_q (some 143) (undef) [(0, .string d), (140, .bool true), (142, undef), (143, undef)] ?_
       refine T_q (some 144) (undef) [(0, .string d), (140, .bool true), (142, undef), (144, undef)] ?_
       refine T_q (some 145) (undef) [(0, .string d), (140, .bool true), (145, undef)] ?_
       refine T_q (some 146) (.bool true) [(0, .string d), (146, .bool true)] ?_
       refine T_q (some 147) (.bool true) [(0, .string d), (147, .bool true)] ?_
       refine T_q (some 148) (undef) [(0, .string d), (147, .bool true), (148, undef)] ?_
       refine T_q (some 149) (undef) [(0, .string d), (147, .bool true), (149, undef)] ?_
       refine T_q (some 150) (undef) [(0, .string d), (147, .bool true), (150, undef)] ?_
       refine T_q (some 151) (.bool true) [(0, .string d), (151, .bool true)] ?_
       refine T_q (some 152) (.bool true) [(0, .string d), (152, .bool true)] ?_
       refine T_q (some 153) (undef) [(0, .string d), (152, .bool true), (153, undef)] ?_
       refine T_q (some 154) (undef) [(0, .string d), (152, .bool true), (154, undef)] ?_
       refine T_q (some 155) (undef) [(0, .string d), (152, .bool true), (155, undef)] ?_
       refine T_q (some 156) (.bool true) [(0, .string d), (156, .bool true)] ?_
       refine T_q (some 157) (.bool true) [(0, .string d), (157, .bool true)] ?_
       refine T_q (some 158) (undef) [(0, .string d), (157, .bool true), (158, undef)] ?_
       refine T_q (some 159) (undef) [(0, .string d), (157, .bool true), (159, undef)] ?_
       refine T_q (some 160) (undef) [(0, .string d), (157, .bool true), (160, undef)] ?_
       refine T_q (some 161) (.bool true) [(0, .string d), (161, .bool true)] ?_
       refine T_q (some 162) (.bool true) [(0, .string d), (162, .bool true)] ?_
       refine T_q (some 163) (undef) [(0, .string d), (162, .bool true), (163, undef)] ?_
       refine T_q (some 164) (undef) [(0, .string d), (162, .bool true), (164, undef)] ?_
       refine T_q (some 165) (undef) [(0, .string d), (162, .bool true), (165, undef)] ?_
       refine T_q (some 166) (.bool true) [(0, .string d), (166, .bool true)] ?_
       refine Q_sub [(0, .string d), (166, .bool true)] sk ?_
       refine T_qe ?_
       refine T_t 166 kk88 kk89 ?_
       refine T_sr 26 kk90 kk91 ?_
       refine T_ne 1 [(2, .bool false)] ?_
       refine S_ret (by kernel_rfl) ?_
       show At _ _ _ _ _ (Q .ret)
       exact S_done (fn := Tryz.f83) [.bool false] hQ (show ResOK _ _ _ [.tmp 2] _ from .tmp (by kernel_rfl) (.nil)) h
      ·rw [if_neg c123] at h
       have b124 : (decide ((d.size : Int) < 4)) = false := decide_eq_false c123
       refine Q_env [(0, .string d), (6, vp (pa b)), (133, .bool false)] (by simp only [b124, Bool.not_true, Bool.not_false]) ?_
       clear b124
       refine T_q (some 134) (.string d) [(0, .string d), (6, vp (pa b)), (133, .bool false), (134, .string d)] ?_
       obtain ⟨r, q125, h⟩ := h
       refine Q_op (some 135) (indexN 9 (.string d) (vi 1)) (.int .u8 ((r.toNat : Nat) : Int)) (fun _=>by kernel_rfl) (fun w _ => indexStr_run (P := Tryz.prog) (t := 9) (s := d) (k := .i64) (i := 1) Tryz.underlying9 q125.1 q125.2 w) [(0, .string d), (6, vp (pa b)), (133, .bool false), (135, .int .u8 ((r.toNat : Nat) : Int))] pk ?_
       refine T_q (some 136) (vp (pa b)) [(0, .string d), (6, vp (pa b)), (133, .bool false), (135, .int .u8 ((r.toNat : Nat) : Int)), (136, vp (pa b))] ?_
       obtain ⟨ai, q126, h⟩ := h
       refine T_ql (some 137) 5 q126 [(0, .string d), (6, vp (pa b)), (133, .bool false), (135, .int .u8 ((r.toNat : Nat) : Int)), (137, .int .u8 ai)] ?_
       refine T_q (some 138) (.bool (decide (((r.toNat : Nat) : Int) < ai))) [(0, .string d), (6, vp (pa b)), (133, .bool false), (138, .bool (decide (((r.toNat : Nat) : Int) < ai)))] ?_
       refine T_q (some 139) (.bool (decide (((r.toNat : Nat) : Int) < ai))) [(0, .string d), (6, vp (pa b)), (139, .bool (decide (((r.toNat : Nat) : Int) < ai)))] ?_
       refine T_q (some 140) (.bool (decide (((r.toNat : Nat) : Int) < ai))) [(0, .string d), (6, vp (pa b)), (140, .bool (decide (((r.toNat : Nat) : Int) < ai)))] ?_
       by_cases c127 : ((r.toNat : Nat) : Int) < ai
       ·rw [if_pos c127] at h
        have b128 : (decide (((r.toNat : Nat) : Int) < ai)) = true := decide_eq_true c127
        refine Q_env [(0, .string d), (6, vp (pa b)), (140, .bool true)] (by simp only [b128, Bool.not_true, Bool.not_false]) ?_
        clear b128
        refine T_q (some 141) (undef) [(0, .string d), (140, .bool true), (141, undef)] ?_
        refine T_q (some 142) (undef) [(0, .string d), (140, .bool true), (142, undef)] ?_
        refine T_q (some 143) (undef) [(0, .string d), (140, .bool true), (142, undef), (143, undef)] ?_
        refine T_q (some 144) (undef) [(0, .string d), (140, .bool true), (142, undef), (144, undef)] ?_
        refine T_q (some 145) (undef) [(0, .string d), (140, .bool true), (145, undef)] ?_
        refine T_q (some 146) (.bool true) [(0, .string d), (146, .bool true)] ?_
        refine T_q (some 147) (.bool true) [(0, .string d), (147, .bool true)] ?_
        refine T_q (some 148) (undef) [(0, .string d), (147, .bool true), (148, undef)] ?_
        refine T_q (some 149) (undef) [(0, .string d), (147, .bool true), (149, undef)] ?_
        refine T_q (some 150) (undef) [(0, .string d), (147, .bool true), (150, undef)] ?_
        refine T_q (some 151) (.bool true) [(0, .string d), (151, .bool true)] ?_
        refine T_q (some 152) (.bool true) [(0, .string d), (152, .bool true)] ?_
        refine T_q (some 153) (undef) [(0, .string d), (152, .bool true), (153, undef)] ?_
        refine T_q (some 154) (undef) [(0, .string d), (152, .bool true), (154, undef)] ?_
        refine T_q (some 155) (undef) [(0, .string d), (152, .bool true), (155, undef)] ?_
        refine T_q (some 156) (.bool true) [(0, .string d), (156, .bool true)] ?_
        refine T_q (some 157) (.bool true) [(0, .string d), (157, .bool true)] ?_
        refine T_q (some 158) (undef) [(0, .string d), (157, .bool true), (158, undef)] ?_
        refine T_q (some 159) (undef) [(0, .string d), (157, .bool true), (159, undef)] ?_
        refine T_q (some 160) (undef) [(0, .string d), (157, .bool true), (160, undef)] ?_
        refine T_q (some 161) (.bool true) [(0, .string d), (161, .bool true)] ?_
        refine T_q (some 162) (.bool true) [(0, .string d), (162, .bool true)] ?_
        refine T_q (some 163) (undef) [(0, .string d), (162, .bool true), (163, undef)] ?_
        refine T_q (some 164) (undef) [(0, .string d), (162, .bool true), (164, undef)] ?_
        refine T_q (some 165) (undef) [(0, .string d), (162, .bool true), (165, undef)] ?_
        refine T_q (some 166) (.bool true) [(0, .string d), (166, .bool true)] ?_
        refine Q_sub [(0, .string d), (166, .bool true)] sk ?_
        refine T_qe ?_
        refine T_t 166 kk88 kk89 ?_
        refine T_sr 26 kk90 kk91 ?_
        refine T_ne 1 [(2, .bool false)] ?_
        refine S_ret (by kernel_rfl) ?_
        show At _ _ _ _ _ (Q .ret)
        exact S_done (fn := Tryz.f83) [.bool false] hQ (show ResOK _ _ _ [.tmp 2] _ from .tmp (by kernel_rfl) (.nil)) h
       ·rw [if_neg c127] at h
        have b128 : (decide (((r.toNat : Nat) : Int) < ai)) = false := decide_eq_false c127
        refine Q_env [(0, .string d), (6, vp (pa b)), (140, .bool false)] (by simp only [b128, Bool.not_true, Bool.not_false]) ?_
        clear b128
        refine T_q (some 141) (vp (some ((Addr.mk b 0 none).add 1))) [(0, .string d), (140, .bool false), (141, vp (some ((Addr.mk b 0 none).add 1)))] ?_
        obtain ⟨q, q129, h⟩ := h
        refine T_ql (some 142) 5 q129 [(0, .string d), (140, .bool false), (142, .int .u8 q)] ?_
        refine T_q (some 143) (.string d) [(0, .string d), (140, .bool false), (142, .int .u8 q), (143, .string d)] ?_
        obtain ⟨ab, q130, h⟩ := h
        refine Q_op (some 144) (indexN 9 (.string d) (vi 1)) (.int .u8 ((ab.toNat : Nat) : Int)) (fun _=>by kernel_rfl) (fun w _ => indexStr_run (P := Tryz.prog) (t := 9) (s := d) (k := .i64) (i := 1) Tryz.underlying9 q130.1 q130.2 w) [(0, .string d), (140, .bool false), (142, .int .u8 q), (144, .int .u8 ((ab.toNat : Nat) : Int))] pk ?_
        refine T_q (some 145) (.bool (decide (q < ((ab.toNat : Nat) : Int)))) [(0, .string d), (140, .bool false), (145, .bool (decide (q < ((ab.toNat : Nat) : Int))))] ?_
        refine T_q (some 146) (.bool (decide (q < ((ab.toNat : Nat) : Int)))) [(0, .string d), (146, .bool (decide (q < ((ab.toNat : Nat) : Int))))] ?_
        refine T_q (some 147) (.bool (decide (q < ((ab.toNat : Nat) : Int)))) [(0, .string d), (147, .bool (decide (q < ((ab.toNat : Nat) : Int))))] ?_
        by_cases c131 : q < ((ab.toNat : Nat) : Int)
        ·rw [if_pos c131] at h
         have b132 : (decide (q < ((ab.toNat : Nat) : Int))) = true := decide_eq_true c131
         refine Q_env [(0, .string d), (147, .bool true)] (by simp only [b132, Bool.not_true, Bool.not_false]) ?_
         clear b132
         refine T_q (some 148) (undef) [(0, .string d), (147, .bool true), (148, undef)] ?_
         refine T_q (some 149) (undef) [(0, .string d), (147, .bool true), (149, undef)] ?_
         refine T_q (some 150) (undef) [(0, .string d), (147, .bool true), (150, undef)] ?_
         refine T_q (some 151) (.bool true) [(0, .string d), (151, .bool true)] ?_
         refine T_q (some 152) (.bool true) [(0, .string d), (152, .bool true)] ?_
         refine T_q (some 153) (undef) [(0, .string d), (152, .bool true), (153, undef)] ?_
         refine T_q (some 154) (undef) [(0, .string d), (152, .bool true), (154, undef)] ?_
         refine T_q (some 155) (undef) [(0, .string d), (152, .bool true), (155, undef)] ?_
         refine T_q (some 156) (.bool true) [(0, .string d), (156, .bool true)] ?_
         refine T_q (some 157) (.bool true) [(0, .string d), (157, .bool true)] ?_
         refine T_q (some 158) (undef) [(0, .string d), (157, .bool true), (158, undef)] ?_
         refine T_q (some 159) (undef) [(0, .string d), (157, .bool true), (159, undef)] ?_
         refine T_q (some 160) (undef) [(0, .string d), (157, .bool true), (160, undef)] ?_
         refine T_q (some 161) (.bool true) [(0, .string d), (161, .bool true)] ?_
         refine T_q (some 162) (.bool true) [(0, .string d), (162, .bool true)] ?_
         refine T_q (some 163) (undef) [(0, .string d), (162, .bool true), (163, undef)] ?_
         refine T_q (some 164) (undef) [(0, .string d), (162, .bool true), (164, undef)] ?_
         refine T_q (some 165) (undef) [(0, .string d), (162, .bool true), (165, undef)] ?_
         refine T_q (some 166) (.bool true) [(0, .string d), (166, .bool true)] ?_
         refine Q_sub [(0, .string d), (166, .bool true)] sk ?_
         refine T_qe ?_
         refine T_t 166 kk88 kk89 ?_
         refine T_sr 26 kk90 kk91 ?_
         refine T_ne 1 [(2, .bool false)] ?_
         refine S_ret (by kernel_rfl) ?_
         show At _ _ _ _ _ (Q .ret)
         exact S_done (fn := Tryz.f83) [.bool false] hQ (show ResOK _ _ _ [.tmp 2] _ from .tmp (by kernel_rfl) (.nil)) h
        ·rw [if_neg c131] at h
         have b132 : (decide (q < ((ab.toNat : Nat) : Int))) = false := decide_eq_false c131
         refine Q_env [(0, .string d), (147, .bool false)] (by simp only [b132, Bool.not_true, Bool.not_false]) ?_
         clear b132
         refine T_q (some 148) (.string d) [(0, .string d), (147, .bool false), (148, .string d)] ?_
         obtain ⟨aa, q133, h⟩ := h
         refine Q_op (some 149) (indexN 9 (.string d) (vi 2)) (.int .u8 ((aa.toNat : Nat) : Int)) (fun _=>by kernel_rfl) (fun w _ => indexStr_run (P := Tryz.prog) (t := 9) (s := d) (k := .i64) (i := 2) Tryz.underlying9 q133.1 q133.2 w) [(0, .string d), (147, .bool false), (149, .int .u8 ((aa.toNat : Nat) : Int))] pk ?_
         refine T_q (some 150) (.bool (decide (((aa.toNat : Nat) : Int) < 128))) [(0, .string d), (147, .bool false), (150, .bool (decide (((aa.toNat : Nat) : Int) < 128)))] ?_
         refine T_q (some 151) (.bool (decide (((aa.toNat : Nat) : Int) < 128))) [(0, .string d), (151, .bool (decide (((aa.toNat : Nat) : Int) < 128)))] ?_
         refine T_q (some 152) (.bool (decide (((aa.toNat : Nat) : Int) < 128))) [(0, .string d), (152, .bool (decide (((aa.toNat : Nat) : Int) < 128)))] ?_
         by_cases c134 : ((aa.toNat : Nat) : Int) < 128
         ·rw [if_pos c134] at h
          have b135 : (decide (((aa.toNat : Nat) : Int) < 128)) = true := decide_eq_true c134
          refine Q_env [(0, .string d), (152, .bool true)] (by simp only [b135, Bool.not_true, Bool.not_false]) ?_
          clear b135
          refine T_q (some 153) (undef) [(0, .string d), (152, .bool true), (153, undef)] ?_
          refine T_q (some 154) (undef) [(0, .string d), (152, .bool true), (154, undef)] ?_
          refine T_q (some 155) (undef) [(0, .string d), (152, .bool true), (155, undef)] ?_
          refine T_q (some 156) (.bool true) [(0, .string d), (156, .bool true)] ?_
          refine T_q (some 157) (.bool true) [(0, .string d), (157, .bool true)] ?_
          refine T_q (some 158) (undef) [(0, .string d), (157, .bool true), (158, undef)] ?_
          refine T_q (some 159) (undef) [(0, .string d), (157, .bool true), (159, undef)] ?_
          refine T_q (some 160) (undef) [(0, .string d), (157, .bool true), (160, undef)] ?_
          refine T_q (some 161) (.bool true) [(0, .string d), (161, .bool true)] ?_
          refine T_q (some 162) (.bool true) [(0, .string d), (162, .bool true)] ?_
          refine T_q (some 163) (undef) [(0, .string d), (162, .bool true), (163, undef)] ?_
          refine T_q (some 164) (undef) [(0, .string d), (162, .bool true), (164, undef)] ?_
          refine T_q (some 165) (undef) [(0, .string d), (162, .bool true), (165, undef)] ?_
          refine T_q (some 166) (.bool true) [(0, .string d), (166, .bool true)] ?_
          refine Q_sub [(0, .string d), (166, .bool true)] sk ?_
          refine T_qe ?_
          refine T_t 166 kk88 kk89 ?_
          refine T_sr 26 kk90 kk91 ?_
          refine T_ne 1 [(2, .bool false)] ?_
          refine S_ret (by kernel_rfl) ?_
          show At _ _ _ _ _ (Q .ret)
          exact S_done (fn := Tryz.f83) [.bool false] hQ (show ResOK _ _ _ [.tmp 2] _ from .tmp (by kernel_rfl) (.nil)) h
         ·rw [if_neg c134] at h
          have b135 : (decide (((aa.toNat : Nat) : Int) < 128)) = false := decide_eq_false c134
          refine Q_env [(0, .string d), (152, .bool false)] (by simp only [b135, Bool.not_true, Bool.not_false]) ?_
          clear b135
          refine T_q (some 153) (.string d) [(0, .string d), (152, .bool false), (153, .string d)] ?_
          obtain ⟨ac, q136, h⟩ := h
          refine Q_op (some 154) (indexN 9 (.string d) (vi 2)) (.int .u8 ((ac.toNat : Nat) : Int)) (fun _=>by kernel_rfl) (fun w _ => indexStr_run (P := Tryz.prog) (t := 9) (s := d) (k := .i64) (i := 2) Tryz.underlying9 q136.1 q136.2 w) [(0, .string d), (152, .bool false), (154, .int .u8 ((ac.toNat : Nat) : Int))] pk ?_
          refine T_q (some 155) (.bool (decide (191 < ((ac.toNat : Nat) : Int)))) [(0, .string d), (152, .bool false), (155, .bool (decide (191 < ((ac.toNat : Nat) : Int))))] ?_
          refine T_q (some 156) (.bool (decide (191 < ((ac.toNat : Nat) : Int)))) [(0, .string d), (156, .bool (decide (191 < ((ac.toNat : Nat) : Int))))] ?_
          refine T_q (some 157) (.bool (decide (191 < ((ac.toNat : Nat) : Int)))) [(0, .string d), (157, .bool (decide (191 < ((ac.toNat : Nat) : Int))))] ?_
          by_cases c137 : 191 < ((ac.toNat : Nat) : Int)
          ·rw [if_pos c137] at h
           have b138 : (decide (191 < ((ac.toNat : Nat) : Int))) = true := decide_eq_true c137
           refine Q_env [(0, .string d), (157, .bool true)] (by simp only [b138, Bool.not_true, Bool.not_false]) ?_
           clear b138
           refine T_q (some 158) (undef) [(0, .string d), (157, .bool true), (158, undef)] ?_
           refine T_q (some 159) (undef) [(0, .string d), (157, .bool true), (159, undef)] ?_
           refine T_q (some 160) (undef) [(0, .string d), (157, .bool true), (160, undef)] ?_
           refine T_q (some 161) (.bool true) [(0, .string d), (161, .bool true)] ?_
           refine T_q (some 162) (.bool true) [(0, .string d), (162, .bool true)] ?_
           refine T_q (some 163) (undef) [(0, .string d), (162, .bool true), (163, undef)] ?_
           refine T_q (some 164) (undef) [(0, .string d), (162, .bool true), (164, undef)] ?_
           refine T_q (some 165) (undef) [(0, .string d), (162, .bool true), (165, undef)] ?_
           refine T_q (some 166) (.bool true) [(0, .string d), (166, .bool true)] ?_
           refine Q_sub [(0, .string d), (166, .bool true)] sk ?_
           refine T_qe ?_
           refine T_t 166 kk88 kk89 ?_
           refine T_sr 26 kk90 kk91 ?_
           refine T_ne 1 [(2, .bool false)] ?_
           refine S_ret (by kernel_rfl) ?_
           show At _ _ _ _ _ (Q .ret)
           exact S_done (fn := Tryz.f83) [.bool false] hQ (show ResOK _ _ _ [.tmp 2] _ from .tmp (by kernel_rfl) (.nil)) h
          ·rw [if_neg c137] at h
           have b138 : (decide (191 < ((ac.toNat : Nat) : Int))) = false := decide_eq_false c137
           refine Q_env [(0, .string d), (157, .bool false)] (by simp only [b138, Bool.not_true, Bool.not_false]) ?_
           clear b138
           refine T_q (some 158) (.string d) [(0, .string d), (157, .bool false), (158, .string d)] ?_
           obtain ⟨af, q139, h⟩ := h
           refine Q_op (some 159) (indexN 9 (.string d) (vi 3)) (.int .u8 ((af.toNat : Nat) : Int)) (fun _=>by kernel_rfl) (fun w _ => indexStr_run (P := Tryz.prog) (t := 9) (s := d) (k := .i64) (i := 3) Tryz.underlying9 q139.1 q139.2 w) [(0, .string d), (157, .bool false), (159, .int .u8 ((af.toNat : Nat) : Int))] pk ?_
           refine T_q (some 160) (.bool (decide (((af.toNat : Nat) : Int) < 128))) [(0, .string d), (157, .bool false), (160, .bool (decide (((af.toNat : Nat) : Int) < 128)))] ?_
           refine T_q (some 161) (.bool (decide (((af.toNat : Nat) : Int) < 128))) [(0, .string d), (161, .bool (decide (((af.toNat : Nat) : Int) < 128)))] ?_
           refine T_q (some 162) (.bool (decide (((af.toNat : Nat) : Int) < 128))) [(0, .string d), (162, .bool (decide (((af.toNat : Nat) : Int) < 128)))] ?_
           by_cases c140 : ((af.toNat : Nat) : Int) < 128
           ·rw [if_pos c140] at h
            have b141 : (decide (((af.toNat : Nat) : Int) < 128)) = true := decide_eq_true c140
            refine Q_env [(0, .string d), (162, .bool true)] (by simp only [b141, Bool.not_true, Bool.not_false]) ?_
            clear b141
            refine T_q (some 163) (undef) [(0, .string d), (162, .bool true), (163, undef)] ?_
            refine T_q (some 164) (undef) [(0, .string d), (162, .bool true), (164, undef)] ?_
            refine T_q (some 165) (undef) [(0, .string d), (162, .bool true), (165, undef)] ?_
            refine T_q (some 166) (.bool true) [(0, .string d), (166, .bool true)] ?_
            refine Q_sub [(0, .string d), (166, .bool true)] sk ?_
            refine T_qe ?_
            refine T_t 166 kk88 kk89 ?_
            refine T_sr 26 kk90 kk91 ?_
            refine T_ne 1 [(2, .bool false)] ?_
            refine S_ret (by kernel_rfl) ?_
            show At _ _ _ _ _ (Q .ret)
            exact S_done (fn := Tryz.f83) [.bool false] hQ (show ResOK _ _ _ [.tmp 2] _ from .tmp (by kernel_rfl) (.nil)) h
           ·rw [if_neg c140] at h
            have b141 : (decide (((af.toNat : Nat) : Int) < 128)) = false := decide_eq_false c140
            refine Q_env [(0, .string d), (162, .bool false)] (by simp only [b141, Bool.not_true, Bool.not_false]) ?_
            clear b141
            refine T_q (some 163) (.string d) [(0, .string d), (162, .bool false), (163, .string d)] ?_
            obtain ⟨al, q142, h⟩ := h
            refine Q_op (some 164) (indexN 9 (.string d) (vi 3)) (.int .u8 ((al.toNat : Nat) : Int)) (fun _=>by kernel_rfl) (fun w _ => indexStr_run (P := Tryz.prog) (t := 9) (s := d) (k := .i64) (i := 3) Tryz.underlying9 q142.1 q142.2 w) [(0, .string d), (162, .bool false), (164, .int .u8 ((al.toNat : Nat) : Int))] pk ?_
            refine T_q (some 165) (.bool (decide (191 < ((al.toNat : Nat) : Int)))) [(0, .string d), (162, .bool false), (165, .bool (decide (191 < ((al.toNat : Nat) : Int))))] ?_
            refine T_q (some 166) (.bool (decide (191 < ((al.toNat : Nat) : Int)))) [(0, .string d), (166, .bool (decide (191 < ((al.toNat : Nat) : Int))))] ?_
            refine Q_sub [(0, .string d), (166, .bool (decide (191 < ((al.toNat : Nat) : Int))))] sk ?_
            refine T_qe ?_
            by_cases c143 : 191 < ((al.toNat : Nat) : Int)
            ·rw [if_pos c143] at h
             have b144 : (decide (191 < ((al.toNat : Nat) : Int))) = true := decide_eq_true c143
             refine T_cT 166 kk88 kk89 b144 ?_
             refine T_sr 26 kk90 kk91 ?_
             refine T_ne 1 [(2, .bool false)] ?_
             refine S_ret (by kernel_rfl) ?_
             show At _ _ _ _ _ (Q .ret)
             exact S_done (fn := Tryz.f83) [.bool false] hQ (show ResOK _ _ _ [.tmp 2] _ from .tmp (by kernel_rfl) (.nil)) h
            ·rw [if_neg c143] at h
             have b144 : (decide (191 < ((al.toNat : Nat) : Int))) = false := decide_eq_false c143
             refine S_env [(0, .string d), (166, .bool false)] (by simp only [b144, Bool.not_true, Bool.not_false]) ?_
             clear b144
             refine T_f 166 kk88 kk89 ?_
             refine T_kt ?_
             refine T_r 27 kk85 ?_
             refine T_n 1 [(167, .string d)] ?_
             obtain ⟨ap, ae, q145, q146, q147, q148, h⟩ := h
             refine T_v (some 168) (sliceN 9 (.string d) (some (vi 4)) none none) (.string (d.extract ap ae)) (fun w _ => sliceStr_run (P := Tryz.prog) (t := 9) (s := d) (some (vi 4)) none ap ae Tryz.underlying9 (.inr ⟨.i64, by rw [q145]⟩) (.inl ⟨rfl, q146⟩) q147 q148 w) [(168, .string (d.extract ap ae))] ?_
             refine T_n 1 [(0, .string (d.extract ap ae))] ?_
             refine N_end (by kernel_rfl) ?_
             refine S_blockEnd ?_
             refine S_blockEnd ?_
             refine S_then ?_
             exact S_round ((d.extract ap ae) : ByteArray) sk h
     ·rw [if_neg c121] at h
      have b122 : ((IntKind.wrap .i64 (iand .u8 j 7)) == 4) = false := beq_eq_false_iff_ne.mpr c121
      refine S_env [(0, .string d), (6, vp (pa b)), (128, .bool false)] (by simp only [b122, Bool.not_true, Bool.not_false]) ?_
      clear b122
      refine T_f 128 kk82 kk83 ?_
      refine T_sr 15 kk92 kk93 ?_
      refine T_ne 1 [(2, .bool false)] ?_
      refine S_ret (by kernel_rfl) ?_
      show At _ _ _ _ _ (Q .ret)
      exact S_done (fn := Tryz.f83) [.bool false] hQ (show ResOK _ _ _ [.tmp 2] _ from .tmp (by kernel_rfl) (.nil)) h
 ·rw [if_neg c4] at h
  have b5 : (decide ((d.size : Int) > 0)) = false := decide_eq_false c4
  refine S_env [(0, .string d), (9, .bool false)] (by simp only [b5, Bool.not_true, Bool.not_false]) ?_
  clear b5
  refine T_f 9 kk11 kk12 ?_
  refine S_exit 0 (by kernel_rfl) ?_
  refine S_exitThen ?_
  refine S_exitThen ?_
  refine S_exitHere ?_
  refine S_then ?_
  refine T_sr 28 kk94 kk95 ?_
  refine T_ne 1 [(2, .bool true)] ?_
  refine S_ret (by kernel_rfl) ?_
  show At _ _ _ _ _ (Q .ret)
  exact S_done (fn := Tryz.f83) [.bool true] hQ (show ResOK _ _ _ [.tmp 2] _ from .tmp (by kernel_rfl) (.nil)) h
end unicode_utf8_ValidString

/-! unicode/utf8.RuneCountInString -/
namespace unicode_utf8_RuneCountInString
def kk0 := Func.code Tryz.f84
def kk1 := Code.fa kk0
def kk2 := Code.fb kk0
def kk3 := Code.fa kk2
def kk4 := Code.fb kk2
def kk5 := Code.fa kk3
def kk6 := Code.fb kk3
def kk7 := Code.fa kk6
def kk8 := Code.fa kk7
def kk9 := Code.fa kk8
def kk10 := Code.fb kk8
def kk11 := Code.fa kk10
def kk12 := Code.fb kk10
def kk13 := Code.fa kk11
def kk14 := Code.fb kk11
def kk15 := Code.fa kk12
def kk16 := Code.fa kk4
def kk17 := Code.fb kk4
end unicode_utf8_RuneCountInString
def unicode_utf8_RuneCountInString.pt (s : ByteArray) (H : Array Obj) (R : Value → Array Obj → Prop) : Prop :=
 ∀ (b : Nat) (H1 : Array Obj), b = H.size → H1 = H.push (.stringIter s 0) →
 ∃ (I9 : Int → Array Obj → Prop) (m9 : Int → Array Obj → Nat), I9 0 H1 ∧ ∀ (nv : Int) (H2 : Array Obj), I9 nv H2 →
 ∃ (a : ByteArray) (pos : Nat), H2[b]? = some (.stringIter a pos) ∧
 if pos < a.size then (∀ H3 : Array Obj, H3 = setBlk H2 b (.stringIter a (pos + (Utf8.decode a pos).2)) →
 (I9 (IntKind.wrap .i64 (nv + 1)) H3 ∧ m9 (IntKind.wrap .i64 (nv + 1)) H3 < m9 nv H2))
 else
 R (.int .i64 nv) H2
namespace unicode_utf8_RuneCountInString
set_option maxRecDepth 100000 in
theorem link {s : ByteArray} {H : Array Obj} {R : Value → Array Obj → Prop} (h : pt s H R) : C s H R := by
 refine S_enter (fn := Tryz.f84) (c := kk0) 10 Tryz.func84 (by kernel_rfl) (by kernel_rfl) (Nat.le_of_ble_eq_true (by kernel_rfl)) ?_
 intro w0 Q hQ
 unfold pt at h
 refine T_su [(0, .string s)] ?_
 refine T_sr 0 kk1 kk2 ?_
 refine T_ne 1 [(0, .string s), (2, vi 0)] ?_
 refine T_s kk3 kk4 ?_
 refine T_sr 1 kk5 kk6 ?_
 refine T_n 1 [(2, vi 0), (3, .string s)] ?_
 refine N_new (some 4) (fun b => vp (pa b)) (.stringIter s 0) (fun _=>by kernel_rfl) ?_
 intro b H1 e1 e2
 replace h := h b H1 e1 e2
 refine ⟨[(2, vi 0), (4, vp (pa b))], pk, ?_⟩
 refine T_e ?_
 refine T_b 0 kk7 ?_
 obtain ⟨I9, m9, i3, i4⟩ := h
 refine S_loop (x := kk8) (σ := Int) (fun s_ => [(2, vi s_), (4, vp (pa b))]) (fun s_ H => I9 s_ H) (fun s_ H => m9 s_ H) (0 : Int) (by kernel_rfl) i3 sk ?_
 rintro nv H2 i5
 have h := i4 nv H2 i5
 refine T_su [(2, vi nv), (4, vp (pa b))] ?_
 refine T_sr 2 kk9 kk10 ?_
 obtain ⟨a, pos, q6, h⟩ := h
 by_cases c7 : pos < a.size
 ·rw [if_pos c7] at h
  refine N_op (some 5) (nextN (vp (pa b)) true 0) _ (fun _=>by kernel_rfl) (next_go q6 c7) ?_
  rintro _ H3 ⟨rfl, e8⟩
  replace h := h H3 (by assumption)
  refine ⟨[(2, vi nv), (4, vp (pa b)), (5, .tuple #[.bool true, vi pos, .int .i32 ((Utf8.decode a pos).1 : Int)])], pk, ?_⟩
  refine T_ne 1 [(2, vi nv), (4, vp (pa b)), (6, .bool true)] ?_
  refine T_s kk11 kk12 ?_
  refine T_t 6 kk13 kk14 ?_
  refine T_kt ?_
  refine T_b 1 kk15 ?_
  refine T_r 3 kk15 ?_
  refine T_n 3 [(2, vi (IntKind.wrap .i64 (nv + 1))), (4, vp (pa b))] ?_
  refine N_end (by kernel_rfl) ?_
  refine S_blockEnd ?_
  refine S_then ?_
  exact S_round ((IntKind.wrap .i64 (nv + 1)) : Int) sk h
 ·rw [if_neg c7] at h
  refine N_op (some 5) (nextN (vp (pa b)) true 0) _ (fun _=>by kernel_rfl) (next_end q6 c7) ?_
  rintro _ _ ⟨rfl, rfl⟩
  refine ⟨[(2, vi nv), (4, vp (pa b)), (5, .tuple #[.bool false])], pk, ?_⟩
  refine T_ne 1 [(2, vi nv), (4, vp (pa b)), (6, .bool false)] ?_
  refine T_s kk11 kk12 ?_
  refine T_f 6 kk13 kk14 ?_
  refine S_exit 0 (by kernel_rfl) ?_
  refine S_exitThen ?_
  refine S_exitThen ?_
  refine S_exitHere ?_
  refine S_then ?_
  refine T_sr 4 kk16 kk17 ?_
  refine T_ne 2 [(2, vi nv)] ?_
  refine S_ret (by kernel_rfl) ?_
  show At _ _ _ _ _ (Q .ret)
  exact S_done (fn := Tryz.f84) [vi nv] hQ (show ResOK _ _ _ [.tmp 2] _ from .tmp (by kernel_rfl) (.nil)) h
end unicode_utf8_RuneCountInString

/-! unicode/utf8.word[string] -/
end Go.Proofs.YthlohokmnajpoaaGreatDoor
