/-
 Written by a program of mine (gen.py): for functions of this translation a predicate transformer over heaps (.pt), and the proof that it is sound for the call (.link).
-/
import Derived.Test.YtillpfaabdlaiaaDoorFnsC
set_option linter.unusedSimpArgs false
set_option linter.unusedVariables false
set_option maxHeartbeats 1000000
noncomputable section
namespace Go.Proofs.YtillpfaabdlaiaaDoor
open Go
/-! moraine/moraineref03.Runes -/
namespace moraineref03_Runes
def kk0 := Func.code Tryd.f19
def kk1 := Code.fa kk0
def kk2 := Code.fb kk0
def kk3 := Code.fa kk2
def kk4 := Code.fb kk2
def kk5 := Code.fa kk4
def kk6 := Code.fb kk4
def kk7 := Code.fa kk5
def kk8 := Code.fb kk5
def kk9 := Code.fa kk8
def kk10 := Code.fa kk9
def kk11 := Code.fa kk10
def kk12 := Code.fb kk10
def kk13 := Code.fa kk11
def kk14 := Code.fb kk11
def kk15 := Code.fa kk14
def kk16 := Code.fb kk14
def kk17 := Code.fa kk12
def kk18 := Code.fa kk17
def kk19 := Code.fb kk17
def kk20 := Code.fa kk19
def kk21 := Code.fb kk19
def kk22 := Code.fa kk20
def kk23 := Code.fa kk22
def kk24 := Code.fb kk22
def kk25 := Code.fa kk24
def kk26 := Code.fb kk24
def kk27 := Code.fa kk21
def kk28 := Code.fb kk21
def kk29 := Code.fa kk27
def kk30 := Code.fb kk27
def kk31 := Code.fa kk30
def kk32 := Code.fb kk30
def kk33 := Code.fa kk31
def kk34 := Code.fb kk31
def kk35 := Code.fa kk28
def kk36 := Code.fb kk28
def kk37 := Code.fa kk35
def kk38 := Code.fb kk35
def kk39 := Code.fa kk38
def kk40 := Code.fa kk39
def kk41 := Code.fa kk40
def kk42 := Code.fb kk40
def kk43 := Code.fa kk41
def kk44 := Code.fb kk41
def kk45 := Code.fa kk44
def kk46 := Code.fb kk44
def kk47 := Code.fa kk42
def kk48 := Code.fb kk42
def kk49 := Code.fa kk47
def kk50 := Code.fa kk49
def kk51 := Code.fb kk49
def kk52 := Code.fa kk50
def kk53 := Code.fb kk50
def kk54 := Code.fa kk53
def kk55 := Code.fb kk53
def kk56 := Code.fa kk54
def kk57 := Code.fb kk54
def kk58 := Code.fa kk36
def kk59 := Code.fb kk36
def kk60 := Code.fa kk58
def kk61 := Code.fb kk58
def kk62 := Code.fa kk61
def kk63 := Code.fb kk61
def kk64 := Code.fa kk62
def kk65 := Code.fb kk62
def kk66 := Code.fa kk59
def kk67 := Code.fb kk59
def kk68 := Code.fa kk26
def kk69 := Code.fb kk26
def kk70 := Code.fa kk69
def kk71 := Code.fb kk69
def kk72 := Code.fa kk71
def kk73 := Code.fb kk71
def kk74 := Code.fa kk73
def kk75 := Code.fb kk73
def kk76 := Code.fa kk75
def kk77 := Code.fb kk75
def kk78 := Code.fa kk77
def kk79 := Code.fb kk77
def kk80 := Code.fa kk79
def kk81 := Code.fb kk79
def kk82 := Code.fa kk6
def kk83 := Code.fb kk6
end moraineref03_Runes
set_option maxRecDepth 100000 in def moraineref03_Runes.pt (s : ByteArray) (H : Array Obj) (R : Value → Array Obj → Prop) : Prop :=
 ∃ (y : (Option Addr) → Nat → Nat → Int → Array Obj → Prop) (m11 : (Option Addr) → Nat → Nat → Int → Array Obj → Nat), y none 0 0 0 H ∧ ∀ (a : Option Addr) (outN : Nat) (outC : Nat) (i : Int) (H1 : Array Obj), y a outN outC i H1 →
 if i < (s.size : Int) then (
 ∃ c : UInt8, ((0 : Int) ≤ i ∧ s[Int.toNat i]? = some c) ∧
 ∃ J : Int → Int → Array Obj → Prop, (
 if (IntKind.wrap .i32 ((c.toNat : Nat) : Int)) < 128 then (
 J 1 (IntKind.wrap .i32 ((c.toNat : Nat) : Int)) H1)
 else
 if ((decide ((IntKind.wrap .i32 ((c.toNat : Nat) : Int)) ≥ 194)) && (decide ((IntKind.wrap .i32 ((c.toNat : Nat) : Int)) < 224))) = true then (
 J 2 (iand .i32 (IntKind.wrap .i32 ((c.toNat : Nat) : Int)) 31) H1)
 else
 if ((decide ((IntKind.wrap .i32 ((c.toNat : Nat) : Int)) ≥ 224)) && (decide ((IntKind.wrap .i32 ((c.toNat : Nat) : Int)) < 240))) = true then (
 J 3 (iand .i32 (IntKind.wrap .i32 ((c.toNat : Nat) : Int)) 15) H1)
 else
 if ((decide ((IntKind.wrap .i32 ((c.toNat : Nat) : Int)) ≥ 240)) && (decide ((IntKind.wrap .i32 ((c.toNat : Nat) : Int)) < 245))) = true then (
 J 4 (iand .i32 (IntKind.wrap .i32 ((c.toNat : Nat) : Int)) 7) H1)
 else
 R (.tuple #[.slice none 0 0, .bool false]) H1) ∧ ∀ (nv : Int) (c_2 : Int) (H2 : Array Obj), J nv c_2 H2 →
 if (IntKind.wrap .i64 (i + nv)) > (s.size : Int) then (
 R (.tuple #[.slice none 0 0, .bool false]) H2)
 else
 ∃ (ad : Int → Int → Array Obj → Prop) (m41 : Int → Int → Array Obj → Nat), ad c_2 1 H2 ∧ ∀ (d : Int) (k : Int) (H3 : Array Obj), ad d k H3 →
 if k < nv then (
 ∃ u : UInt8, ((0 : Int) ≤ (IntKind.wrap .i64 (i + k)) ∧ s[Int.toNat (IntKind.wrap .i64 (i + k))]? = some u) ∧
 if (iand .u8 ((u.toNat : Nat) : Int) 192) = 128 then (
 ∃ r : UInt8, ((0 : Int) ≤ (IntKind.wrap .i64 (i + k)) ∧ s[Int.toNat (IntKind.wrap .i64 (i + k))]? = some r) ∧
 (ad (ior .i32 (ishl .i32 d 6) (IntKind.wrap .i32 (iand .u8 ((r.toNat : Nat) : Int) 63))) (IntKind.wrap .i64 (k + 1)) H3 ∧ m41 (ior .i32 (ishl .i32 d 6) (IntKind.wrap .i32 (iand .u8 ((r.toNat : Nat) : Int) 63))) (IntKind.wrap .i64 (k + 1)) H3 < m41 d k H3))
 else
 R (.tuple #[.slice none 0 0, .bool false]) H3)
 else
 if nv = 3 then (
 if d < 2048 then (
 R (.tuple #[.slice none 0 0, .bool false]) H3)
 else
 if nv = 4 then (
 if d < 65536 then (
 R (.tuple #[.slice none 0 0, .bool false]) H3)
 else
 moraineref03_Char.C d H3 (fun v H4 => ∃ x : Bool, v = .bool x ∧ 
 if x = true then (
 ∀ (b : Nat) (H5 : Array Obj), b = H4.size → H5 = H4.push (.cells #[.int .i32 d] 21) →
 appendK 1 21 4 [.int .i32 0] a outN outC (some (Addr.mk b 0 none)) 1 H5 (fun ap z H6 =>
 (y ap (outN + 1) z (IntKind.wrap .i64 (i + nv)) H6 ∧ m11 ap (outN + 1) z (IntKind.wrap .i64 (i + nv)) H6 < m11 a outN outC i H1)))
 else
 R (.tuple #[.slice none 0 0, .bool false]) H4))
 else
 moraineref03_Char.C d H3 (fun aj H7 => ∃ j : Bool, aj = .bool j ∧ 
 if j = true then (
 ∀ (ac : Nat) (H8 : Array Obj), ac = H7.size → H8 = H7.push (.cells #[.int .i32 d] 21) →
 appendK 1 21 4 [.int .i32 0] a outN outC (some (Addr.mk ac 0 none)) 1 H8 (fun p e H9 =>
 (y p (outN + 1) e (IntKind.wrap .i64 (i + nv)) H9 ∧ m11 p (outN + 1) e (IntKind.wrap .i64 (i + nv)) H9 < m11 a outN outC i H1)))
 else
 R (.tuple #[.slice none 0 0, .bool false]) H7))
 else
 if nv = 4 then (
 if d < 65536 then (
 R (.tuple #[.slice none 0 0, .bool false]) H3)
 else
 moraineref03_Char.C d H3 (fun ai af => ∃ l : Bool, ai = .bool l ∧ 
 if l = true then (
 ∀ (ab : Nat) (H11 : Array Obj), ab = af.size → H11 = af.push (.cells #[.int .i32 d] 21) →
 appendK 1 21 4 [.int .i32 0] a outN outC (some (Addr.mk ab 0 none)) 1 H11 (fun q f ag =>
 (y q (outN + 1) f (IntKind.wrap .i64 (i + nv)) ag ∧ m11 q (outN + 1) f (IntKind.wrap .i64 (i + nv)) ag < m11 a outN outC i H1)))
 else
 R (.tuple #[.slice none 0 0, .bool false]) af))
 else
 moraineref03_Char.C d H3 (fun ak ae => ∃ m : Bool, ak = .bool m ∧ 
 if m = true then (
 ∀ (aa : Nat) (H14 : Array Obj), aa = ae.size → H14 = ae.push (.cells #[.int .i32 d] 21) →
 appendK 1 21 4 [.int .i32 0] a outN outC (some (Addr.mk aa 0 none)) 1 H14 (fun o g ah =>
 (y o (outN + 1) g (IntKind.wrap .i64 (i + nv)) ah ∧ m11 o (outN + 1) g (IntKind.wrap .i64 (i + nv)) ah < m11 a outN outC i H1)))
 else
 R (.tuple #[.slice none 0 0, .bool false]) ae))
 else
 R (.tuple #[.slice a outN outC, .bool true]) H1
namespace moraineref03_Runes
set_option maxRecDepth 100000 in
theorem link {s : ByteArray} {H : Array Obj} {R : Value → Array Obj → Prop} (h : pt s H R) : C s H R := by
 refine S_enter (fn := Tryd.f19) (c := kk0) 102 Tryd.func19 (by kernel_rfl) (by kernel_rfl) (Nat.le_of_ble_eq_true (by kernel_rfl)) ?_
 intro w0 Q hQ
 unfold pt at h
 refine T_su [(0, .string s)] ?_
 refine T_sr 0 kk1 kk2 ?_
 refine T_ne 2 [(0, .string s)] ?_
 refine T_sr 1 kk3 kk4 ?_
 refine T_ne 1 [(0, .string s), (4, vs none 0 0)] ?_
 refine T_s kk5 kk6 ?_
 refine T_sr 2 kk7 kk8 ?_
 refine T_ne 1 [(0, .string s), (4, vs none 0 0), (5, vi 0)] ?_
 refine T_b 0 kk9 ?_
 obtain ⟨y, m11, i1, i2⟩ := h
 refine S_loop (x := kk10) (σ := (Option Addr) × Nat × Nat × Int) (fun s_ => [(0, .string s), (4, vs s_.1 s_.2.1 s_.2.2.1), (5, vi s_.2.2.2)]) (fun s_ H => y s_.1 s_.2.1 s_.2.2.1 s_.2.2.2 H) (fun s_ H => m11 s_.1 s_.2.1 s_.2.2.1 s_.2.2.2 H) ((none, 0, 0, 0) : (Option Addr) × Nat × Nat × Int) (by kernel_rfl) i1 sk ?_
 rintro ⟨a, outN, outC, i⟩ H1 i3
 have h := i2 a outN outC i H1 i3
 refine T_su [(0, .string s), (4, vs a outN outC), (5, vi i)] ?_
 refine T_s kk11 kk12 ?_
 refine T_sr 3 kk13 kk14 ?_
 refine T_ne 4 [(0, .string s), (4, vs a outN outC), (5, vi i), (12, .bool (decide (i < (s.size : Int))))] ?_
 by_cases c4 : i < (s.size : Int)
 ·rw [if_pos c4] at h
  have b5 : (decide (i < (s.size : Int))) = true := decide_eq_true c4
  refine S_env [(0, .string s), (4, vs a outN outC), (5, vi i), (12, .bool true)] (by simp only [b5, Bool.not_true, Bool.not_false]) ?_
  clear b5
  refine T_t 12 kk15 kk16 ?_
  refine T_kt ?_
  refine T_b 1 kk17 ?_
  refine T_s kk18 kk19 ?_
  refine T_rq 4 kk18 ?_
  refine T_q (some 13) (.string s) [(0, .string s), (4, vs a outN outC), (5, vi i), (13, .string s)] ?_
  refine T_q (some 14) (vi i) [(0, .string s), (4, vs a outN outC), (5, vi i), (13, .string s), (14, vi i)] ?_
  obtain ⟨c, q6, h⟩ := h
  refine Q_op (some 15) (indexN 9 (.string s) (vi i)) (.int .u8 ((c.toNat : Nat) : Int)) (fun _=>by kernel_rfl) (fun w _ => indexStr_run (P := Tryd.prog) (t := 9) (s := s) (k := .i64) (i := i) Tryd.underlying9 q6.1 q6.2 w) [(0, .string s), (4, vs a outN outC), (5, vi i), (15, .int .u8 ((c.toNat : Nat) : Int))] pk ?_
  refine T_q (some 16) (.int .i32 (IntKind.wrap .i32 ((c.toNat : Nat) : Int))) [(0, .string s), (4, vs a outN outC), (5, vi i), (16, .int .i32 (IntKind.wrap .i32 ((c.toNat : Nat) : Int)))] ?_
  refine T_q (some 6) (vi 1) [(0, .string s), (4, vs a outN outC), (5, vi i), (6, vi 1), (16, .int .i32 (IntKind.wrap .i32 ((c.toNat : Nat) : Int)))] ?_
  refine T_q (some 7) (.int .i32 (IntKind.wrap .i32 ((c.toNat : Nat) : Int))) [(0, .string s), (4, vs a outN outC), (5, vi i), (6, vi 1), (7, .int .i32 (IntKind.wrap .i32 ((c.toNat : Nat) : Int)))] ?_
  refine Q_sub [(0, .string s), (4, vs a outN outC), (5, vi i), (6, vi 1), (7, .int .i32 (IntKind.wrap .i32 ((c.toNat : Nat) : Int)))] sk ?_
  refine T_qe ?_
  refine T_s kk20 kk21 ?_
  refine T_b 2 kk22 ?_
  refine T_sr 6 kk23 kk24 ?_
  refine T_ne 3 [(0, .string s), (4, vs a outN outC), (5, vi i), (6, vi 1), (7, .int .i32 (IntKind.wrap .i32 ((c.toNat : Nat) : Int))), (17, .bool (decide ((IntKind.wrap .i32 ((c.toNat : Nat) : Int)) < 128)))] ?_
  obtain ⟨J, h, j8⟩ := h
  refine S_join (σ := Int × Int) (fun s_ => [(0, .string s), (4, vs a outN outC), (5, vi i), (6, vi s_.1), (7, .int .i32 s_.2)]) (fun s_ H => J s_.1 s_.2 H) ?_ ?_
  ·rintro ⟨nv, c_2⟩ H2 j9
   replace h := j8 nv c_2 H2 j9
   refine T_su [(0, .string s), (4, vs a outN outC), (5, vi i), (6, vi nv), (7, .int .i32 c_2)] ?_
   refine S_blockEnd ?_
   refine S_then ?_
   refine T_s kk27 kk28 ?_
   refine T_sr 13 kk29 kk30 ?_
   refine T_ne 6 [(0, .string s), (4, vs a outN outC), (5, vi i), (6, vi nv), (7, .int .i32 c_2), (52, .bool (decide ((IntKind.wrap .i64 (i + nv)) > (s.size : Int))))] ?_
   by_cases c10 : (IntKind.wrap .i64 (i + nv)) > (s.size : Int)
   ·rw [if_pos c10] at h
    have b11 : (decide ((IntKind.wrap .i64 (i + nv)) > (s.size : Int))) = true := decide_eq_true c10
    refine S_env [(0, .string s), (4, vs a outN outC), (5, vi i), (6, vi nv), (7, .int .i32 c_2), (52, .bool true)] (by simp only [b11, Bool.not_true, Bool.not_false]) ?_
    clear b11
    refine T_t 52 kk31 kk32 ?_
    refine T_sr 14 kk33 kk34 ?_
    refine T_ne 2 [(2, vs none 0 0), (3, .bool false)] ?_
    refine S_ret (by kernel_rfl) ?_
    show At _ _ _ _ _ (Q .ret)
    exact S_done (fn := Tryd.f19) [vs none 0 0, .bool false] hQ (show ResOK _ _ _ [.tmp 2, .tmp 3] _ from .tmp (by kernel_rfl) (.tmp (by kernel_rfl) (.nil))) h
   ·rw [if_neg c10] at h
    have b11 : (decide ((IntKind.wrap .i64 (i + nv)) > (s.size : Int))) = false := decide_eq_false c10
    refine S_env [(0, .string s), (4, vs a outN outC), (5, vi i), (6, vi nv), (7, .int .i32 c_2), (52, .bool false)] (by simp only [b11, Bool.not_true, Bool.not_false]) ?_
    clear b11
    refine T_f 52 kk31 kk32 ?_
    refine T_kt ?_
    refine T_s kk35 kk36 ?_
    refine T_sr 15 kk37 kk38 ?_
    refine T_ne 1 [(0, .string s), (4, vs a outN outC), (5, vi i), (6, vi nv), (7, .int .i32 c_2), (8, vi 1)] ?_
    refine T_b 3 kk39 ?_
    obtain ⟨ad, m41, i12, i13⟩ := h
    refine S_loop (x := kk40) (σ := Int × Int) (fun s_ => [(0, .string s), (4, vs a outN outC), (5, vi i), (6, vi nv), (7, .int .i32 s_.1), (8, vi s_.2)]) (fun s_ H => ad s_.1 s_.2 H) (fun s_ H => m41 s_.1 s_.2 H) ((c_2, 1) : Int × Int) (by kernel_rfl) i12 sk ?_
    rintro ⟨d, k⟩ H3 i14
    have h := i13 d k H3 i14
    refine T_su [(0, .string s), (4, vs a outN outC), (5, vi i), (6, vi nv), (7, .int .i32 d), (8, vi k)] ?_
    refine T_s kk41 kk42 ?_
    refine T_sr 16 kk43 kk44 ?_
    refine T_ne 3 [(0, .string s), (4, vs a outN outC), (5, vi i), (6, vi nv), (7, .int .i32 d), (8, vi k), (55, .bool (decide (k < nv)))] ?_
    by_cases c15 : k < nv
    ·rw [if_pos c15] at h
     have b16 : (decide (k < nv)) = true := decide_eq_true c15
     refine S_env [(0, .string s), (4, vs a outN outC), (5, vi i), (6, vi nv), (7, .int .i32 d), (8, vi k), (55, .bool true)] (by simp only [b16, Bool.not_true, Bool.not_false]) ?_
     clear b16
     refine T_t 55 kk45 kk46 ?_
     refine T_kt ?_
     refine T_s kk47 kk48 ?_
     refine T_b 4 kk49 ?_
     refine T_s kk50 kk51 ?_
     refine T_sr 18 kk52 kk53 ?_
     refine T_n 4 [(0, .string s), (4, vs a outN outC), (5, vi i), (6, vi nv), (7, .int .i32 d), (8, vi k), (58, .string s), (61, vi (IntKind.wrap .i64 (i + k)))] ?_
     obtain ⟨u, q17, h⟩ := h
     refine T_v (some 62) (indexN 9 (.string s) (vi (IntKind.wrap .i64 (i + k)))) (.int .u8 ((u.toNat : Nat) : Int)) (fun w _ => indexStr_run (P := Tryd.prog) (t := 9) (s := s) (k := .i64) (i := (IntKind.wrap .i64 (i + k))) Tryd.underlying9 q17.1 q17.2 w) [(0, .string s), (4, vs a outN outC), (5, vi i), (6, vi nv), (7, .int .i32 d), (8, vi k), (62, .int .u8 ((u.toNat : Nat) : Int))] ?_
     refine T_ne 2 [(0, .string s), (4, vs a outN outC), (5, vi i), (6, vi nv), (7, .int .i32 d), (8, vi k), (64, .bool ((iand .u8 ((u.toNat : Nat) : Int) 192) != 128))] ?_
     by_cases c18 : (iand .u8 ((u.toNat : Nat) : Int) 192) = 128
     ·rw [if_pos c18] at h
      have b19 : ((iand .u8 ((u.toNat : Nat) : Int) 192) != 128) = false := bne_eq_false_iff_eq.mpr c18
      refine S_env [(0, .string s), (4, vs a outN outC), (5, vi i), (6, vi nv), (7, .int .i32 d), (8, vi k), (64, .bool false)] (by simp only [b19, Bool.not_true, Bool.not_false]) ?_
      clear b19
      refine T_f 64 kk54 kk55 ?_
      refine T_kt ?_
      refine T_r 20 kk51 ?_
      refine T_n 6 [(0, .string s), (4, vs a outN outC), (5, vi i), (6, vi nv), (8, vi k), (66, .int .i32 (ishl .i32 d 6)), (67, .string s), (70, vi (IntKind.wrap .i64 (i + k)))] ?_
      obtain ⟨r, q20, h⟩ := h
      refine T_v (some 71) (indexN 9 (.string s) (vi (IntKind.wrap .i64 (i + k)))) (.int .u8 ((r.toNat : Nat) : Int)) (fun w _ => indexStr_run (P := Tryd.prog) (t := 9) (s := s) (k := .i64) (i := (IntKind.wrap .i64 (i + k))) Tryd.underlying9 q20.1 q20.2 w) [(0, .string s), (4, vs a outN outC), (5, vi i), (6, vi nv), (8, vi k), (66, .int .i32 (ishl .i32 d 6)), (71, .int .u8 ((r.toNat : Nat) : Int))] ?_
      refine T_n 4 [(0, .string s), (4, vs a outN outC), (5, vi i), (6, vi nv), (7, .int .i32 (ior .i32 (ishl .i32 d 6) (IntKind.wrap .i32 (iand .u8 ((r.toNat : Nat) : Int) 63)))), (8, vi k)] ?_
      refine N_end (by kernel_rfl) ?_
      refine S_blockEnd ?_
      refine S_then ?_
      refine T_r 17 kk48 ?_
      refine T_ne 3 [(0, .string s), (4, vs a outN outC), (5, vi i), (6, vi nv), (7, .int .i32 (ior .i32 (ishl .i32 d 6) (IntKind.wrap .i32 (iand .u8 ((r.toNat : Nat) : Int) 63)))), (8, vi (IntKind.wrap .i64 (k + 1)))] ?_
      exact S_round (((ior .i32 (ishl .i32 d 6) (IntKind.wrap .i32 (iand .u8 ((r.toNat : Nat) : Int) 63))), (IntKind.wrap .i64 (k + 1))) : Int × Int) sk h
     ·rw [if_neg c18] at h
      have b19 : ((iand .u8 ((u.toNat : Nat) : Int) 192) != 128) = true := bne_iff_ne.mpr c18
      refine S_env [(0, .string s), (4, vs a outN outC), (5, vi i), (6, vi nv), (7, .int .i32 d), (8, vi k), (64, .bool true)] (by simp only [b19, Bool.not_true, Bool.not_false]) ?_
      clear b19
      refine T_t 64 kk54 kk55 ?_
      refine T_sr 19 kk56 kk57 ?_
      refine T_ne 2 [(2, vs none 0 0), (3, .bool false)] ?_
      refine S_ret (by kernel_rfl) ?_
      show At _ _ _ _ _ (Q .ret)
      exact S_done (fn := Tryd.f19) [vs none 0 0, .bool false] hQ (show ResOK _ _ _ [.tmp 2, .tmp 3] _ from .tmp (by kernel_rfl) (.tmp (by kernel_rfl) (.nil))) h
    ·rw [if_neg c15] at h
     have b16 : (decide (k < nv)) = false := decide_eq_false c15
     refine S_env [(0, .string s), (4, vs a outN outC), (5, vi i), (6, vi nv), (7, .int .i32 d), (8, vi k), (55, .bool false)] (by simp only [b16, Bool.not_true, Bool.not_false]) ?_
     clear b16
     refine T_f 55 kk45 kk46 ?_
     refine S_exit 3 (by kernel_rfl) ?_
     refine S_exitThen ?_
     refine S_exitThen ?_
     refine S_exitHere ?_
     refine S_then ?_
     refine T_s kk58 kk59 ?_
     refine T_sr 21 kk60 kk61 ?_
     refine T_n 3 [(0, .string s), (4, vs a outN outC), (5, vi i), (6, vi nv), (7, .int .i32 d), (77, .bool (nv == 3))] ?_
     by_cases c21 : nv = 3
     ·rw [if_pos c21] at h
      have b22 : (nv == 3) = true := beq_iff_eq.mpr c21
      refine N_env [(0, .string s), (4, vs a outN outC), (5, vi i), (6, vi nv), (7, .int .i32 d), (77, .bool true)] (by simp only [b22, Bool.not_true, Bool.not_false]) ?_
      clear b22
      refine T_n 4 [(0, .string s), (4, vs a outN outC), (5, vi i), (6, vi nv), (7, .int .i32 d), (81, .bool (decide (d < 2048)))] ?_
      by_cases c23 : d < 2048
      ·rw [if_pos c23] at h
       have b24 : (decide (d < 2048)) = true := decide_eq_true c23
       refine N_env [(0, .string s), (4, vs a outN outC), (5, vi i), (6, vi nv), (7, .int .i32 d), (81, .bool true)] (by simp only [b24, Bool.not_true, Bool.not_false]) ?_
       clear b24
       refine T_ne 12 [(0, .string s), (4, vs a outN outC), (5, vi i), (6, vi nv), (7, .int .i32 d), (93, .bool true)] ?_
       refine T_t 93 kk62 kk63 ?_
       refine T_sr 22 kk64 kk65 ?_
       refine T_ne 2 [(2, vs none 0 0), (3, .bool false)] ?_
       refine S_ret (by kernel_rfl) ?_
       show At _ _ _ _ _ (Q .ret)
       exact S_done (fn := Tryd.f19) [vs none 0 0, .bool false] hQ (show ResOK _ _ _ [.tmp 2, .tmp 3] _ from .tmp (by kernel_rfl) (.tmp (by kernel_rfl) (.nil))) h
      ·rw [if_neg c23] at h
       have b24 : (decide (d < 2048)) = false := decide_eq_false c23
       refine N_env [(0, .string s), (4, vs a outN outC), (5, vi i), (6, vi nv), (7, .int .i32 d), (81, .bool false)] (by simp only [b24, Bool.not_true, Bool.not_false]) ?_
       clear b24
       refine T_n 3 [(0, .string s), (4, vs a outN outC), (5, vi i), (6, vi nv), (7, .int .i32 d), (81, .bool false), (84, .bool (nv == 4))] ?_
       by_cases c25 : nv = 4
       ·rw [if_pos c25] at h
        have b26 : (nv == 4) = true := beq_iff_eq.mpr c25
        refine N_env [(0, .string s), (4, vs a outN outC), (5, vi i), (6, vi nv), (7, .int .i32 d), (81, .bool false), (84, .bool true)] (by simp only [b26, Bool.not_true, Bool.not_false]) ?_
        clear b26
        refine T_n 5 [(0, .string s), (4, vs a outN outC), (5, vi i), (6, vi nv), (7, .int .i32 d), (89, .bool (decide (d < 65536)))] ?_
        by_cases c27 : d < 65536
        ·rw [if_pos c27] at h
         have b28 : (decide (d < 65536)) = true := decide_eq_true c27
         refine N_env [(0, .string s), (4, vs a outN outC), (5, vi i), (6, vi nv), (7, .int .i32 d), (89, .bool true)] (by simp only [b28, Bool.not_true, Bool.not_false]) ?_
         clear b28
         refine T_ne 4 [(0, .string s), (4, vs a outN outC), (5, vi i), (6, vi nv), (7, .int .i32 d), (93, .bool true)] ?_
         refine T_t 93 kk62 kk63 ?_
         refine T_sr 22 kk64 kk65 ?_
         refine T_ne 2 [(2, vs none 0 0), (3, .bool false)] ?_
         refine S_ret (by kernel_rfl) ?_
         show At _ _ _ _ _ (Q .ret)
         exact S_done (fn := Tryd.f19) [vs none 0 0, .bool false] hQ (show ResOK _ _ _ [.tmp 2, .tmp 3] _ from .tmp (by kernel_rfl) (.tmp (by kernel_rfl) (.nil))) h
        ·rw [if_neg c27] at h
         have b28 : (decide (d < 65536)) = false := decide_eq_false c27
         refine N_env [(0, .string s), (4, vs a outN outC), (5, vi i), (6, vi nv), (7, .int .i32 d), (89, .bool false)] (by simp only [b28, Bool.not_true, Bool.not_false]) ?_
         clear b28
         refine T_n 1 [(0, .string s), (4, vs a outN outC), (5, vi i), (6, vi nv), (7, .int .i32 d), (89, .bool false), (90, .int .i32 d)] ?_
         refine N_call (some 91) 29 #[.int .i32 d] (fun _=>by kernel_rfl) h ?_; clear h
         rintro v H4 ⟨x, rfl, h⟩
         refine ⟨[(0, .string s), (4, vs a outN outC), (5, vi i), (6, vi nv), (7, .int .i32 d), (89, .bool false), (91, .bool x)], pk, ?_⟩
         refine T_ne 2 [(0, .string s), (4, vs a outN outC), (5, vi i), (6, vi nv), (7, .int .i32 d), (93, .bool (!x))] ?_
         by_cases c29 : x = true
         ·rw [if_pos c29] at h
          have b30 : (!x) = false := congrArg Bool.not (c29)
          have b302 : x = true := c29
          refine S_env [(0, .string s), (4, vs a outN outC), (5, vi i), (6, vi nv), (7, .int .i32 d), (93, .bool false)] (by simp only [b30, b302, Bool.not_true, Bool.not_false]) ?_
          clear b30 b302
          refine T_f 93 kk62 kk63 ?_
          refine T_kt ?_
          refine T_sr 23 kk66 kk67 ?_
          refine T_n 2 [(0, .string s), (5, vi i), (6, vi nv), (94, vs a outN outC), (95, .int .i32 d)] ?_
          refine N_new (some 96) (fun b => vs (pa b) 1 1) (.cells #[.int .i32 d] 21) (fun _=>by kernel_rfl) ?_
          intro b H5 e31 e32
          replace h := h b H5 e31 e32
          refine ⟨[(0, .string s), (5, vi i), (6, vi nv), (94, vs a outN outC), (96, vs (pa b) 1 1)], pk, ?_⟩
          refine N_op (some 97) (appendN #[59, 59] 59 #[vs a outN outC, vs (pa b) 1 1]) _ (fun _=>by kernel_rfl) (ss_append (T := 21) (sz := 1) (bytes := 4) (zero := (.int .i32 0 : Value)) Tryd.underlying59 Tryd.underlying59 rfl (show Tryd.prog.info? 21 = some Tryd.t21 from by kernel_rfl) (by kernel_rfl) (by kernel_rfl) (by decide) (by kernel_rfl) (by first | exact h | (simpa only [Value.cells, List.toList_toArray] using h))) ?_; clear h
          rintro _ H6 ⟨ap, z, rfl, h⟩
          refine ⟨[(0, .string s), (5, vi i), (6, vi nv), (97, vs ap (outN + 1) z)], pk, ?_⟩
          refine T_ne 1 [(0, .string s), (4, vs ap (outN + 1) z), (5, vi i), (6, vi nv)] ?_
          refine T_r 24 kk67 ?_
          refine T_n 4 [(0, .string s), (4, vs ap (outN + 1) z), (5, vi (IntKind.wrap .i64 (i + nv)))] ?_
          refine N_end (by kernel_rfl) ?_
          refine S_blockEnd ?_
          refine S_then ?_
          exact S_round ((ap, (outN + 1), z, (IntKind.wrap .i64 (i + nv))) : (Option Addr) × Nat × Nat × Int) sk h
         ·rw [if_neg c29] at h
          have b30 : (!x) = true := congrArg Bool.not (eq_false_of_ne_true c29)
          have b302 : x = false := eq_false_of_ne_true c29
          refine S_env [(0, .string s), (4, vs a outN outC), (5, vi i), (6, vi nv), (7, .int .i32 d), (93, .bool true)] (by simp only [b30, b302, Bool.not_true, Bool.not_false]) ?_
          clear b30 b302
          refine T_t 93 kk62 kk63 ?_
          refine T_sr 22 kk64 kk65 ?_
          refine T_ne 2 [(2, vs none 0 0), (3, .bool false)] ?_
          refine S_ret (by kernel_rfl) ?_
          show At _ _ _ _ _ (Q .ret)
          exact S_done (fn := Tryd.f19) [vs none 0 0, .bool false] hQ (show ResOK _ _ _ [.tmp 2, .tmp 3] _ from .tmp (by kernel_rfl) (.tmp (by kernel_rfl) (.nil))) h
       ·rw [if_neg c25] at h
        have b26 : (nv == 4) = false := beq_eq_false_iff_ne.mpr c25
        refine N_env [(0, .string s), (4, vs a outN outC), (5, vi i), (6, vi nv), (7, .int .i32 d), (81, .bool false), (84, .bool false)] (by simp only [b26, Bool.not_true, Bool.not_false]) ?_
        clear b26
        refine T_n 6 [(0, .string s), (4, vs a outN outC), (5, vi i), (6, vi nv), (7, .int .i32 d), (89, .bool false), (90, .int .i32 d)] ?_
        refine N_call (some 91) 29 #[.int .i32 d] (fun _=>by kernel_rfl) h ?_; clear h
        rintro aj H7 ⟨j, rfl, h⟩
        refine ⟨[(0, .string s), (4, vs a outN outC), (5, vi i), (6, vi nv), (7, .int .i32 d), (89, .bool false), (91, .bool j)], pk, ?_⟩
        refine T_ne 2 [(0, .string s), (4, vs a outN outC), (5, vi i), (6, vi nv), (7, .int .i32 d), (93, .bool (!j))] ?_
        by_cases c33 : j = true
        ·rw [if_pos c33] at h
         have b34 : (!j) = false := congrArg Bool.not (c33)
         have b342 : j = true := c33
         refine S_env [(0, .string s), (4, vs a outN outC), (5, vi i), (6, vi nv), (7, .int .i32 d), (93, .bool false)] (by simp only [b34, b342, Bool.not_true, Bool.not_false]) ?_
         clear b34 b342
         refine T_f 93 kk62 kk63 ?_
         refine T_kt ?_
         refine T_sr 23 kk66 kk67 ?_
         refine T_n 2 [(0, .string s), (5, vi i), (6, vi nv), (94, vs a outN outC), (95, .int .i32 d)] ?_
         refine N_new (some 96) (fun b => vs (pa b) 1 1) (.cells #[.int .i32 d] 21) (fun _=>by kernel_rfl) ?_
         intro ac H8 e35 e36
         replace h := h ac H8 e35 e36
         refine ⟨[(0, .string s), (5, vi i), (6, vi nv), (94, vs a outN outC), (96, vs (pa ac) 1 1)], pk, ?_⟩
         refine N_op (some 97) (appendN #[59, 59] 59 #[vs a outN outC, vs (pa ac) 1 1]) _ (fun _=>by kernel_rfl) (ss_append (T := 21) (sz := 1) (bytes := 4) (zero := (.int .i32 0 : Value)) Tryd.underlying59 Tryd.underlying59 rfl (show Tryd.prog.info? 21 = some Tryd.t21 from by kernel_rfl) (by kernel_rfl) (by kernel_rfl) (by decide) (by kernel_rfl) (by first | exact h | (simpa only [Value.cells, List.toList_toArray] using h))) ?_; clear h
         rintro _ H9 ⟨p, e, rfl, h⟩
         refine ⟨[(0, .string s), (5, vi i), (6, vi nv), (97, vs p (outN + 1) e)], pk, ?_⟩
         refine T_ne 1 [(0, .string s), (4, vs p (outN + 1) e), (5, vi i), (6, vi nv)] ?_
         refine T_r 24 kk67 ?_
         refine T_n 4 [(0, .string s), (4, vs p (outN + 1) e), (5, vi (IntKind.wrap .i64 (i + nv)))] ?_
         refine N_end (by kernel_rfl) ?_
         refine S_blockEnd ?_
         refine S_then ?_
         exact S_round ((p, (outN + 1), e, (IntKind.wrap .i64 (i + nv))) : (Option Addr) × Nat × Nat × Int) sk h
        ·rw [if_neg c33] at h
         have b34 : (!j) = true := congrArg Bool.not (eq_false_of_ne_true c33)
         have b342 : j = false := eq_false_of_ne_true c33
         refine S_env [(0, .string s), (4, vs a outN outC), (5, vi i), (6, vi nv), (7, .int .i32 d), (93, .bool true)] (by simp only [b34, b342, Bool.not_true, Bool.not_false]) ?_
         clear b34 b342
         refine T_t 93 kk62 kk63 ?_
         refine T_sr 22 kk64 kk65 ?_
         refine T_ne 2 [(2, vs none 0 0), (3, .bool false)] ?_
         refine S_ret (by kernel_rfl) ?_
         show At _ _ _ _ _ (Q .ret)
         exact S_done (fn := Tryd.f19) [vs none 0 0, .bool false] hQ (show ResOK _ _ _ [.tmp 2, .tmp 3] _ from .tmp (by kernel_rfl) (.tmp (by kernel_rfl) (.nil))) h
     ·rw [if_neg c21] at h
      have b22 : (nv == 3) = false := beq_eq_false_iff_ne.mpr c21
      refine N_env [(0, .string s), (4, vs a outN outC), (5, vi i), (6, vi nv), (7, .int .i32 d), (77, .bool false)] (by simp only [b22, Bool.not_true, Bool.not_false]) ?_
      clear b22
      refine T_n 7 [(0, .string s), (4, vs a outN outC), (5, vi i), (6, vi nv), (7, .int .i32 d), (81, .bool false), (84, .bool (nv == 4))] ?_
      by_cases c37 : nv = 4
      ·rw [if_pos c37] at h
       have b38 : (nv == 4) = true := beq_iff_eq.mpr c37
       refine N_env [(0, .string s), (4, vs a outN outC), (5, vi i), (6, vi nv), (7, .int .i32 d), (81, .bool false), (84, .bool true)] (by simp only [b38, Bool.not_true, Bool.not_false]) ?_
       clear b38
       refine T_n 5 [(0, .string s), (4, vs a outN outC), (5, vi i), (6, vi nv), (7, .int .i32 d), (89, .bool (decide (d < 65536)))] ?_
       by_cases c39 : d < 65536
       ·rw [if_pos c39] at h
        have b40 : (decide (d < 65536)) = true := decide_eq_true c39
        refine N_env [(0, .string s), (4, vs a outN outC), (5, vi i), (6, vi nv), (7, .int .i32 d), (89, .bool true)] (by simp only [b40, Bool.not_true, Bool.not_false]) ?_
        clear b40
        refine T_ne 4 [(0, .string s), (4, vs a outN outC), (5, vi i), (6, vi nv), (7, .int .i32 d), (93, .bool true)] ?_
        refine T_t 93 kk62 kk63 ?_
        refine T_sr 22 kk64 kk65 ?_
        refine T_ne 2 [(2, vs none 0 0), (3, .bool false)] ?_
        refine S_ret (by kernel_rfl) ?_
        show At _ _ _ _ _ (Q .ret)
        exact S_done (fn := Tryd.f19) [vs none 0 0, .bool false] hQ (show ResOK _ _ _ [.tmp 2, .tmp 3] _ from .tmp (by kernel_rfl) (.tmp (by kernel_rfl) (.nil))) h
       ·rw [if_neg c39] at h
        have b40 : (decide (d < 65536)) = false := decide_eq_false c39
        refine N_env [(0, .string s), (4, vs a outN outC), (5, vi i), (6, vi nv), (7, .int .i32 d), (89, .bool false)] (by simp only [b40, Bool.not_true, Bool.not_false]) ?_
        clear b40
        refine T_n 1 [(0, .string s), (4, vs a outN outC), (5, vi i), (6, vi nv), (7, .int .i32 d), (89, .bool false), (90, .int .i32 d)] ?_
        refine N_call (some 91) 29 #[.int .i32 d] (fun _=>by kernel_rfl) h ?_; clear h
        rintro ai af ⟨l, rfl, h⟩
        refine ⟨[(0, .string s), (4, vs a outN outC), (5, vi i), (6, vi nv), (7, .int .i32 d), (89, .bool false), (91, .bool l)], pk, ?_⟩
        refine T_ne 2 [(0, .string s), (4, vs a outN outC), (5, vi i), (6, vi nv), (7, .int .i32 d), (93, .bool (!l))] ?_
        by_cases c41 : l = true
        ·rw [if_pos c41] at h
         have b42 : (!l) = false := congrArg Bool.not (c41)
         have b422 : l = true := c41
         refine S_env [(0, .string s), (4, vs a outN outC), (5, vi i), (6, vi nv), (7, .int .i32 d), (93, .bool false)] (by simp only [b42, b422, Bool.not_true, Bool.not_false]) ?_
         clear b42 b422
         refine T_f 93 kk62 kk63 ?_
         refine T_kt ?_
         refine T_sr 23 kk66 kk67 ?_
         refine T_n 2 [(0, .string s), (5, vi i), (6, vi nv), (94, vs a outN outC), (95, .int .i32 d)] ?_
         refine N_new (some 96) (fun b => vs (pa b) 1 1) (.cells #[.int .i32 d] 21) (fun _=>by kernel_rfl) ?_
         intro ab H11 e43 e44
         replace h := h ab H11 e43 e44
         refine ⟨[(0, .string s), (5, vi i), (6, vi nv), (94, vs a outN outC), (96, vs (pa ab) 1 1)], pk, ?_⟩
         refine N_op (some 97) (appendN #[59, 59] 59 #[vs a outN outC, vs (pa ab) 1 1]) _ (fun _=>by kernel_rfl) (ss_append (T := 21) (sz := 1) (bytes := 4) (zero := (.int .i32 0 : Value)) Tryd.underlying59 Tryd.underlying59 rfl (show Tryd.prog.info? 21 = some Tryd.t21 from by kernel_rfl) (by kernel_rfl) (by kernel_rfl) (by decide) (by kernel_rfl) (by first | exact h | (simpa only [Value.cells, List.toList_toArray] using h))) ?_; clear h
         rintro _ ag ⟨q, f, rfl, h⟩
         refine ⟨[(0, .string s), (5, vi i), (6, vi nv), (97, vs q (outN + 1) f)], pk, ?_⟩
         refine T_ne 1 [(0, .string s), (4, vs q (outN + 1) f), (5, vi i), (6, vi nv)] ?_
         refine T_r 24 kk67 ?_
         refine T_n 4 [(0, .string s), (4, vs q (outN + 1) f), (5, vi (IntKind.wrap .i64 (i + nv)))] ?_
         refine N_end (by kernel_rfl) ?_
         refine S_blockEnd ?_
         refine S_then ?_
         exact S_round ((q, (outN + 1), f, (IntKind.wrap .i64 (i + nv))) : (Option Addr) × Nat × Nat × Int) sk h
        ·rw [if_neg c41] at h
         have b42 : (!l) = true := congrArg Bool.not (eq_false_of_ne_true c41)
         have b422 : l = false := eq_false_of_ne_true c41
         refine S_env [(0, .string s), (4, vs a outN outC), (5, vi i), (6, vi nv), (7, .int .i32 d), (93, .bool true)] (by simp only [b42, b422, Bool.not_true, Bool.not_false]) ?_
         clear b42 b422
         refine T_t 93 kk62 kk63 ?_
         refine T_sr 22 kk64 kk65 ?_
         refine T_ne 2 [(2, vs none 0 0), (3, .bool false)] ?_
         refine S_ret (by kernel_rfl) ?_
         show At _ _ _ _ _ (Q .ret)
         exact S_done (fn := Tryd.f19) [vs none 0 0, .bool false] hQ (show ResOK _ _ _ [.tmp 2, .tmp 3] _ from .tmp (by kernel_rfl) (.tmp (by kernel_rfl) (.nil))) h
      ·rw [if_neg c37] at h
       have b38 : (nv == 4) = false := beq_eq_false_iff_ne.mpr c37
       refine N_env [(0, .string s), (4, vs a outN outC), (5, vi i), (6, vi nv), (7, .int .i32 d), (81, .bool false), (84, .bool false)] (by simp only [b38, Bool.not_true, Bool.not_false]) ?_
       clear b38
       refine T_n 6 [(0, .string s), (4, vs a outN outC), (5, vi i), (6, vi nv), (7, .int .i32 d), (89, .bool false), (90, .int .i32 d)] ?_
       refine N_call (some 91) 29 #[.int .i32 d] (fun _=>by kernel_rfl) h ?_; clear h
       rintro ak ae ⟨m, rfl, h⟩
       refine ⟨[(0, .string s), (4, vs a outN outC), (5, vi i), (6, vi nv), (7, .int .i32 d), (89, .bool false), (91, .bool m)], pk, ?_⟩
       refine T_ne 2 [(0, .string s), (4, vs a outN outC), (5, vi i), (6, vi nv), (7, .int .i32 d), (93, .bool (!m))] ?_
       by_cases c45 : m = true
       ·rw [if_pos c45] at h
        have b46 : (!m) = false := congrArg Bool.not (c45)
        have b462 : m = true := c45
        refine S_env [(0, .string s), (4, vs a outN outC), (5, vi i), (6, vi nv), (7, .int .i32 d), (93, .bool false)] (by simp only [b46, b462, Bool.not_true, Bool.not_false]) ?_
        clear b46 b462
        refine T_f 93 kk62 kk63 ?_
        refine T_kt ?_
        refine T_sr 23 kk66 kk67 ?_
        refine T_n 2 [(0, .string s), (5, vi i), (6, vi nv), (94, vs a outN outC), (95, .int .i32 d)] ?_
        refine N_new (some 96) (fun b => vs (pa b) 1 1) (.cells #[.int .i32 d] 21) (fun _=>by kernel_rfl) ?_
        intro aa H14 e47 e48
        replace h := h aa H14 e47 e48
        refine ⟨[(0, .string s), (5, vi i), (6, vi nv), (94, vs a outN outC), (96, vs (pa aa) 1 1)], pk, ?_⟩
        refine N_op (some 97) (appendN #[59, 59] 59 #[vs a outN outC, vs (pa aa) 1 1]) _ (fun _=>by kernel_rfl) (ss_append (T := 21) (sz := 1) (bytes := 4) (zero := (.int .i32 0 : Value)) Tryd.underlying59 Tryd.underlying59 rfl (show Tryd.prog.info? 21 = some Tryd.t21 from by kernel_rfl) (by kernel_rfl) (by kernel_rfl) (by decide) (by kernel_rfl) (by first | exact h | (simpa only [Value.cells, List.toList_toArray] using h))) ?_; clear h
        rintro _ ah ⟨o, g, rfl, h⟩
        refine ⟨[(0, .string s), (5, vi i), (6, vi nv), (97, vs o (outN + 1) g)], pk, ?_⟩
        refine T_ne 1 [(0, .string s), (4, vs o (outN + 1) g), (5, vi i), (6, vi nv)] ?_
        refine T_r 24 kk67 ?_
        refine T_n 4 [(0, .string s), (4, vs o (outN + 1) g), (5, vi (IntKind.wrap .i64 (i + nv)))] ?_
        refine N_end (by kernel_rfl) ?_
        refine S_blockEnd ?_
        refine S_then ?_
        exact S_round ((o, (outN + 1), g, (IntKind.wrap .i64 (i + nv))) : (Option Addr) × Nat × Nat × Int) sk h
       ·rw [if_neg c45] at h
        have b46 : (!m) = true := congrArg Bool.not (eq_false_of_ne_true c45)
        have b462 : m = false := eq_false_of_ne_true c45
        refine S_env [(0, .string s), (4, vs a outN outC), (5, vi i), (6, vi nv), (7, .int .i32 d), (93, .bool true)] (by simp only [b46, b462, Bool.not_true, Bool.not_false]) ?_
        clear b46 b462
        refine T_t 93 kk62 kk63 ?_
        refine T_sr 22 kk64 kk65 ?_
        refine T_ne 2 [(2, vs none 0 0), (3, .bool false)] ?_
        refine S_ret (by kernel_rfl) ?_
        show At _ _ _ _ _ (Q .ret)
        exact S_done (fn := Tryd.f19) [vs none 0 0, .bool false] hQ (show ResOK _ _ _ [.tmp 2, .tmp 3] _ from .tmp (by kernel_rfl) (.tmp (by kernel_rfl) (.nil))) h
  ·by_cases c49 : (IntKind.wrap .i32 ((c.toNat : Nat) : Int)) < 128
   ·rw [if_pos c49] at h
    have b50 : (decide ((IntKind.wrap .i32 ((c.toNat : Nat) : Int)) < 128)) = true := decide_eq_true c49
    refine S_env [(0, .string s), (4, vs a outN outC), (5, vi i), (6, vi 1), (7, .int .i32 (IntKind.wrap .i32 ((c.toNat : Nat) : Int))), (17, .bool true)] (by simp only [b50, Bool.not_true, Bool.not_false]) ?_
    clear b50
    refine T_t 17 kk25 kk26 ?_
    refine T_kt ?_
    exact S_meet ((1, (IntKind.wrap .i32 ((c.toNat : Nat) : Int))) : Int × Int) sk h
   ·rw [if_neg c49] at h
    have b50 : (decide ((IntKind.wrap .i32 ((c.toNat : Nat) : Int)) < 128)) = false := decide_eq_false c49
    refine S_env [(0, .string s), (4, vs a outN outC), (5, vi i), (6, vi 1), (7, .int .i32 (IntKind.wrap .i32 ((c.toNat : Nat) : Int))), (17, .bool false)] (by simp only [b50, Bool.not_true, Bool.not_false]) ?_
    clear b50
    refine T_f 17 kk25 kk26 ?_
    refine T_sr 7 kk68 kk69 ?_
    refine N_cut [(0, .string s), (4, vs a outN outC), (5, vi i), (7, .int .i32 (IntKind.wrap .i32 ((c.toNat : Nat) : Int))), (20, .bool ((decide ((IntKind.wrap .i32 ((c.toNat : Nat) : Int)) ≥ 194)) && (decide ((IntKind.wrap .i32 ((c.toNat : Nat) : Int)) < 224))))] ?_ ?_
    ·refine S_then ?_
     by_cases c53 : ((decide ((IntKind.wrap .i32 ((c.toNat : Nat) : Int)) ≥ 194)) && (decide ((IntKind.wrap .i32 ((c.toNat : Nat) : Int)) < 224))) = true
     ·rw [if_pos c53] at h
      have b54 : ((decide ((IntKind.wrap .i32 ((c.toNat : Nat) : Int)) ≥ 194)) && (decide ((IntKind.wrap .i32 ((c.toNat : Nat) : Int)) < 224))) = true := c53
      refine S_env [(0, .string s), (4, vs a outN outC), (5, vi i), (7, .int .i32 (IntKind.wrap .i32 ((c.toNat : Nat) : Int))), (20, .bool true)] (by simp only [b54, Bool.not_true, Bool.not_false]) ?_
      clear b54
      refine T_t 20 kk70 kk71 ?_
      refine T_r 8 kk70 ?_
      refine T_ne 4 [(0, .string s), (4, vs a outN outC), (5, vi i), (6, vi 2), (7, .int .i32 (iand .i32 (IntKind.wrap .i32 ((c.toNat : Nat) : Int)) 31))] ?_
      exact S_meet ((2, (iand .i32 (IntKind.wrap .i32 ((c.toNat : Nat) : Int)) 31)) : Int × Int) sk h
     ·rw [if_neg c53] at h
      have b54 : ((decide ((IntKind.wrap .i32 ((c.toNat : Nat) : Int)) ≥ 194)) && (decide ((IntKind.wrap .i32 ((c.toNat : Nat) : Int)) < 224))) = false := eq_false_of_ne_true c53
      refine S_env [(0, .string s), (4, vs a outN outC), (5, vi i), (7, .int .i32 (IntKind.wrap .i32 ((c.toNat : Nat) : Int))), (20, .bool false)] (by simp only [b54, Bool.not_true, Bool.not_false]) ?_
      clear b54
      refine T_f 20 kk70 kk71 ?_
      refine T_sr 9 kk72 kk73 ?_
      refine N_cut [(0, .string s), (4, vs a outN outC), (5, vi i), (7, .int .i32 (IntKind.wrap .i32 ((c.toNat : Nat) : Int))), (29, .bool ((decide ((IntKind.wrap .i32 ((c.toNat : Nat) : Int)) ≥ 224)) && (decide ((IntKind.wrap .i32 ((c.toNat : Nat) : Int)) < 240))))] ?_ ?_
      ·refine S_then ?_
       by_cases c57 : ((decide ((IntKind.wrap .i32 ((c.toNat : Nat) : Int)) ≥ 224)) && (decide ((IntKind.wrap .i32 ((c.toNat : Nat) : Int)) < 240))) = true
       ·rw [if_pos c57] at h
        have b58 : ((decide ((IntKind.wrap .i32 ((c.toNat : Nat) : Int)) ≥ 224)) && (decide ((IntKind.wrap .i32 ((c.toNat : Nat) : Int)) < 240))) = true := c57
        refine S_env [(0, .string s), (4, vs a outN outC), (5, vi i), (7, .int .i32 (IntKind.wrap .i32 ((c.toNat : Nat) : Int))), (29, .bool true)] (by simp only [b58, Bool.not_true, Bool.not_false]) ?_
        clear b58
        refine T_t 29 kk74 kk75 ?_
        refine T_r 10 kk74 ?_
        refine T_ne 4 [(0, .string s), (4, vs a outN outC), (5, vi i), (6, vi 3), (7, .int .i32 (iand .i32 (IntKind.wrap .i32 ((c.toNat : Nat) : Int)) 15))] ?_
        exact S_meet ((3, (iand .i32 (IntKind.wrap .i32 ((c.toNat : Nat) : Int)) 15)) : Int × Int) sk h
       ·rw [if_neg c57] at h
        have b58 : ((decide ((IntKind.wrap .i32 ((c.toNat : Nat) : Int)) ≥ 224)) && (decide ((IntKind.wrap .i32 ((c.toNat : Nat) : Int)) < 240))) = false := eq_false_of_ne_true c57
        refine S_env [(0, .string s), (4, vs a outN outC), (5, vi i), (7, .int .i32 (IntKind.wrap .i32 ((c.toNat : Nat) : Int))), (29, .bool false)] (by simp only [b58, Bool.not_true, Bool.not_false]) ?_
        clear b58
        refine T_f 29 kk74 kk75 ?_
        refine T_sr 11 kk76 kk77 ?_
        refine N_cut [(0, .string s), (4, vs a outN outC), (5, vi i), (7, .int .i32 (IntKind.wrap .i32 ((c.toNat : Nat) : Int))), (38, .bool ((decide ((IntKind.wrap .i32 ((c.toNat : Nat) : Int)) ≥ 240)) && (decide ((IntKind.wrap .i32 ((c.toNat : Nat) : Int)) < 245))))] ?_ ?_
        ·refine S_then ?_
         by_cases c61 : ((decide ((IntKind.wrap .i32 ((c.toNat : Nat) : Int)) ≥ 240)) && (decide ((IntKind.wrap .i32 ((c.toNat : Nat) : Int)) < 245))) = true
         ·rw [if_pos c61] at h
          have b62 : ((decide ((IntKind.wrap .i32 ((c.toNat : Nat) : Int)) ≥ 240)) && (decide ((IntKind.wrap .i32 ((c.toNat : Nat) : Int)) < 245))) = true := c61
          refine S_env [(0, .string s), (4, vs a outN outC), (5, vi i), (7, .int .i32 (IntKind.wrap .i32 ((c.toNat : Nat) : Int))), (38, .bool true)] (by simp only [b62, Bool.not_true, Bool.not_false]) ?_
          clear b62
          refine T_t 38 kk78 kk79 ?_
          refine T_r 12 kk78 ?_
          refine T_ne 4 [(0, .string s), (4, vs a outN outC), (5, vi i), (6, vi 4), (7, .int .i32 (iand .i32 (IntKind.wrap .i32 ((c.toNat : Nat) : Int)) 7))] ?_
          exact S_meet ((4, (iand .i32 (IntKind.wrap .i32 ((c.toNat : Nat) : Int)) 7)) : Int × Int) sk h
         ·rw [if_neg c61] at h
          have b62 : ((decide ((IntKind.wrap .i32 ((c.toNat : Nat) : Int)) ≥ 240)) && (decide ((IntKind.wrap .i32 ((c.toNat : Nat) : Int)) < 245))) = false := eq_false_of_ne_true c61
          refine S_env [(0, .string s), (4, vs a outN outC), (5, vi i), (7, .int .i32 (IntKind.wrap .i32 ((c.toNat : Nat) : Int))), (38, .bool false)] (by simp only [b62, Bool.not_true, Bool.not_false]) ?_
          clear b62
          refine T_f 38 kk78 kk79 ?_
          refine T_sr 5 kk80 kk81 ?_
          refine T_ne 2 [(2, vs none 0 0), (3, .bool false)] ?_
          refine S_ret (by kernel_rfl) ?_
          show At _ _ _ _ _ (Q .ret)
          exact S_done (fn := Tryd.f19) [vs none 0 0, .bool false] hQ (show ResOK _ _ _ [.tmp 2, .tmp 3] _ from .tmp (by kernel_rfl) (.tmp (by kernel_rfl) (.nil))) h
        ·intro hk
         refine T_n 3 [(0, .string s), (4, vs a outN outC), (5, vi i), (7, .int .i32 (IntKind.wrap .i32 ((c.toNat : Nat) : Int))), (41, .bool (decide ((IntKind.wrap .i32 ((c.toNat : Nat) : Int)) ≥ 240)))] ?_
         by_cases c59 : (IntKind.wrap .i32 ((c.toNat : Nat) : Int)) ≥ 240
         ·have b60 : (decide ((IntKind.wrap .i32 ((c.toNat : Nat) : Int)) ≥ 240)) = true := decide_eq_true c59
          refine N_env [(0, .string s), (4, vs a outN outC), (5, vi i), (7, .int .i32 (IntKind.wrap .i32 ((c.toNat : Nat) : Int))), (41, .bool true)] (by simp only [b60, Bool.not_true, Bool.not_false]) ?_
          refine T_n 4 [(0, .string s), (4, vs a outN outC), (5, vi i), (7, .int .i32 (IntKind.wrap .i32 ((c.toNat : Nat) : Int))), (38, .bool (decide ((IntKind.wrap .i32 ((c.toNat : Nat) : Int)) < 245)))] ?_
          refine N_end (by kernel_rfl) ?_
          refine S_env [(0, .string s), (4, vs a outN outC), (5, vi i), (7, .int .i32 (IntKind.wrap .i32 ((c.toNat : Nat) : Int))), (38, .bool ((decide ((IntKind.wrap .i32 ((c.toNat : Nat) : Int)) ≥ 240)) && (decide ((IntKind.wrap .i32 ((c.toNat : Nat) : Int)) < 245))))] (by simp only [b60, Bool.true_or, Bool.false_or, Bool.or_true, Bool.or_false, Bool.true_and, Bool.false_and, Bool.and_true, Bool.and_false, Bool.not_true, Bool.not_false, cond_true, cond_false]) ?_
          exact hk
         ·have b60 : (decide ((IntKind.wrap .i32 ((c.toNat : Nat) : Int)) ≥ 240)) = false := decide_eq_false c59
          refine N_env [(0, .string s), (4, vs a outN outC), (5, vi i), (7, .int .i32 (IntKind.wrap .i32 ((c.toNat : Nat) : Int))), (41, .bool false)] (by simp only [b60, Bool.not_true, Bool.not_false]) ?_
          refine T_n 4 [(0, .string s), (4, vs a outN outC), (5, vi i), (7, .int .i32 (IntKind.wrap .i32 ((c.toNat : Nat) : Int))), (38, .bool false)] ?_
          refine N_end (by kernel_rfl) ?_
          refine S_env [(0, .string s), (4, vs a outN outC), (5, vi i), (7, .int .i32 (IntKind.wrap .i32 ((c.toNat : Nat) : Int))), (38, .bool ((decide ((IntKind.wrap .i32 ((c.toNat : Nat) : Int)) ≥ 240)) && (decide ((IntKind.wrap .i32 ((c.toNat : Nat) : Int)) < 245))))] (by simp only [b60, Bool.true_or, Bool.false_or, Bool.or_true, Bool.or_false, Bool.true_and, Bool.false_and, Bool.and_true, Bool.and_false, Bool.not_true, Bool.not_false, cond_true, cond_false]) ?_
          exact hk
      ·intro hk
       refine T_n 3 [(0, .string s), (4, vs a outN outC), (5, vi i), (7, .int .i32 (IntKind.wrap .i32 ((c.toNat : Nat) : Int))), (32, .bool (decide ((IntKind.wrap .i32 ((c.toNat : Nat) : Int)) ≥ 224)))] ?_
       by_cases c55 : (IntKind.wrap .i32 ((c.toNat : Nat) : Int)) ≥ 224
       ·have b56 : (decide ((IntKind.wrap .i32 ((c.toNat : Nat) : Int)) ≥ 224)) = true := decide_eq_true c55
        refine N_env [(0, .string s), (4, vs a outN outC), (5, vi i), (7, .int .i32 (IntKind.wrap .i32 ((c.toNat : Nat) : Int))), (32, .bool true)] (by simp only [b56, Bool.not_true, Bool.not_false]) ?_
        refine T_n 4 [(0, .string s), (4, vs a outN outC), (5, vi i), (7, .int .i32 (IntKind.wrap .i32 ((c.toNat : Nat) : Int))), (29, .bool (decide ((IntKind.wrap .i32 ((c.toNat : Nat) : Int)) < 240)))] ?_
        refine N_end (by kernel_rfl) ?_
        refine S_env [(0, .string s), (4, vs a outN outC), (5, vi i), (7, .int .i32 (IntKind.wrap .i32 ((c.toNat : Nat) : Int))), (29, .bool ((decide ((IntKind.wrap .i32 ((c.toNat : Nat) : Int)) ≥ 224)) && (decide ((IntKind.wrap .i32 ((c.toNat : Nat) : Int)) < 240))))] (by simp only [b56, Bool.true_or, Bool.false_or, Bool.or_true, Bool.or_false, Bool.true_and, Bool.false_and, Bool.and_true, Bool.and_false, Bool.not_true, Bool.not_false, cond_true, cond_false]) ?_
        exact hk
       ·have b56 : (decide ((IntKind.wrap .i32 ((c.toNat : Nat) : Int)) ≥ 224)) = false := decide_eq_false c55
        refine N_env [(0, .string s), (4, vs a outN outC), (5, vi i), (7, .int .i32 (IntKind.wrap .i32 ((c.toNat : Nat) : Int))), (32, .bool false)] (by simp only [b56, Bool.not_true, Bool.not_false]) ?_
        refine T_n 4 [(0, .string s), (4, vs a outN outC), (5, vi i), (7, .int .i32 (IntKind.wrap .i32 ((c.toNat : Nat) : Int))), (29, .bool false)] ?_
        refine N_end (by kernel_rfl) ?_
        refine S_env [(0, .string s), (4, vs a outN outC), (5, vi i), (7, .int .i32 (IntKind.wrap .i32 ((c.toNat : Nat) : Int))), (29, .bool ((decide ((IntKind.wrap .i32 ((c.toNat : Nat) : Int)) ≥ 224)) && (decide ((IntKind.wrap .i32 ((c.toNat : Nat) : Int)) < 240))))] (by simp only [b56, Bool.true_or, Bool.false_or, Bool.or_true, Bool.or_false, Bool.true_and, Bool.false_and, Bool.and_true, Bool.and_false, Bool.not_true, Bool.not_false, cond_true, cond_false]) ?_
        exact hk
    ·intro hk
     refine T_n 3 [(0, .string s), (4, vs a outN outC), (5, vi i), (7, .int .i32 (IntKind.wrap .i32 ((c.toNat : Nat) : Int))), (23, .bool (decide ((IntKind.wrap .i32 ((c.toNat : Nat) : Int)) ≥ 194)))] ?_
     by_cases c51 : (IntKind.wrap .i32 ((c.toNat : Nat) : Int)) ≥ 194
     ·have b52 : (decide ((IntKind.wrap .i32 ((c.toNat : Nat) : Int)) ≥ 194)) = true := decide_eq_true c51
      refine N_env [(0, .string s), (4, vs a outN outC), (5, vi i), (7, .int .i32 (IntKind.wrap .i32 ((c.toNat : Nat) : Int))), (23, .bool true)] (by simp only [b52, Bool.not_true, Bool.not_false]) ?_
      refine T_n 4 [(0, .string s), (4, vs a outN outC), (5, vi i), (7, .int .i32 (IntKind.wrap .i32 ((c.toNat : Nat) : Int))), (20, .bool (decide ((IntKind.wrap .i32 ((c.toNat : Nat) : Int)) < 224)))] ?_
      refine N_end (by kernel_rfl) ?_
      refine S_env [(0, .string s), (4, vs a outN outC), (5, vi i), (7, .int .i32 (IntKind.wrap .i32 ((c.toNat : Nat) : Int))), (20, .bool ((decide ((IntKind.wrap .i32 ((c.toNat : Nat) : Int)) ≥ 194)) && (decide ((IntKind.wrap .i32 ((c.toNat : Nat) : Int)) < 224))))] (by simp only [b52, Bool.true_or, Bool.false_or, Bool.or_true, Bool.or_false, Bool.true_and, Bool.false_and, Bool.and_true, Bool.and_false, Bool.not_true, Bool.not_false, cond_true, cond_false]) ?_
      exact hk
     ·have b52 : (decide ((IntKind.wrap .i32 ((c.toNat : Nat) : Int)) ≥ 194)) = false := decide_eq_false c51
      refine N_env [(0, .string s), (4, vs a outN outC), (5, vi i), (7, .int .i32 (IntKind.wrap .i32 ((c.toNat : Nat) : Int))), (23, .bool false)] (by simp only [b52, Bool.not_true, Bool.not_false]) ?_
      refine T_n 4 [(0, .string s), (4, vs a outN outC), (5, vi i), (7, .int .i32 (IntKind.wrap .i32 ((c.toNat : Nat) : Int))), (20, .bool false)] ?_
      refine N_end (by kernel_rfl) ?_
      refine S_env [(0, .string s), (4, vs a outN outC), (5, vi i), (7, .int .i32 (IntKind.wrap .i32 ((c.toNat : Nat) : Int))), (20, .bool ((decide ((IntKind.wrap .i32 ((c.toNat : Nat) : Int)) ≥ 194)) && (decide ((IntKind.wrap .i32 ((c.toNat : Nat) : Int)) < 224))))] (by simp only [b52, Bool.true_or, Bool.false_or, Bool.or_true, Bool.or_false, Bool.true_and, Bool.false_and, Bool.and_true, Bool.and_false, Bool.not_true, Bool.not_false, cond_true, cond_false]) ?_
      exact hk
 ·rw [if_neg c4] at h
  have b5 : (decide (i < (s.size : Int))) = false := decide_eq_false c4
  refine S_env [(0, .string s), (4, vs a outN outC), (5, vi i), (12, .bool false)] (by simp only [b5, Bool.not_true, Bool.not_false]) ?_
  clear b5
  refine T_f 12 kk15 kk16 ?_
  refine S_exit 0 (by kernel_rfl) ?_
  refine S_exitThen ?_
  refine S_exitThen ?_
  refine S_exitHere ?_
  refine S_then ?_
  refine T_sr 25 kk82 kk83 ?_
  refine T_ne 3 [(2, vs a outN outC), (3, .bool true)] ?_
  refine S_ret (by kernel_rfl) ?_
  show At _ _ _ _ _ (Q .ret)
  exact S_done (fn := Tryd.f19) [vs a outN outC, .bool true] hQ (show ResOK _ _ _ [.tmp 2, .tmp 3] _ from .tmp (by kernel_rfl) (.tmp (by kernel_rfl) (.nil))) h
end moraineref03_Runes

/-! moraine/moraineref03.Char -/
namespace moraineref03_Char
def kk0 := Func.code Tryd.f29
def kk1 := Code.fa kk0
def kk2 := Code.fb kk0
def kk3 := Code.fa kk2
def kk4 := Code.fb kk2
end moraineref03_Char
def moraineref03_Char.pt (c : Int) (H : Array Obj) (R : Value → Array Obj → Prop) : Prop :=
 R (.bool (((decide (c ≥ 0)) && (decide (c ≤ 1114111))) && ((decide (c < 55296)) || (decide (c > 57343))))) H
namespace moraineref03_Char
set_option maxRecDepth 100000 in
theorem link {c : Int} {H : Array Obj} {R : Value → Array Obj → Prop} (h : pt c H R) : C c H R := by
 refine S_enter (fn := Tryd.f29) (c := kk0) 17 Tryd.func29 (by kernel_rfl) (by kernel_rfl) (Nat.le_of_ble_eq_true (by kernel_rfl)) ?_
 intro w0 Q hQ
 unfold pt at h
 refine T_su [(0, .int .i32 c)] ?_
 refine T_sr 0 kk1 kk2 ?_
 refine T_ne 1 [(0, .int .i32 c)] ?_
 refine T_sr 1 kk3 kk4 ?_
 refine N_cut [(2, .bool (((decide (c ≥ 0)) && (decide (c ≤ 1114111))) && ((decide (c < 55296)) || (decide (c > 57343)))))] ?_ ?_
 ·refine S_then ?_
  refine S_ret (by kernel_rfl) ?_
  show At _ _ _ _ _ (Q .ret)
  exact S_done (fn := Tryd.f29) [.bool (((decide (c ≥ 0)) && (decide (c ≤ 1114111))) && ((decide (c < 55296)) || (decide (c > 57343))))] hQ (show ResOK _ _ _ [.tmp 2] _ from .tmp (by kernel_rfl) (.nil)) h
 ·intro hk
  refine T_n 3 [(0, .int .i32 c), (5, .bool (decide (c ≥ 0)))] ?_
  by_cases c1 : c ≥ 0
  ·have b2 : (decide (c ≥ 0)) = true := decide_eq_true c1
   refine N_env [(0, .int .i32 c), (5, .bool true)] (by simp only [b2, Bool.not_true, Bool.not_false]) ?_
   refine T_n 4 [(0, .int .i32 c), (9, .bool (decide (c ≤ 1114111)))] ?_
   by_cases c3 : c ≤ 1114111
   ·have b4 : (decide (c ≤ 1114111)) = true := decide_eq_true c3
    refine N_env [(0, .int .i32 c), (9, .bool true)] (by simp only [b4, Bool.not_true, Bool.not_false]) ?_
    refine T_n 3 [(0, .int .i32 c), (9, .bool true), (12, .bool (decide (c < 55296)))] ?_
    by_cases c5 : c < 55296
    ·have b6 : (decide (c < 55296)) = true := decide_eq_true c5
     refine N_env [(0, .int .i32 c), (9, .bool true), (12, .bool true)] (by simp only [b6, Bool.not_true, Bool.not_false]) ?_
     refine T_n 5 [(2, .bool true)] ?_
     refine N_end (by kernel_rfl) ?_
     refine S_env [(2, .bool (((decide (c ≥ 0)) && (decide (c ≤ 1114111))) && ((decide (c < 55296)) || (decide (c > 57343)))))] (by simp only [b2, b4, b6, Bool.true_or, Bool.false_or, Bool.or_true, Bool.or_false, Bool.true_and, Bool.false_and, Bool.and_true, Bool.and_false, Bool.not_true, Bool.not_false, cond_true, cond_false]) ?_
     exact hk
    ·have b6 : (decide (c < 55296)) = false := decide_eq_false c5
     refine N_env [(0, .int .i32 c), (9, .bool true), (12, .bool false)] (by simp only [b6, Bool.not_true, Bool.not_false]) ?_
     refine T_n 5 [(2, .bool (decide (c > 57343)))] ?_
     refine N_end (by kernel_rfl) ?_
     refine S_env [(2, .bool (((decide (c ≥ 0)) && (decide (c ≤ 1114111))) && ((decide (c < 55296)) || (decide (c > 57343)))))] (by simp only [b2, b4, b6, Bool.true_or, Bool.false_or, Bool.or_true, Bool.or_false, Bool.true_and, Bool.false_and, Bool.and_true, Bool.and_false, Bool.not_true, Bool.not_false, cond_true, cond_false]) ?_
     exact hk
   ·have b4 : (decide (c ≤ 1114111)) = false := decide_eq_false c3
    refine N_env [(0, .int .i32 c), (9, .bool false)] (by simp only [b4, Bool.not_true, Bool.not_false]) ?_
    refine T_n 8 [(2, .bool false)] ?_
    refine N_end (by kernel_rfl) ?_
    refine S_env [(2, .bool (((decide (c ≥ 0)) && (decide (c ≤ 1114111))) && ((decide (c < 55296)) || (decide (c > 57343)))))] (by simp only [b2, b4, Bool.true_or, Bool.false_or, Bool.or_true, Bool.or_false, Bool.true_and, Bool.false_and, Bool.and_true, Bool.and_false, Bool.not_true, Bool.not_false, cond_true, cond_false]) ?_
    exact hk
  ·have b2 : (decide (c ≥ 0)) = false := decide_eq_false c1
   refine N_env [(0, .int .i32 c), (5, .bool false)] (by simp only [b2, Bool.not_true, Bool.not_false]) ?_
   refine T_n 12 [(2, .bool false)] ?_
   refine N_end (by kernel_rfl) ?_
   refine S_env [(2, .bool (((decide (c ≥ 0)) && (decide (c ≤ 1114111))) && ((decide (c < 55296)) || (decide (c > 57343)))))] (by simp only [b2, Bool.true_or, Bool.false_or, Bool.or_true, Bool.or_false, Bool.true_and, Bool.false_and, Bool.and_true, Bool.and_false, Bool.not_true, Bool.not_false, cond_true, cond_false]) ?_
   exact hk
end moraineref03_Char

end Go.Proofs.YtillpfaabdlaiaaDoor
