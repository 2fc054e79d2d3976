/- Printed: what each function asks, and that it is sound. -/
import Derived.Test.YthlohokmnajpoaaGreatDoorFnsC
set_option linter.unusedSimpArgs false
set_option linter.unusedVariables false
set_option maxHeartbeats 1000000
noncomputable section
namespace Go.Proofs.YthlohokmnajpoaaGreatDoor
open Go
/-! unicode/utf8.ValidString -/
namespace unicode_utf8_ValidString
def K0 := Func.code Tryz.f83
def K1 := ca K0
def K2 := cb K0
def K3 := ca K2
def K4 := cb K2
def K5 := ca K3
def K6 := ca K5
def K7 := ca K6
def K8 := cb K6
def K9 := ca K7
def K10 := cb K7
def K11 := ca K10
def K12 := cb K10
def K13 := ca K8
def K14 := ca K13
def K15 := cb K13
def K16 := ca K15
def K17 := cb K15
def K18 := ca K16
def K19 := cb K16
def K20 := ca K19
def K21 := cb K19
def K22 := ca K20
def K23 := cb K20
def K24 := ca K23
def K25 := cb K23
def K26 := ca K24
def K27 := cb K24
def K28 := ca K27
def K29 := cb K27
def K30 := ca K28
def K31 := cb K28
def K32 := ca K31
def K33 := cb K31
def K34 := ca K33
def K35 := cb K33
def K36 := ca K34
def K37 := cb K34
def K38 := ca K37
def K39 := ca K38
def K40 := ca K39
def K41 := cb K39
def K42 := ca K40
def K43 := cb K40
def K44 := ca K43
def K45 := cb K43
def K46 := ca K41
def K47 := ca K17
def K48 := cb K17
def K49 := ca K48
def K50 := cb K48
def K51 := ca K50
def K52 := cb K50
def K53 := ca K52
def K54 := cb K52
def K55 := ca K54
def K56 := ca K55
def K57 := cb K55
def K58 := ca K57
def K59 := cb K57
def K60 := ca K58
def K61 := cb K58
def K62 := ca K60
def K63 := cb K60
def K64 := ca K63
def K65 := cb K63
def K66 := ca K64
def K67 := cb K64
def K68 := ca K59
def K69 := cb K59
def K70 := ca K69
def K71 := cb K69
def K72 := ca K70
def K73 := cb K70
def K74 := ca K72
def K75 := cb K72
def K76 := ca K75
def K77 := cb K75
def K78 := ca K76
def K79 := cb K76
def K80 := ca K71
def K81 := cb K71
def K82 := ca K81
def K83 := cb K81
def K84 := ca K82
def K85 := cb K82
def K86 := ca K84
def K87 := cb K84
def K88 := ca K87
def K89 := cb K87
def K90 := ca K88
def K91 := cb K88
def K92 := ca K83
def K93 := cb K83
def K94 := ca K4
def K95 := cb K4
end unicode_utf8_ValidString
set_option maxRecDepth 100000 in def unicode_utf8_ValidString.pt (s : ByteArray) (H : Array Obj) (R : Value → Array Obj → Prop) : Prop :=
 ∃ (I7 : ByteArray → Array Obj → Prop) (m7 : ByteArray → Array Obj → Nat), I7 s H ∧ ∀ (d : ByteArray) (H1 : Array Obj), I7 d H1 →
 if (d.size : Int) > 0 then (
 ∃ c : UInt8, ((0 : Int) ≤ 0 ∧ d[Int.toNat 0]? = some c) ∧
 if ((c.toNat : Nat) : Int) < 128 then (
 ∃ (lo hi : Nat), 1 = (lo : Int) ∧ hi = d.size ∧ lo ≤ hi ∧ hi ≤ d.size ∧
 ∃ J : Bool → Array Obj → Prop, (
 if ((d.extract lo hi).size : Int) > 8 then (
 unicode_utf8_word_string.C (d.extract lo hi) H1 (fun bj bm => ∃ bf : Int, bj = .int .u64 bf ∧ 
 J ((iand .u64 bf 9259542123273814144) == 0) bm))
 else
 J false H1) ∧ ∀ (bc : Bool) (H2 : Array Obj), J bc H2 →
 ∃ be : ByteArray → Array Obj → Prop, (
 if bc = true then (
 ∃ (g f : Nat), 8 = (g : Int) ∧ f = (d.extract lo hi).size ∧ g ≤ f ∧ f ≤ (d.extract lo hi).size ∧
 ∃ bg : Bool → Array Obj → Prop, (
 if (((d.extract lo hi).extract g f).size : Int) > 16 then (
 ∃ (a7 a1 : Nat), 8 = (a7 : Int) ∧ a1 = ((d.extract lo hi).extract g f).size ∧ a7 ≤ a1 ∧ a1 ≤ ((d.extract lo hi).extract g f).size ∧
 unicode_utf8_word_string.C ((d.extract lo hi).extract g f) H2 (fun bq bo => ∃ ab : Int, bq = .int .u64 ab ∧ 
 unicode_utf8_word_string.C (((d.extract lo hi).extract g f).extract a7 a1) bo (fun bi bk => ∃ ak : Int, bi = .int .u64 ak ∧ 
 bg ((iand .u64 (ior .u64 ab ak) 9259542123273814144) == 0) bk)))
 else
 bg false H2) ∧ ∀ (bb : Bool) (H4 : Array Obj), bg bb H4 →
 if bb = true then (
 ∃ (a8 a2 : Nat), 16 = (a8 : Int) ∧ a2 = ((d.extract lo hi).extract g f).size ∧ a8 ≤ a2 ∧ a2 ≤ ((d.extract lo hi).extract g f).size ∧
 ∃ (bh : ByteArray → Array Obj → Prop) (m40 : ByteArray → Array Obj → Nat), bh (((d.extract lo hi).extract g f).extract a8 a2) H4 ∧ ∀ (e : ByteArray) (H5 : Array Obj), bh e H5 →
 if (e.size : Int) > 32 then (
 ∃ (ao ad : Nat), 8 = (ao : Int) ∧ ad = e.size ∧ ao ≤ ad ∧ ad ≤ e.size ∧
 ∃ (am af : Nat), 16 = (am : Int) ∧ af = e.size ∧ am ≤ af ∧ af ≤ e.size ∧
 ∃ (ar al : Nat), 24 = (ar : Int) ∧ al = e.size ∧ ar ≤ al ∧ al ≤ e.size ∧
 unicode_utf8_word_string.C e H5 (fun v H6 => ∃ x : Int, v = .int .u64 x ∧ 
 unicode_utf8_word_string.C (e.extract ao ad) H6 (fun bl H7 => ∃ m : Int, bl = .int .u64 m ∧ 
 unicode_utf8_word_string.C (e.extract am af) H7 (fun bn H8 => ∃ o : Int, bn = .int .u64 o ∧ 
 unicode_utf8_word_string.C (e.extract ar al) H8 (fun bp H9 => ∃ p : Int, bp = .int .u64 p ∧ 
 if (iand .u64 (ior .u64 (ior .u64 x m) (ior .u64 o p)) 9259542123273814144) = 0 then (
 ∃ (a4 ax : Nat), 32 = (a4 : Int) ∧ ax = e.size ∧ a4 ≤ ax ∧ ax ≤ e.size ∧
 (bh (e.extract a4 ax) H9 ∧ m40 (e.extract a4 ax) H9 < m40 e H5))
 else
 be e H9)))))
 else
 be e H5)
 else
 be ((d.extract lo hi).extract g f) H4)
 else
 be (d.extract lo hi) H2) ∧ ∀ (bd : ByteArray) (H3 : Array Obj), be bd H3 →
 (I7 bd H3 ∧ m7 bd H3 < m7 d H1))
 else
 ((0 : Int) ≤ ((c.toNat : Nat) : Int) ∧ ((c.toNat : Nat) : Int) < (256 : Int)) ∧
 ∃ j : Int, hat H1 ((Addr.mk 0 0 none).add (Int.toNat ((c.toNat : Nat) : Int) * 1)) = some (.int .u8 j) ∧
 ((0 : Int) ≤ (ishr .u8 j 4) ∧ (ishr .u8 j 4) < (16 : Int)) ∧
 ∃ a9 : Int, ∃ ba : Int, RowAt H1 ((Addr.mk 1 0 none).add (Int.toNat (ishr .u8 j 4) * 2)) 0 [.int .u8 a9, .int .u8 ba] ∧
 ∀ (b : Nat) (H13 : Array Obj), b = H1.size → H13 = H1.push (.cells #[.int .u8 0, .int .u8 0] 220) →
 (CanPuts H13 (Addr.mk b 0 none) 0 2) ∧ ∀ l : Array Obj, l = hputs H13 (Addr.mk b 0 none) [.int .u8 a9, .int .u8 ba] 0 →
 if (IntKind.wrap .i64 (iand .u8 j 7)) = 2 then (
 if (d.size : Int) < 2 then (
 R (.bool false) l)
 else
 ∃ av : UInt8, ((0 : Int) ≤ 1 ∧ d[Int.toNat 1]? = some av) ∧
 ∃ a0 : Int, hat l (Addr.mk b 0 none) = some (.int .u8 a0) ∧
 if ((av.toNat : Nat) : Int) < a0 then (
 R (.bool false) l)
 else
 ∃ y : Int, hat l ((Addr.mk b 0 none).add 1) = some (.int .u8 y) ∧
 ∃ a6 : UInt8, ((0 : Int) ≤ 1 ∧ d[Int.toNat 1]? = some a6) ∧
 if y < ((a6.toNat : Nat) : Int) then (
 R (.bool false) l)
 else
 ∃ (a3 aw : Nat), 2 = (a3 : Int) ∧ aw = d.size ∧ a3 ≤ aw ∧ aw ≤ d.size ∧
 (I7 (d.extract a3 aw) l ∧ m7 (d.extract a3 aw) l < m7 d H1))
 else
 if (IntKind.wrap .i64 (iand .u8 j 7)) = 3 then (
 if (d.size : Int) < 3 then (
 R (.bool false) l)
 else
 ∃ au : UInt8, ((0 : Int) ≤ 1 ∧ d[Int.toNat 1]? = some au) ∧
 ∃ ai : Int, hat l (Addr.mk b 0 none) = some (.int .u8 ai) ∧
 if ((au.toNat : Nat) : Int) < ai then (
 R (.bool false) l)
 else
 ∃ q : Int, hat l ((Addr.mk b 0 none).add 1) = some (.int .u8 q) ∧
 ∃ ay : UInt8, ((0 : Int) ≤ 1 ∧ d[Int.toNat 1]? = some ay) ∧
 if q < ((ay.toNat : Nat) : Int) then (
 R (.bool false) l)
 else
 ∃ az : UInt8, ((0 : Int) ≤ 2 ∧ d[Int.toNat 2]? = some az) ∧
 if ((az.toNat : Nat) : Int) < 128 then (
 R (.bool false) l)
 else
 ∃ a5 : UInt8, ((0 : Int) ≤ 2 ∧ d[Int.toNat 2]? = some a5) ∧
 if 191 < ((a5.toNat : Nat) : Int) then (
 R (.bool false) l)
 else
 ∃ (aq z : Nat), 3 = (aq : Int) ∧ z = d.size ∧ aq ≤ z ∧ z ≤ d.size ∧
 (I7 (d.extract aq z) l ∧ m7 (d.extract aq z) l < m7 d H1))
 else
 if (IntKind.wrap .i64 (iand .u8 j 7)) = 4 then (
 if (d.size : Int) < 4 then (
 R (.bool false) l)
 else
 ∃ r : UInt8, ((0 : Int) ≤ 1 ∧ d[Int.toNat 1]? = some r) ∧
 ∃ aa : Int, hat l (Addr.mk b 0 none) = some (.int .u8 aa) ∧
 if ((r.toNat : Nat) : Int) < aa then (
 R (.bool false) l)
 else
 ∃ u : Int, hat l ((Addr.mk b 0 none).add 1) = some (.int .u8 u) ∧
 ∃ ag : UInt8, ((0 : Int) ≤ 1 ∧ d[Int.toNat 1]? = some ag) ∧
 if u < ((ag.toNat : Nat) : Int) then (
 R (.bool false) l)
 else
 ∃ ac : UInt8, ((0 : Int) ≤ 2 ∧ d[Int.toNat 2]? = some ac) ∧
 if ((ac.toNat : Nat) : Int) < 128 then (
 R (.bool false) l)
 else
 ∃ ae : UInt8, ((0 : Int) ≤ 2 ∧ d[Int.toNat 2]? = some ae) ∧
 if 191 < ((ae.toNat : Nat) : Int) then (
 R (.bool false) l)
 else
 ∃ aj : UInt8, ((0 : Int) ≤ 3 ∧ d[Int.toNat 3]? = some aj) ∧
 if ((aj.toNat : Nat) : Int) < 128 then (
 R (.bool false) l)
 else
 ∃ an : UInt8, ((0 : Int) ≤ 3 ∧ d[Int.toNat 3]? = some an) ∧
 if 191 < ((an.toNat : Nat) : Int) then (
 R (.bool false) l)
 else
 ∃ (ap ah : Nat), 4 = (ap : Int) ∧ ah = d.size ∧ ap ≤ ah ∧ ah ≤ d.size ∧
 (I7 (d.extract ap ah) l ∧ m7 (d.extract ap ah) l < m7 d H1))
 else
 R (.bool false) l)
 else
 R (.bool true) H1
namespace unicode_utf8_ValidString
set_option maxRecDepth 100000 in
theorem link {s : ByteArray} {H : Array Obj} {R : Value → Array Obj → Prop} (h : pt s H R) : C s H R := by
 refine T_en K0 169 Tryz.func83 ?_
 intro w0 Q hQ
 unfold pt at h
 refine T_su [(0, .string s)] ?_
 refine T_sr 0 K1 K2 ?_
 refine T_ne 1 [(0, .string s)] ?_
 refine T_s K3 K4 ?_
 refine T_b 0 K5 ?_
 obtain ⟨I7, m7, i1, i2⟩ := h
 refine S_loop (x := K6) (σ := ByteArray) (fun s_ => [(0, .string s_)]) (fun s_ H => I7 s_ H) (fun s_ H => m7 s_ H) (s : ByteArray) (by kernel_rfl) i1 sk ?_
 rintro d H1 i3
 have h := i2 d H1 i3
 refine T_su [(0, .string d)] ?_
 refine T_s K7 K8 ?_
 refine T_sr 1 K9 K10 ?_
 refine T_ne 3 [(0, .string d), (9, .bool (decide ((d.size : Int) > 0)))] ?_
 by_cases c4 : (d.size : Int) > 0
 ·rw [if_pos c4] at h
  have b5 : (decide ((d.size : Int) > 0)) = true := decide_eq_true c4
  refine T_cT 9 K11 K12 b5 ?_
  refine T_kt ?_
  refine T_b 1 K13 ?_
  refine T_sr 2 K14 K15 ?_
  refine T_n 1 [(0, .string d), (10, .string d)] ?_
  obtain ⟨c, q6, h⟩ := h
  refine T_v (some 11) (indexN 9 (.string d) (vi 0)) (.int .u8 ((c.toNat : Nat) : Int)) (fun w _ => indexStr_run (P := Tryz.prog) (t := 9) (s := d) (k := .i64) (i := 0) Tryz.underlying9 q6.1 q6.2 w) [(0, .string d), (11, .int .u8 ((c.toNat : Nat) : Int))] ?_
  refine T_ne 1 [(0, .string d), (3, .int .u8 ((c.toNat : Nat) : Int))] ?_
  refine T_s K16 K17 ?_
  refine T_sr 3 K18 K19 ?_
  refine T_ne 2 [(0, .string d), (3, .int .u8 ((c.toNat : Nat) : Int)), (13, .bool (decide (((c.toNat : Nat) : Int) < 128)))] ?_
  by_cases c7 : ((c.toNat : Nat) : Int) < 128
  ·rw [if_pos c7] at h
   have b8 : (decide (((c.toNat : Nat) : Int) < 128)) = true := decide_eq_true c7
   refine T_cT 13 K20 K21 b8 ?_
   refine T_sr 4 K22 K23 ?_
   refine T_n 1 [(14, .string d)] ?_
   obtain ⟨lo, hi, q9, q10, q11, q12, h⟩ := h
   refine T_v (some 15) (sliceN 9 (.string d) (some (vi 1)) none none) (.string (d.extract lo hi)) (fun w _ => sliceStr_run (P := Tryz.prog) (t := 9) (s := d) (some (vi 1)) none lo hi Tryz.underlying9 (.inr ⟨.i64, by rw [q9]⟩) (.inl ⟨rfl, q10⟩) q11 q12 w) [(15, .string (d.extract lo hi))] ?_
   refine T_ne 1 [(0, .string (d.extract lo hi))] ?_
   refine T_s K24 K25 ?_
   refine T_s K26 K27 ?_
   obtain ⟨J, h, j15⟩ := h
   refine S_join (σ := Bool) (fun s_ => [(0, .string (d.extract lo hi)), (24, .bool s_)]) (fun s_ H => J s_ H) ?_ ?_
   ·rintro bc H2 j16
    replace h := j15 bc H2 j16
    refine T_su [(0, .string (d.extract lo hi)), (24, .bool bc)] ?_
    refine S_then ?_
    obtain ⟨be, h, j18⟩ := h
    refine S_join (σ := ByteArray) (fun s_ => [(0, .string s_)]) (fun s_ H => be s_ H) ?_ ?_
    ·rintro bd H3 j19
     replace h := j18 bd H3 j19
     refine T_su [(0, .string bd)] ?_
     refine S_then ?_
     refine S_exit 1 (by kernel_rfl) ?_
     refine S_exitThen ?_
     refine S_exitHere ?_
     refine S_then ?_
     exact S_round (bd : ByteArray) sk h
    by_cases c20 : bc = true
    ·rw [if_pos c20] at h
     have b21 : bc = true := c20
     refine S_env [(0, .string (d.extract lo hi)), (24, .bool true)] (by simp only [b21, Bool.not_true, Bool.not_false]) ?_
     clear b21
     refine T_t 24 K28 K29 ?_
     refine T_sr 6 K30 K31 ?_
     refine T_n 1 [(25, .string (d.extract lo hi))] ?_
     obtain ⟨g, f, q22, q23, q24, q25, h⟩ := h
     refine T_v (some 26) (sliceN 9 (.string (d.extract lo hi)) (some (vi 8)) none none) (.string ((d.extract lo hi).extract g f)) (fun w _ => sliceStr_run (P := Tryz.prog) (t := 9) (s := (d.extract lo hi)) (some (vi 8)) none g f Tryz.underlying9 (.inr ⟨.i64, by rw [q22]⟩) (.inl ⟨rfl, q23⟩) q24 q25 w) [(26, .string ((d.extract lo hi).extract g f))] ?_
     refine T_ne 1 [(0, .string ((d.extract lo hi).extract g f))] ?_
     refine T_s K32 K33 ?_
     obtain ⟨bg, h, j28⟩ := h
     refine S_join (σ := Bool) (fun s_ => [(0, .string ((d.extract lo hi).extract g f)), (39, .bool s_)]) (fun s_ H => bg s_ H) ?_ ?_
     ·rintro bb H4 j29
      replace h := j28 bb H4 j29
      refine T_su [(0, .string ((d.extract lo hi).extract g f)), (39, .bool bb)] ?_
      refine S_then ?_
      by_cases c30 : bb = true
      ·rw [if_pos c30] at h
       have b31 : bb = true := c30
       refine S_env [(0, .string ((d.extract lo hi).extract g f)), (39, .bool true)] (by rw [b31]) ?_
       clear b31
       refine T_t 39 K34 K35 ?_
       refine T_sr 8 K36 K37 ?_
       refine T_n 1 [(40, .string ((d.extract lo hi).extract g f))] ?_
       obtain ⟨a8, a2, q32, q33, q34, q35, h⟩ := h
       refine T_v (some 41) (sliceN 9 (.string ((d.extract lo hi).extract g f)) (some (vi 16)) none none) (.string (((d.extract lo hi).extract g f).extract a8 a2)) (fun w _ => sliceStr_run (P := Tryz.prog) (t := 9) (s := ((d.extract lo hi).extract g f)) (some (vi 16)) none a8 a2 Tryz.underlying9 (.inr ⟨.i64, by rw [q32]⟩) (.inl ⟨rfl, q33⟩) q34 q35 w) [(41, .string (((d.extract lo hi).extract g f).extract a8 a2))] ?_
       refine T_ne 1 [(0, .string (((d.extract lo hi).extract g f).extract a8 a2))] ?_
       refine T_b 2 K38 ?_
       obtain ⟨bh, m40, i37, i38⟩ := h
       refine S_loop (x := K39) (σ := ByteArray) (fun s_ => [(0, .string s_)]) (fun s_ H => bh s_ H) (fun s_ H => m40 s_ H) ((((d.extract lo hi).extract g f).extract a8 a2) : ByteArray) (by kernel_rfl) i37 sk ?_
       rintro e H5 i39
       have h := i38 e H5 i39
       refine T_su [(0, .string e)] ?_
       refine T_s K40 K41 ?_
       refine T_s K42 K43 ?_
       by_cases c40 : (e.size : Int) > 32
       ·rw [if_pos c40] at h
        have b41 : (decide ((e.size : Int) > 32)) = true := decide_eq_true c40
        obtain ⟨ao, ad, q42, q43, q44, q45, h⟩ := h
        obtain ⟨am, af, q47, q48, q49, q50, h⟩ := h
        obtain ⟨ar, al, q52, q53, q54, q55, h⟩ := h
        refine S_regionG 9 (Code.ops K42) [] 21 (bv 21 0) (by kernel_rfl) (by kernel_rfl) (by kernel_rfl) (by kernel_rfl) (by kernel_rfl) (show FactsAt _ _ _ from trivial) ?_
        refine T_gp 0 (some 42) (.string e) (bv 21 1) [(0, .string e), (42, .string e)] ?_
        refine T_gp 1 (some 43) (vi (e.size : Int)) (bv 21 3) [(0, .string e), (43, vi (e.size : Int))] ?_
        refine T_gp 2 (some 44) (.bool (decide ((e.size : Int) > 32))) (bv 21 7) [(0, .string e), (44, .bool (decide ((e.size : Int) > 32)))] ?_
        refine T_gp 3 (some 45) (.bool (decide ((e.size : Int) > 32))) (bv 21 15) [(0, .string e), (45, .bool (decide ((e.size : Int) > 32)))] ?_
        refine G_env [(0, .string e), (45, .bool true)] (by rw [b41]) ?_
        refine T_gp 4 (some 46) (.string e) (bv 21 31) [(0, .string e), (45, .bool true), (46, .string e)] ?_
        refine T_gp 6 (some 48) (.string e) (bv 21 95) [(0, .string e), (45, .bool true), (46, .string e), (48, .string e)] ?_
        refine T_g 7 (some 49) (.string (e.extract ao ad)) (bv 21 223) [(0, .string e), (45, .bool true), (46, .string e), (49, .string (e.extract ao ad))] (sliceN 9 (.string e) (some (vi 8)) none none) (fun _ w _ _ _ => sliceStr_run (P := Tryz.prog) (t := 9) (s := e) (some (vi 8)) none ao ad Tryz.underlying9 (.inr ⟨.i64, by rw [q42]⟩) (.inl ⟨rfl, q43⟩) q44 q45 w) ?_
        refine T_gp 10 (some 52) (.string e) (bv 21 1247) [(0, .string e), (45, .bool true), (46, .string e), (49, .string (e.extract ao ad)), (52, .string e)] ?_
        refine T_g 11 (some 53) (.string (e.extract am af)) (bv 21 3295) [(0, .string e), (45, .bool true), (46, .string e), (49, .string (e.extract ao ad)), (53, .string (e.extract am af))] (sliceN 9 (.string e) (some (vi 16)) none none) (fun _ w _ _ _ => sliceStr_run (P := Tryz.prog) (t := 9) (s := e) (some (vi 16)) none am af Tryz.underlying9 (.inr ⟨.i64, by rw [q47]⟩) (.inl ⟨rfl, q48⟩) q49 q50 w) ?_
        refine T_gp 13 (some 55) (.string e) (bv 21 11487) [(0, .string e), (45, .bool true), (46, .string e), (49, .string (e.extract ao ad)), (53, .string (e.extract am af)), (55, .string e)] ?_
        refine T_g 14 (some 56) (.string (e.extract ar al)) (bv 21 27871) [(0, .string e), (45, .bool true), (46, .string e), (49, .string (e.extract ao ad)), (53, .string (e.extract am af)), (56, .string (e.extract ar al))] (sliceN 9 (.string e) (some (vi 24)) none none) (fun _ w _ _ _ => sliceStr_run (P := Tryz.prog) (t := 9) (s := e) (some (vi 24)) none ar al Tryz.underlying9 (.inr ⟨.i64, by rw [q52]⟩) (.inl ⟨rfl, q53⟩) q54 q55 w) ?_
        refine G_call 5 (some 47) (bv 21 27903) 137 #[.string e] (by kernel_rfl) (fun _=>by kernel_rfl) h (by kernel_rfl) ?_; clear h
        rintro v H6 ⟨x, rfl, h⟩
        refine ⟨[(0, .string e), (45, .bool true), (47, vu x), (49, .string (e.extract ao ad)), (53, .string (e.extract am af)), (56, .string (e.extract ar al))], pk, (show FactsAt _ _ _ from trivial), ?_⟩
        refine G_call 8 (some 50) (bv 21 28159) 137 #[.string (e.extract ao ad)] (by kernel_rfl) (fun _=>by kernel_rfl) h (by kernel_rfl) ?_; clear h
        rintro bl H7 ⟨m, rfl, h⟩
        refine ⟨[(0, .string e), (45, .bool true), (47, vu x), (50, vu m), (53, .string (e.extract am af)), (56, .string (e.extract ar al))], pk, (show FactsAt _ _ _ from trivial), ?_⟩
        refine T_g 9 (some 51) (vu (ior .u64 x m)) (bv 21 28671) [(0, .string e), (45, .bool true), (51, vu (ior .u64 x m)), (53, .string (e.extract am af)), (56, .string (e.extract ar al))] (pure (.value (vu (ior .u64 x m))) : Sem Next) (fun _ _ _ _ _ => rfl) ?_
        refine G_call 12 (some 54) (bv 21 32767) 137 #[.string (e.extract am af)] (by kernel_rfl) (fun _=>by kernel_rfl) h (by kernel_rfl) ?_; clear h
        rintro bn H8 ⟨o, rfl, h⟩
        refine ⟨[(0, .string e), (45, .bool true), (51, vu (ior .u64 x m)), (54, vu o), (56, .string (e.extract ar al))], pk, (show FactsAt _ _ _ from trivial), ?_⟩
        refine G_call 15 (some 57) (bv 21 65535) 137 #[.string (e.extract ar al)] (by kernel_rfl) (fun _=>by kernel_rfl) h (by kernel_rfl) ?_; clear h
        rintro bp H9 ⟨p, rfl, h⟩
        refine ⟨[(0, .string e), (45, .bool true), (51, vu (ior .u64 x m)), (54, vu o), (57, vu p)], pk, (show FactsAt _ _ _ from trivial), ?_⟩
        refine T_g 16 (some 58) (vu (ior .u64 o p)) (bv 21 131071) [(0, .string e), (45, .bool true), (51, vu (ior .u64 x m)), (58, vu (ior .u64 o p))] (pure (.value (vu (ior .u64 o p))) : Sem Next) (fun _ _ _ _ _ => rfl) ?_
        refine T_g 17 (some 59) (vu (ior .u64 (ior .u64 x m) (ior .u64 o p))) (bv 21 262143) [(0, .string e), (45, .bool true), (59, vu (ior .u64 (ior .u64 x m) (ior .u64 o p)))] (pure (.value (vu (ior .u64 (ior .u64 x m) (ior .u64 o p)))) : Sem Next) (fun _ _ _ _ _ => rfl) ?_
        refine T_g 18 (some 60) (vu (iand .u64 (ior .u64 (ior .u64 x m) (ior .u64 o p)) 9259542123273814144)) (bv 21 524287) [(0, .string e), (45, .bool true), (60, vu (iand .u64 (ior .u64 (ior .u64 x m) (ior .u64 o p)) 9259542123273814144))] (pure (.value (vu (iand .u64 (ior .u64 (ior .u64 x m) (ior .u64 o p)) 9259542123273814144))) : Sem Next) (fun _ _ _ _ _ => rfl) ?_
        refine T_g 19 (some 61) (.bool ((iand .u64 (ior .u64 (ior .u64 x m) (ior .u64 o p)) 9259542123273814144) == 0)) (bv 21 1048575) [(0, .string e), (45, .bool true), (61, .bool ((iand .u64 (ior .u64 (ior .u64 x m) (ior .u64 o p)) 9259542123273814144) == 0))] (pure (.value (.bool ((iand .u64 (ior .u64 (ior .u64 x m) (ior .u64 o p)) 9259542123273814144) == 0))) : Sem Next) (fun _ _ _ _ _ => rfl) ?_
        refine T_g 20 (some 62) (.bool ((iand .u64 (ior .u64 (ior .u64 x m) (ior .u64 o p)) 9259542123273814144) == 0)) (bv 21 2097151) [(0, .string e), (62, .bool ((iand .u64 (ior .u64 (ior .u64 x m) (ior .u64 o p)) 9259542123273814144) == 0))] (pure (.value (.bool ((iand .u64 (ior .u64 (ior .u64 x m) (ior .u64 o p)) 9259542123273814144) == 0))) : Sem Next) (fun _ _ _ _ _ => rfl) ?_
        refine G_sub [(0, .string e), (62, .bool ((iand .u64 (ior .u64 (ior .u64 x m) (ior .u64 o p)) 9259542123273814144) == 0))] sk ?_
        refine G_end (by kernel_rfl) ?_
        refine S_then ?_
        by_cases c57 : (iand .u64 (ior .u64 (ior .u64 x m) (ior .u64 o p)) 9259542123273814144) = 0
        ·rw [if_pos c57] at h
         have b58 : ((iand .u64 (ior .u64 (ior .u64 x m) (ior .u64 o p)) 9259542123273814144) == 0) = true := beq_iff_eq.mpr c57
         refine T_cT 62 K44 K45 b58 ?_
         refine T_kt ?_
         refine T_b 3 K46 ?_
         refine T_r 10 K46 ?_
         refine T_n 1 [(63, .string e)] ?_
         obtain ⟨a4, ax, q59, q60, q61, q62, h⟩ := h
         refine T_v (some 64) (sliceN 9 (.string e) (some (vi 32)) none none) (.string (e.extract a4 ax)) (fun w _ => sliceStr_run (P := Tryz.prog) (t := 9) (s := e) (some (vi 32)) none a4 ax Tryz.underlying9 (.inr ⟨.i64, by rw [q59]⟩) (.inl ⟨rfl, q60⟩) q61 q62 w) [(64, .string (e.extract a4 ax))] ?_
         refine T_n 1 [(0, .string (e.extract a4 ax))] ?_
         refine N_end (by kernel_rfl) ?_
         refine S_blockEnd ?_
         refine S_then ?_
         exact S_round ((e.extract a4 ax) : ByteArray) sk h
        rw [if_neg c57] at h
        have b58 : ((iand .u64 (ior .u64 (ior .u64 x m) (ior .u64 o p)) 9259542123273814144) == 0) = false := beq_eq_false_iff_ne.mpr c57
        refine T_cF 62 K44 K45 b58 ?_
        refine S_exit 2 (by kernel_rfl) ?_
        refine S_exitThen ?_
        refine S_exitThen ?_
        refine S_exitHere ?_
        refine S_then ?_
        exact S_meet (e : ByteArray) sk h
       rw [if_neg c40] at h
       have b41 : (decide ((e.size : Int) > 32)) = false := decide_eq_false c40
       refine S_regionG 9 (Code.ops K42) [] 21 (bv 21 0) (by kernel_rfl) (by kernel_rfl) (by kernel_rfl) (by kernel_rfl) (by kernel_rfl) (show FactsAt _ _ _ from trivial) ?_
       refine T_gp 0 (some 42) (.string e) (bv 21 1) [(0, .string e), (42, .string e)] ?_
       refine T_gp 1 (some 43) (vi (e.size : Int)) (bv 21 3) [(0, .string e), (43, vi (e.size : Int))] ?_
       refine T_gp 2 (some 44) (.bool (decide ((e.size : Int) > 32))) (bv 21 7) [(0, .string e), (44, .bool (decide ((e.size : Int) > 32)))] ?_
       refine T_gp 3 (some 45) (.bool (decide ((e.size : Int) > 32))) (bv 21 15) [(0, .string e), (45, .bool (decide ((e.size : Int) > 32)))] ?_
       refine G_env [(0, .string e), (45, .bool false)] (by rw [b41]) ?_
       refine T_gs 4 (some 46) (bv 21 31) [(0, .string e), (45, .bool false), (46, undef)] ?_
       refine T_gs 5 (some 47) (bv 21 63) [(0, .string e), (45, .bool false), (47, undef)] ?_
       refine T_gs 6 (some 48) (bv 21 127) [(0, .string e), (45, .bool false), (47, undef), (48, undef)] ?_
       refine T_gs 7 (some 49) (bv 21 255) [(0, .string e), (45, .bool false), (47, undef), (49, undef)] ?_
       refine T_gs 8 (some 50) (bv 21 511) [(0, .string e), (45, .bool false), (47, undef), (50, undef)] ?_
       refine T_gs 9 (some 51) (bv 21 1023) [(0, .string e), (45, .bool false), (51, undef)] ?_
       refine T_gs 10 (some 52) (bv 21 2047) [(0, .string e), (45, .bool false), (51, undef), (52, undef)] ?_
       refine T_gs 11 (some 53) (bv 21 4095) [(0, .string e), (45, .bool false), (51, undef), (53, undef)] ?_
       refine T_gs 12 (some 54) (bv 21 8191) [(0, .string e), (45, .bool false), (51, undef), (54, undef)] ?_
       refine T_gs 13 (some 55) (bv 21 16383) [(0, .string e), (45, .bool false), (51, undef), (54, undef), (55, undef)] ?_
       refine T_gs 14 (some 56) (bv 21 32767) [(0, .string e), (45, .bool false), (51, undef), (54, undef), (56, undef)] ?_
       refine T_gs 15 (some 57) (bv 21 65535) [(0, .string e), (45, .bool false), (51, undef), (54, undef), (57, undef)] ?_
       refine T_gs 16 (some 58) (bv 21 131071) [(0, .string e), (45, .bool false), (51, undef), (58, undef)] ?_
       refine T_gs 17 (some 59) (bv 21 262143) [(0, .string e), (45, .bool false), (59, undef)] ?_
       refine T_gs 18 (some 60) (bv 21 524287) [(0, .string e), (45, .bool false), (60, undef)] ?_
       refine T_gs 19 (some 61) (bv 21 1048575) [(0, .string e), (45, .bool false), (61, undef)] ?_
       refine T_gp 20 (some 62) (.bool false) (bv 21 2097151) [(0, .string e), (62, .bool false)] ?_
       refine G_sub [(0, .string e), (62, .bool false)] sk ?_
       refine G_end (by kernel_rfl) ?_
       refine S_then ?_
       refine T_f 62 K44 K45 ?_
       refine S_exit 2 (by kernel_rfl) ?_
       refine S_exitThen ?_
       refine S_exitThen ?_
       refine S_exitHere ?_
       refine S_then ?_
       exact S_meet (e : ByteArray) sk h
      rw [if_neg c30] at h
      have b31 : bb = false := eq_false_of_ne_true c30
      refine S_env [(0, .string ((d.extract lo hi).extract g f)), (39, .bool false)] (by rw [b31]) ?_
      clear b31
      refine T_f 39 K34 K35 ?_
      refine T_kt ?_
      exact S_meet (((d.extract lo hi).extract g f) : ByteArray) sk h
     by_cases c64 : (((d.extract lo hi).extract g f).size : Int) > 16
     ·rw [if_pos c64] at h
      have b65 : (decide ((((d.extract lo hi).extract g f).size : Int) > 16)) = true := decide_eq_true c64
      obtain ⟨a7, a1, q66, q67, q68, q69, h⟩ := h
      refine S_regionG 7 (Code.ops K32) [] 13 (bv 13 0) (by kernel_rfl) (by kernel_rfl) (by kernel_rfl) (by kernel_rfl) (by kernel_rfl) (show FactsAt _ _ _ from trivial) ?_
      refine T_gp 0 (some 27) (.string ((d.extract lo hi).extract g f)) (bv 13 1) [(0, .string ((d.extract lo hi).extract g f)), (27, .string ((d.extract lo hi).extract g f))] ?_
      refine T_gp 1 (some 28) (vi (((d.extract lo hi).extract g f).size : Int)) (bv 13 3) [(0, .string ((d.extract lo hi).extract g f)), (28, vi (((d.extract lo hi).extract g f).size : Int))] ?_
      refine T_gp 2 (some 29) (.bool (decide ((((d.extract lo hi).extract g f).size : Int) > 16))) (bv 13 7) [(0, .string ((d.extract lo hi).extract g f)), (29, .bool (decide ((((d.extract lo hi).extract g f).size : Int) > 16)))] ?_
      refine T_gp 3 (some 30) (.bool (decide ((((d.extract lo hi).extract g f).size : Int) > 16))) (bv 13 15) [(0, .string ((d.extract lo hi).extract g f)), (30, .bool (decide ((((d.extract lo hi).extract g f).size : Int) > 16)))] ?_
      refine G_env [(0, .string ((d.extract lo hi).extract g f)), (30, .bool true)] (by rw [b65]) ?_
      refine T_gp 4 (some 31) (.string ((d.extract lo hi).extract g f)) (bv 13 31) [(0, .string ((d.extract lo hi).extract g f)), (30, .bool true), (31, .string ((d.extract lo hi).extract g f))] ?_
      refine T_gp 6 (some 33) (.string ((d.extract lo hi).extract g f)) (bv 13 95) [(0, .string ((d.extract lo hi).extract g f)), (30, .bool true), (31, .string ((d.extract lo hi).extract g f)), (33, .string ((d.extract lo hi).extract g f))] ?_
      refine T_g 7 (some 34) (.string (((d.extract lo hi).extract g f).extract a7 a1)) (bv 13 223) [(0, .string ((d.extract lo hi).extract g f)), (30, .bool true), (31, .string ((d.extract lo hi).extract g f)), (34, .string (((d.extract lo hi).extract g f).extract a7 a1))] (sliceN 9 (.string ((d.extract lo hi).extract g f)) (some (vi 8)) none none) (fun _ w _ _ _ => sliceStr_run (P := Tryz.prog) (t := 9) (s := ((d.extract lo hi).extract g f)) (some (vi 8)) none a7 a1 Tryz.underlying9 (.inr ⟨.i64, by rw [q66]⟩) (.inl ⟨rfl, q67⟩) q68 q69 w) ?_
      refine G_call 5 (some 32) (bv 13 255) 137 #[.string ((d.extract lo hi).extract g f)] (by kernel_rfl) (fun _=>by kernel_rfl) h (by kernel_rfl) ?_; clear h
      rintro bq bo ⟨ab, rfl, h⟩
      refine ⟨[(0, .string ((d.extract lo hi).extract g f)), (30, .bool true), (32, vu ab), (34, .string (((d.extract lo hi).extract g f).extract a7 a1))], pk, (show FactsAt _ _ _ from trivial), ?_⟩
      refine G_call 8 (some 35) (bv 13 511) 137 #[.string (((d.extract lo hi).extract g f).extract a7 a1)] (by kernel_rfl) (fun _=>by kernel_rfl) h (by kernel_rfl) ?_; clear h
      rintro bi bk ⟨ak, rfl, h⟩
      refine ⟨[(0, .string ((d.extract lo hi).extract g f)), (30, .bool true), (32, vu ab), (35, vu ak)], pk, (show FactsAt _ _ _ from trivial), ?_⟩
      refine T_g 9 (some 36) (vu (ior .u64 ab ak)) (bv 13 1023) [(0, .string ((d.extract lo hi).extract g f)), (30, .bool true), (36, vu (ior .u64 ab ak))] (pure (.value (vu (ior .u64 ab ak))) : Sem Next) (fun _ _ _ _ _ => rfl) ?_
      refine T_g 10 (some 37) (vu (iand .u64 (ior .u64 ab ak) 9259542123273814144)) (bv 13 2047) [(0, .string ((d.extract lo hi).extract g f)), (30, .bool true), (37, vu (iand .u64 (ior .u64 ab ak) 9259542123273814144))] (pure (.value (vu (iand .u64 (ior .u64 ab ak) 9259542123273814144))) : Sem Next) (fun _ _ _ _ _ => rfl) ?_
      refine T_g 11 (some 38) (.bool ((iand .u64 (ior .u64 ab ak) 9259542123273814144) == 0)) (bv 13 4095) [(0, .string ((d.extract lo hi).extract g f)), (30, .bool true), (38, .bool ((iand .u64 (ior .u64 ab ak) 9259542123273814144) == 0))] (pure (.value (.bool ((iand .u64 (ior .u64 ab ak) 9259542123273814144) == 0))) : Sem Next) (fun _ _ _ _ _ => rfl) ?_
      refine T_g 12 (some 39) (.bool ((iand .u64 (ior .u64 ab ak) 9259542123273814144) == 0)) (bv 13 8191) [(0, .string ((d.extract lo hi).extract g f)), (39, .bool ((iand .u64 (ior .u64 ab ak) 9259542123273814144) == 0))] (pure (.value (.bool ((iand .u64 (ior .u64 ab ak) 9259542123273814144) == 0))) : Sem Next) (fun _ _ _ _ _ => rfl) ?_
      refine G_sub [(0, .string ((d.extract lo hi).extract g f)), (39, .bool ((iand .u64 (ior .u64 ab ak) 9259542123273814144) == 0))] sk ?_
      refine G_end (by kernel_rfl) ?_
      refine S_then ?_
      exact S_meet (((iand .u64 (ior .u64 ab ak) 9259542123273814144) == 0) : Bool) sk h
     rw [if_neg c64] at h
     have b65 : (decide ((((d.extract lo hi).extract g f).size : Int) > 16)) = false := decide_eq_false c64
     refine S_regionG 7 (Code.ops K32) [] 13 (bv 13 0) (by kernel_rfl) (by kernel_rfl) (by kernel_rfl) (by kernel_rfl) (by kernel_rfl) (show FactsAt _ _ _ from trivial) ?_
     refine T_gp 0 (some 27) (.string ((d.extract lo hi).extract g f)) (bv 13 1) [(0, .string ((d.extract lo hi).extract g f)), (27, .string ((d.extract lo hi).extract g f))] ?_
     refine T_gp 1 (some 28) (vi (((d.extract lo hi).extract g f).size : Int)) (bv 13 3) [(0, .string ((d.extract lo hi).extract g f)), (28, vi (((d.extract lo hi).extract g f).size : Int))] ?_
     refine T_gp 2 (some 29) (.bool (decide ((((d.extract lo hi).extract g f).size : Int) > 16))) (bv 13 7) [(0, .string ((d.extract lo hi).extract g f)), (29, .bool (decide ((((d.extract lo hi).extract g f).size : Int) > 16)))] ?_
     refine T_gp 3 (some 30) (.bool (decide ((((d.extract lo hi).extract g f).size : Int) > 16))) (bv 13 15) [(0, .string ((d.extract lo hi).extract g f)), (30, .bool (decide ((((d.extract lo hi).extract g f).size : Int) > 16)))] ?_
     refine G_env [(0, .string ((d.extract lo hi).extract g f)), (30, .bool false)] (by rw [b65]) ?_
     refine T_gs 4 (some 31) (bv 13 31) [(0, .string ((d.extract lo hi).extract g f)), (30, .bool false), (31, undef)] ?_
     refine T_gs 5 (some 32) (bv 13 63) [(0, .string ((d.extract lo hi).extract g f)), (30, .bool false), (32, undef)] ?_
     refine T_gs 6 (some 33) (bv 13 127) [(0, .string ((d.extract lo hi).extract g f)), (30, .bool false), (32, undef), (33, undef)] ?_
     refine T_gs 7 (some 34) (bv 13 255) [(0, .string ((d.extract lo hi).extract g f)), (30, .bool false), (32, undef), (34, undef)] ?_
     refine T_gs 8 (some 35) (bv 13 511) [(0, .string ((d.extract lo hi).extract g f)), (30, .bool false), (32, undef), (35, undef)] ?_
     refine T_gs 9 (some 36) (bv 13 1023) [(0, .string ((d.extract lo hi).extract g f)), (30, .bool false), (36, undef)] ?_
     refine T_gs 10 (some 37) (bv 13 2047) [(0, .string ((d.extract lo hi).extract g f)), (30, .bool false), (37, undef)] ?_
     refine T_gs 11 (some 38) (bv 13 4095) [(0, .string ((d.extract lo hi).extract g f)), (30, .bool false), (38, undef)] ?_
     refine T_gp 12 (some 39) (.bool false) (bv 13 8191) [(0, .string ((d.extract lo hi).extract g f)), (39, .bool false)] ?_
     refine G_sub [(0, .string ((d.extract lo hi).extract g f)), (39, .bool false)] sk ?_
     refine G_end (by kernel_rfl) ?_
     refine S_then ?_
     exact S_meet (false : Bool) sk h
    rw [if_neg c20] at h
    have b21 : bc = false := eq_false_of_ne_true c20
    refine S_env [(0, .string (d.extract lo hi)), (24, .bool false)] (by simp only [b21, Bool.not_true, Bool.not_false]) ?_
    clear b21
    refine T_f 24 K28 K29 ?_
    refine T_kt ?_
    exact S_meet ((d.extract lo hi) : ByteArray) sk h
   refine T_r 5 K26 ?_
   refine T_n 4 [(0, .string (d.extract lo hi)), (19, .bool (decide (((d.extract lo hi).size : Int) > 8)))] ?_
   by_cases c71 : ((d.extract lo hi).size : Int) > 8
   ·rw [if_pos c71] at h
    have b72 : (decide (((d.extract lo hi).size : Int) > 8)) = true := decide_eq_true c71
    refine N_env [(0, .string (d.extract lo hi)), (19, .bool true)] (by rw [b72]) ?_
    clear b72
    refine T_n 1 [(0, .string (d.extract lo hi)), (19, .bool true), (20, .string (d.extract lo hi))] ?_
    refine T_c (some 21) h ?_; clear h
    rintro bj bm ⟨bf, rfl, h⟩
    refine ⟨[(0, .string (d.extract lo hi)), (19, .bool true), (21, vu bf)], pk, ?_⟩
    refine T_ne 3 [(0, .string (d.extract lo hi)), (24, .bool ((iand .u64 bf 9259542123273814144) == 0))] ?_
    exact S_meet (((iand .u64 bf 9259542123273814144) == 0) : Bool) sk h
   rw [if_neg c71] at h
   have b72 : (decide (((d.extract lo hi).size : Int) > 8)) = false := decide_eq_false c71
   refine N_env [(0, .string (d.extract lo hi)), (19, .bool false)] (by rw [b72]) ?_
   clear b72
   refine T_ne 5 [(0, .string (d.extract lo hi)), (24, .bool false)] ?_
   exact S_meet (false : Bool) sk h
  rw [if_neg c7] at h
  have b8 : (decide (((c.toNat : Nat) : Int) < 128)) = false := decide_eq_false c7
  refine T_cF 13 K20 K21 b8 ?_
  refine T_kt ?_
  refine T_sr 11 K47 K48 ?_
  refine T_n 1 [(0, .string d), (65, .int .u8 ((c.toNat : Nat) : Int))] ?_
  obtain ⟨q73, h⟩ := h
  refine T_v (some 66) (indexAtN 218 (vp (pa 0)) (.int .u8 ((c.toNat : Nat) : Int))) (vp (some ((Addr.mk 0 0 none).add (Int.toNat ((c.toNat : Nat) : Int) * 1)))) (fun w _ => indexArr_run (P := Tryz.prog) (t := 218) (elem := 5) (sz := 1) (n := 256) (a := (Addr.mk 0 0 none)) (k := .u8) (i := ((c.toNat : Nat) : Int)) Tryz.underlying218 (fun _=>by kernel_rfl) q73.1 q73.2 w) [(0, .string d), (66, vp (some ((Addr.mk 0 0 none).add (Int.toNat ((c.toNat : Nat) : Int) * 1))))] ?_
  obtain ⟨j, q74, h⟩ := h
  refine T_l (some 67) 5 q74 [(0, .string d), (67, .int .u8 j)] ?_
  refine T_ne 1 [(0, .string d), (4, .int .u8 j)] ?_
  refine T_sr 12 K49 K50 ?_
  refine T_ne 4 [(0, .string d), (4, .int .u8 j), (5, vi (IntKind.wrap .i64 (iand .u8 j 7)))] ?_
  refine T_sr 13 K51 K52 ?_
  refine T_n 2 [(0, .string d), (5, vi (IntKind.wrap .i64 (iand .u8 j 7))), (72, .int .u8 (ishr .u8 j 4))] ?_
  obtain ⟨q75, h⟩ := h
  refine T_v (some 73) (indexAtN 221 (vp (pa 1)) (.int .u8 (ishr .u8 j 4))) (vp (some ((Addr.mk 1 0 none).add (Int.toNat (ishr .u8 j 4) * 2)))) (fun w _ => indexArr_run (P := Tryz.prog) (t := 221) (elem := 220) (sz := 2) (n := 16) (a := (Addr.mk 1 0 none)) (k := .u8) (i := (ishr .u8 j 4)) Tryz.underlying221 (fun _=>by kernel_rfl) q75.1 q75.2 w) [(0, .string d), (5, vi (IntKind.wrap .i64 (iand .u8 j 7))), (73, vp (some ((Addr.mk 1 0 none).add (Int.toNat (ishr .u8 j 4) * 2))))] ?_
  obtain ⟨a9, ba, q76, h⟩ := h
  refine T_v (some 74) (loadN 220 (vp (some ((Addr.mk 1 0 none).add (Int.toNat (ishr .u8 j 4) * 2))))) (.agg #[.int .u8 a9, .int .u8 ba]) (loadN_run (loadOK_row (fun _=>by kernel_rfl) (fun _=>by kernel_rfl) q76)) [(0, .string d), (5, vi (IntKind.wrap .i64 (iand .u8 j 7))), (74, .agg #[.int .u8 a9, .int .u8 ba])] ?_
  refine T_nw (some 6) (fun b => vp (pa b)) (.cells #[.int .u8 0, .int .u8 0] 220) ?_
  intro b H13 e77 e78
  replace h := h b H13 e77 e78
  refine ⟨[(0, .string d), (5, vi (IntKind.wrap .i64 (iand .u8 j 7))), (6, vp (pa b)), (74, .agg #[.int .u8 a9, .int .u8 ba])], pk, ?_⟩
  obtain ⟨q80, h⟩ := h
  refine N_skipop none (storeN 220 (vp (pa b)) (.agg #[.int .u8 a9, .int .u8 ba])) (fun Hz => Hz = hputs H13 (Addr.mk b 0 none) [.int .u8 a9, .int .u8 ba] 0) (fun _=>by kernel_rfl) (ss_store [.int .u8 a9, .int .u8 ba] 2 (by kernel_rfl) (by kernel_rfl) (fun _=>by kernel_rfl) (by kernel_rfl) q80) ?_
  intro l e79
  replace h := h l e79
  refine ⟨[(0, .string d), (5, vi (IntKind.wrap .i64 (iand .u8 j 7))), (6, vp (pa b))], pk, ?_⟩
  refine T_e ?_
  refine T_sr 14 K53 K54 ?_
  refine T_ne 1 [(0, .string d), (6, vp (pa b)), (75, vi (IntKind.wrap .i64 (iand .u8 j 7)))] ?_
  refine T_b 4 K55 ?_
  refine T_sr 16 K56 K57 ?_
  refine T_ne 2 [(0, .string d), (6, vp (pa b)), (75, vi (IntKind.wrap .i64 (iand .u8 j 7))), (76, .bool ((IntKind.wrap .i64 (iand .u8 j 7)) == 2))] ?_
  by_cases c81 : (IntKind.wrap .i64 (iand .u8 j 7)) = 2
  ·rw [if_pos c81] at h
   have b82 : ((IntKind.wrap .i64 (iand .u8 j 7)) == 2) = true := beq_iff_eq.mpr c81
   refine T_cT 76 K58 K59 b82 ?_
   refine T_s K60 K61 ?_
   refine T_s K62 K63 ?_
   refine T_rq 17 K62 ?_
   refine T_q (some 78) (.string d) [(0, .string d), (6, vp (pa b)), (78, .string d)] ?_
   refine T_q (some 79) (vi (d.size : Int)) [(0, .string d), (6, vp (pa b)), (79, vi (d.size : Int))] ?_
   refine T_q (some 80) (.bool (decide ((d.size : Int) < 2))) [(0, .string d), (6, vp (pa b)), (80, .bool (decide ((d.size : Int) < 2)))] ?_
   refine T_q (some 81) (.bool (decide ((d.size : Int) < 2))) [(0, .string d), (6, vp (pa b)), (81, .bool (decide ((d.size : Int) < 2)))] ?_
   by_cases c83 : (d.size : Int) < 2
   ·rw [if_pos c83] at h
    have b84 : (decide ((d.size : Int) < 2)) = true := decide_eq_true c83
    refine Q_env [(0, .string d), (6, vp (pa b)), (81, .bool true)] (by rw [b84]) ?_
    clear b84
    refine T_q (some 82) (undef) [(0, .string d), (6, vp (pa b)), (81, .bool true), (82, undef)] ?_
    refine T_q (some 83) (undef) [(0, .string d), (6, vp (pa b)), (81, .bool true), (83, undef)] ?_
    refine T_q (some 84) (undef) [(0, .string d), (6, vp (pa b)), (81, .bool true), (83, undef), (84, undef)] ?_
    refine T_q (some 85) (undef) [(0, .string d), (6, vp (pa b)), (81, .bool true), (83, undef), (85, undef)] ?_
    refine T_q (some 86) (undef) [(0, .string d), (6, vp (pa b)), (81, .bool true), (86, undef)] ?_
    refine T_q (some 87) (.bool true) [(0, .string d), (6, vp (pa b)), (87, .bool true)] ?_
    refine T_q (some 88) (.bool true) [(0, .string d), (6, vp (pa b)), (88, .bool true)] ?_
    refine T_q (some 89) (undef) [(0, .string d), (88, .bool true), (89, undef)] ?_
    refine T_q (some 90) (undef) [(0, .string d), (88, .bool true), (90, undef)] ?_
    refine T_q (some 91) (undef) [(0, .string d), (88, .bool true), (90, undef), (91, undef)] ?_
    refine T_q (some 92) (undef) [(0, .string d), (88, .bool true), (90, undef), (92, undef)] ?_
    refine T_q (some 93) (undef) [(0, .string d), (88, .bool true), (93, undef)] ?_
    refine T_q (some 94) (.bool true) [(0, .string d), (94, .bool true)] ?_
    refine Q_sub [(0, .string d), (94, .bool true)] sk ?_
    refine T_qe ?_
    refine T_t 94 K64 K65 ?_
    refine T_sr 18 K66 K67 ?_
    refine T_ne 1 [(2, .bool false)] ?_
    exact T_ret [2] [.bool false] hQ h
   rw [if_neg c83] at h
   have b84 : (decide ((d.size : Int) < 2)) = false := decide_eq_false c83
   refine Q_env [(0, .string d), (6, vp (pa b)), (81, .bool false)] (by rw [b84]) ?_
   clear b84
   refine T_q (some 82) (.string d) [(0, .string d), (6, vp (pa b)), (81, .bool false), (82, .string d)] ?_
   obtain ⟨av, q85, h⟩ := h
   refine Q_op (some 83) (indexN 9 (.string d) (vi 1)) (.int .u8 ((av.toNat : Nat) : Int)) (fun _=>by kernel_rfl) (fun w _ => indexStr_run (P := Tryz.prog) (t := 9) (s := d) (k := .i64) (i := 1) Tryz.underlying9 q85.1 q85.2 w) [(0, .string d), (6, vp (pa b)), (81, .bool false), (83, .int .u8 ((av.toNat : Nat) : Int))] pk ?_
   refine T_q (some 84) (vp (pa b)) [(0, .string d), (6, vp (pa b)), (81, .bool false), (83, .int .u8 ((av.toNat : Nat) : Int)), (84, vp (pa b))] ?_
   obtain ⟨a0, q86, h⟩ := h
   refine T_ql (some 85) 5 q86 [(0, .string d), (6, vp (pa b)), (81, .bool false), (83, .int .u8 ((av.toNat : Nat) : Int)), (85, .int .u8 a0)] ?_
   refine T_q (some 86) (.bool (decide (((av.toNat : Nat) : Int) < a0))) [(0, .string d), (6, vp (pa b)), (81, .bool false), (86, .bool (decide (((av.toNat : Nat) : Int) < a0)))] ?_
   refine T_q (some 87) (.bool (decide (((av.toNat : Nat) : Int) < a0))) [(0, .string d), (6, vp (pa b)), (87, .bool (decide (((av.toNat : Nat) : Int) < a0)))] ?_
   refine T_q (some 88) (.bool (decide (((av.toNat : Nat) : Int) < a0))) [(0, .string d), (6, vp (pa b)), (88, .bool (decide (((av.toNat : Nat) : Int) < a0)))] ?_
   by_cases c87 : ((av.toNat : Nat) : Int) < a0
   ·rw [if_pos c87] at h
    have b88 : (decide (((av.toNat : Nat) : Int) < a0)) = true := decide_eq_true c87
    refine Q_env [(0, .string d), (6, vp (pa b)), (88, .bool true)] (by rw [b88]) ?_
    clear b88
    refine T_q (some 89) (undef) [(0, .string d), (88, .bool true), (89, undef)] ?_
    refine T_q (some 90) (undef) [(0, .string d), (88, .bool true), (90, undef)] ?_
    refine T_q (some 91) (undef) [(0, .string d), (88, .bool true), (90, undef), (91, undef)] ?_
    refine T_q (some 92) (undef) [(0, .string d), (88, .bool true), (90, undef), (92, undef)] ?_
    refine T_q (some 93) (undef) [(0, .string d), (88, .bool true), (93, undef)] ?_
    refine T_q (some 94) (.bool true) [(0, .string d), (94, .bool true)] ?_
    refine Q_sub [(0, .string d), (94, .bool true)] sk ?_
    refine T_qe ?_
    refine T_t 94 K64 K65 ?_
    refine T_sr 18 K66 K67 ?_
    refine T_ne 1 [(2, .bool false)] ?_
    exact T_ret [2] [.bool false] hQ h
   rw [if_neg c87] at h
   have b88 : (decide (((av.toNat : Nat) : Int) < a0)) = false := decide_eq_false c87
   refine Q_env [(0, .string d), (6, vp (pa b)), (88, .bool false)] (by rw [b88]) ?_
   clear b88
   refine T_q (some 89) (vp (some ((Addr.mk b 0 none).add 1))) [(0, .string d), (88, .bool false), (89, vp (some ((Addr.mk b 0 none).add 1)))] ?_
   obtain ⟨y, q89, h⟩ := h
   refine T_ql (some 90) 5 q89 [(0, .string d), (88, .bool false), (90, .int .u8 y)] ?_
   refine T_q (some 91) (.string d) [(0, .string d), (88, .bool false), (90, .int .u8 y), (91, .string d)] ?_
   obtain ⟨a6, q90, h⟩ := h
   refine Q_op (some 92) (indexN 9 (.string d) (vi 1)) (.int .u8 ((a6.toNat : Nat) : Int)) (fun _=>by kernel_rfl) (fun w _ => indexStr_run (P := Tryz.prog) (t := 9) (s := d) (k := .i64) (i := 1) Tryz.underlying9 q90.1 q90.2 w) [(0, .string d), (88, .bool false), (90, .int .u8 y), (92, .int .u8 ((a6.toNat : Nat) : Int))] pk ?_
   refine T_q (some 93) (.bool (decide (y < ((a6.toNat : Nat) : Int)))) [(0, .string d), (88, .bool false), (93, .bool (decide (y < ((a6.toNat : Nat) : Int))))] ?_
   refine T_q (some 94) (.bool (decide (y < ((a6.toNat : Nat) : Int)))) [(0, .string d), (94, .bool (decide (y < ((a6.toNat : Nat) : Int))))] ?_
   refine Q_sub [(0, .string d), (94, .bool (decide (y < ((a6.toNat : Nat) : Int))))] sk ?_
   refine T_qe ?_
   by_cases c91 : y < ((a6.toNat : Nat) : Int)
   ·rw [if_pos c91] at h
    have b92 : (decide (y < ((a6.toNat : Nat) : Int))) = true := decide_eq_true c91
    refine T_cT 94 K64 K65 b92 ?_
    refine T_sr 18 K66 K67 ?_
    refine T_ne 1 [(2, .bool false)] ?_
    exact T_ret [2] [.bool false] hQ h
   rw [if_neg c91] at h
   have b92 : (decide (y < ((a6.toNat : Nat) : Int))) = false := decide_eq_false c91
   refine T_cF 94 K64 K65 b92 ?_
   refine T_kt ?_
   refine T_r 19 K61 ?_
   refine T_n 1 [(95, .string d)] ?_
   obtain ⟨a3, aw, q93, q94, q95, q96, h⟩ := h
   refine T_v (some 96) (sliceN 9 (.string d) (some (vi 2)) none none) (.string (d.extract a3 aw)) (fun w _ => sliceStr_run (P := Tryz.prog) (t := 9) (s := d) (some (vi 2)) none a3 aw Tryz.underlying9 (.inr ⟨.i64, by rw [q93]⟩) (.inl ⟨rfl, q94⟩) q95 q96 w) [(96, .string (d.extract a3 aw))] ?_
   refine T_n 1 [(0, .string (d.extract a3 aw))] ?_
   refine N_end (by kernel_rfl) ?_
   refine S_blockEnd ?_
   refine S_blockEnd ?_
   refine S_then ?_
   exact S_round ((d.extract a3 aw) : ByteArray) sk h
  rw [if_neg c81] at h
  have b82 : ((IntKind.wrap .i64 (iand .u8 j 7)) == 2) = false := beq_eq_false_iff_ne.mpr c81
  refine T_cF 76 K58 K59 b82 ?_
  refine T_sr 20 K68 K69 ?_
  refine T_ne 2 [(0, .string d), (6, vp (pa b)), (75, vi (IntKind.wrap .i64 (iand .u8 j 7))), (97, .bool ((IntKind.wrap .i64 (iand .u8 j 7)) == 3))] ?_
  by_cases c98 : (IntKind.wrap .i64 (iand .u8 j 7)) = 3
  ·rw [if_pos c98] at h
   have b99 : ((IntKind.wrap .i64 (iand .u8 j 7)) == 3) = true := beq_iff_eq.mpr c98
   refine T_cT 97 K70 K71 b99 ?_
   refine T_s K72 K73 ?_
   refine T_s K74 K75 ?_
   refine T_rq 21 K74 ?_
   refine T_q (some 99) (.string d) [(0, .string d), (6, vp (pa b)), (99, .string d)] ?_
   refine T_q (some 100) (vi (d.size : Int)) [(0, .string d), (6, vp (pa b)), (100, vi (d.size : Int))] ?_
   refine T_q (some 101) (.bool (decide ((d.size : Int) < 3))) [(0, .string d), (6, vp (pa b)), (101, .bool (decide ((d.size : Int) < 3)))] ?_
   refine T_q (some 102) (.bool (decide ((d.size : Int) < 3))) [(0, .string d), (6, vp (pa b)), (102, .bool (decide ((d.size : Int) < 3)))] ?_
   by_cases c100 : (d.size : Int) < 3
   ·rw [if_pos c100] at h
    have b101 : (decide ((d.size : Int) < 3)) = true := decide_eq_true c100
    refine Q_env [(0, .string d), (6, vp (pa b)), (102, .bool true)] (by rw [b101]) ?_
    clear b101
    refine T_q (some 103) (undef) [(0, .string d), (6, vp (pa b)), (102, .bool true), (103, undef)] ?_
    refine T_q (some 104) (undef) [(0, .string d), (6, vp (pa b)), (102, .bool true), (104, undef)] ?_
    refine T_q (some 105) (undef) [(0, .string d), (6, vp (pa b)), (102, .bool true), (104, undef), (105, undef)] ?_
    refine T_q (some 106) (undef) [(0, .string d), (6, vp (pa b)), (102, .bool true), (104, undef), (106, undef)] ?_
    refine T_q (some 107) (undef) [(0, .string d), (6, vp (pa b)), (102, .bool true), (107, undef)] ?_
    refine T_q (some 108) (.bool true) [(0, .string d), (6, vp (pa b)), (108, .bool true)] ?_
    refine T_q (some 109) (.bool true) [(0, .string d), (6, vp (pa b)), (109, .bool true)] ?_
    refine T_q (some 110) (undef) [(0, .string d), (109, .bool true), (110, undef)] ?_
    refine T_q (some 111) (undef) [(0, .string d), (109, .bool true), (111, undef)] ?_
    refine T_q (some 112) (undef) [(0, .string d), (109, .bool true), (111, undef), (112, undef)] ?_
    refine T_q (some 113) (undef) [(0, .string d), (109, .bool true), (111, undef), (113, undef)] ?_
    refine T_q (some 114) (undef) [(0, .string d), (109, .bool true), (114, undef)] ?_
    refine T_q (some 115) (.bool true) [(0, .string d), (115, .bool true)] ?_
    refine T_q (some 116) (.bool true) [(0, .string d), (116, .bool true)] ?_
    refine T_q (some 117) (undef) [(0, .string d), (116, .bool true), (117, undef)] ?_
    refine T_q (some 118) (undef) [(0, .string d), (116, .bool true), (118, undef)] ?_
    refine T_q (some 119) (undef) [(0, .string d), (116, .bool true), (119, undef)] ?_
    refine T_q (some 120) (.bool true) [(0, .string d), (120, .bool true)] ?_
    refine T_q (some 121) (.bool true) [(0, .string d), (121, .bool true)] ?_
    refine T_q (some 122) (undef) [(0, .string d), (121, .bool true), (122, undef)] ?_
    refine T_q (some 123) (undef) [(0, .string d), (121, .bool true), (123, undef)] ?_
    refine T_q (some 124) (undef) [(0, .string d), (121, .bool true), (124, undef)] ?_
    refine T_q (some 125) (.bool true) [(0, .string d), (125, .bool true)] ?_
    refine Q_sub [(0, .string d), (125, .bool true)] sk ?_
    refine T_qe ?_
    refine T_t 125 K76 K77 ?_
    refine T_sr 22 K78 K79 ?_
    refine T_ne 1 [(2, .bool false)] ?_
    exact T_ret [2] [.bool false] hQ h
   rw [if_neg c100] at h
   have b101 : (decide ((d.size : Int) < 3)) = false := decide_eq_false c100
   refine Q_env [(0, .string d), (6, vp (pa b)), (102, .bool false)] (by rw [b101]) ?_
   clear b101
   refine T_q (some 103) (.string d) [(0, .string d), (6, vp (pa b)), (102, .bool false), (103, .string d)] ?_
   obtain ⟨au, q102, h⟩ := h
   refine Q_op (some 104) (indexN 9 (.string d) (vi 1)) (.int .u8 ((au.toNat : Nat) : Int)) (fun _=>by kernel_rfl) (fun w _ => indexStr_run (P := Tryz.prog) (t := 9) (s := d) (k := .i64) (i := 1) Tryz.underlying9 q102.1 q102.2 w) [(0, .string d), (6, vp (pa b)), (102, .bool false), (104, .int .u8 ((au.toNat : Nat) : Int))] pk ?_
   refine T_q (some 105) (vp (pa b)) [(0, .string d), (6, vp (pa b)), (102, .bool false), (104, .int .u8 ((au.toNat : Nat) : Int)), (105, vp (pa b))] ?_
   obtain ⟨ai, q103, h⟩ := h
   refine T_ql (some 106) 5 q103 [(0, .string d), (6, vp (pa b)), (102, .bool false), (104, .int .u8 ((au.toNat : Nat) : Int)), (106, .int .u8 ai)] ?_
   refine T_q (some 107) (.bool (decide (((au.toNat : Nat) : Int) < ai))) [(0, .string d), (6, vp (pa b)), (102, .bool false), (107, .bool (decide (((au.toNat : Nat) : Int) < ai)))] ?_
   refine T_q (some 108) (.bool (decide (((au.toNat : Nat) : Int) < ai))) [(0, .string d), (6, vp (pa b)), (108, .bool (decide (((au.toNat : Nat) : Int) < ai)))] ?_
   refine T_q (some 109) (.bool (decide (((au.toNat : Nat) : Int) < ai))) [(0, .string d), (6, vp (pa b)), (109, .bool (decide (((au.toNat : Nat) : Int) < ai)))] ?_
   by_cases c104 : ((au.toNat : Nat) : Int) < ai
   ·rw [if_pos c104] at h
    have b105 : (decide (((au.toNat : Nat) : Int) < ai)) = true := decide_eq_true c104
    refine Q_env [(0, .string d), (6, vp (pa b)), (109, .bool true)] (by rw [b105]) ?_
    clear b105
    refine T_q (some 110) (undef) [(0, .string d), (109, .bool true), (110, undef)] ?_
    refine T_q (some 111) (undef) [(0, .string d), (109, .bool true), (111, undef)] ?_
    refine T_q (some 112) (undef) [(0, .string d), (109, .bool true), (111, undef), (112, undef)] ?_
    refine T_q (some 113) (undef) [(0, .string d), (109, .bool true), (111, undef), (113, undef)] ?_
    refine T_q (some 114) (undef) [(0, .string d), (109, .bool true), (114, undef)] ?_
    refine T_q (some 115) (.bool true) [(0, .string d), (115, .bool true)] ?_
    refine T_q (some 116) (.bool true) [(0, .string d), (116, .bool true)] ?_
    refine T_q (some 117) (undef) [(0, .string d), (116, .bool true), (117, undef)] ?_
    refine T_q (some 118) (undef) [(0, .string d), (116, .bool true), (118, undef)] ?_
    refine T_q (some 119) (undef) [(0, .string d), (116, .bool true), (119, undef)] ?_
    refine T_q (some 120) (.bool true) [(0, .string d), (120, .bool true)] ?_
    refine T_q (some 121) (.bool true) [(0, .string d), (121, .bool true)] ?_
    refine T_q (some 122) (undef) [(0, .string d), (121, .bool true), (122, undef)] ?_
    refine T_q (some 123) (undef) [(0, .string d), (121, .bool true), (123, undef)] ?_
    refine T_q (some 124) (undef) [(0, .string d), (121, .bool true), (124, undef)] ?_
    refine T_q (some 125) (.bool true) [(0, .string d), (125, .bool true)] ?_
    refine Q_sub [(0, .string d), (125, .bool true)] sk ?_
    refine T_qe ?_
    refine T_t 125 K76 K77 ?_
    refine T_sr 22 K78 K79 ?_
    refine T_ne 1 [(2, .bool false)] ?_
    exact T_ret [2] [.bool false] hQ h
   rw [if_neg c104] at h
   have b105 : (decide (((au.toNat : Nat) : Int) < ai)) = false := decide_eq_false c104
   refine Q_env [(0, .string d), (6, vp (pa b)), (109, .bool false)] (by rw [b105]) ?_
   clear b105
   refine T_q (some 110) (vp (some ((Addr.mk b 0 none).add 1))) [(0, .string d), (109, .bool false), (110, vp (some ((Addr.mk b 0 none).add 1)))] ?_
   obtain ⟨q, q106, h⟩ := h
   refine T_ql (some 111) 5 q106 [(0, .string d), (109, .bool false), (111, .int .u8 q)] ?_
   refine T_q (some 112) (.string d) [(0, .string d), (109, .bool false), (111, .int .u8 q), (112, .string d)] ?_
   obtain ⟨ay, q107, h⟩ := h
   refine Q_op (some 113) (indexN 9 (.string d) (vi 1)) (.int .u8 ((ay.toNat : Nat) : Int)) (fun _=>by kernel_rfl) (fun w _ => indexStr_run (P := Tryz.prog) (t := 9) (s := d) (k := .i64) (i := 1) Tryz.underlying9 q107.1 q107.2 w) [(0, .string d), (109, .bool false), (111, .int .u8 q), (113, .int .u8 ((ay.toNat : Nat) : Int))] pk ?_
   refine T_q (some 114) (.bool (decide (q < ((ay.toNat : Nat) : Int)))) [(0, .string d), (109, .bool false), (114, .bool (decide (q < ((ay.toNat : Nat) : Int))))] ?_
   refine T_q (some 115) (.bool (decide (q < ((ay.toNat : Nat) : Int)))) [(0, .string d), (115, .bool (decide (q < ((ay.toNat : Nat) : Int))))] ?_
   refine T_q (some 116) (.bool (decide (q < ((ay.toNat : Nat) : Int)))) [(0, .string d), (116, .bool (decide (q < ((ay.toNat : Nat) : Int))))] ?_
   by_cases c108 : q < ((ay.toNat : Nat) : Int)
   ·rw [if_pos c108] at h
    have b109 : (decide (q < ((ay.toNat : Nat) : Int))) = true := decide_eq_true c108
    refine Q_env [(0, .string d), (116, .bool true)] (by rw [b109]) ?_
    clear b109
    refine T_q (some 117) (undef) [(0, .string d), (116, .bool true), (117, undef)] ?_
    refine T_q (some 118) (undef) [(0, .string d), (116, .bool true), (118, undef)] ?_
    refine T_q (some 119) (undef) [(0, .string d), (116, .bool true), (119, undef)] ?_
    refine T_q (some 120) (.bool true) [(0, .string d), (120, .bool true)] ?_
    refine T_q (some 121) (.bool true) [(0, .string d), (121, .bool true)] ?_
    refine T_q (some 122) (undef) [(0, .string d), (121, .bool true), (122, undef)] ?_
    refine T_q (some 123) (undef) [(0, .string d), (121, .bool true), (123, undef)] ?_
    refine T_q (some 124) (undef) [(0, .string d), (121, .bool true), (124, undef)] ?_
    refine T_q (some 125) (.bool true) [(0, .string d), (125, .bool true)] ?_
    refine Q_sub [(0, .string d), (125, .bool true)] sk ?_
    refine T_qe ?_
    refine T_t 125 K76 K77 ?_
    refine T_sr 22 K78 K79 ?_
    refine T_ne 1 [(2, .bool false)] ?_
    exact T_ret [2] [.bool false] hQ h
   rw [if_neg c108] at h
   have b109 : (decide (q < ((ay.toNat : Nat) : Int))) = false := decide_eq_false c108
   refine Q_env [(0, .string d), (116, .bool false)] (by rw [b109]) ?_
   clear b109
   refine T_q (some 117) (.string d) [(0, .string d), (116, .bool false), (117, .string d)] ?_
   obtain ⟨az, q110, h⟩ := h
   refine Q_op (some 118) (indexN 9 (.string d) (vi 2)) (.int .u8 ((az.toNat : Nat) : Int)) (fun _=>by kernel_rfl) (fun w _ => indexStr_run (P := Tryz.prog) (t := 9) (s := d) (k := .i64) (i := 2) Tryz.underlying9 q110.1 q110.2 w) [(0, .string d), (116, .bool false), (118, .int .u8 ((az.toNat : Nat) : Int))] pk ?_
   refine T_q (some 119) (.bool (decide (((az.toNat : Nat) : Int) < 128))) [(0, .string d), (116, .bool false), (119, .bool (decide (((az.toNat : Nat) : Int) < 128)))] ?_
   refine T_q (some 120) (.bool (decide (((az.toNat : Nat) : Int) < 128))) [(0, .string d), (120, .bool (decide (((az.toNat : Nat) : Int) < 128)))] ?_
   refine T_q (some 121) (.bool (decide (((az.toNat : Nat) : Int) < 128))) [(0, .string d), (121, .bool (decide (((az.toNat : Nat) : Int) < 128)))] ?_
   by_cases c111 : ((az.toNat : Nat) : Int) < 128
   ·rw [if_pos c111] at h
    have b112 : (decide (((az.toNat : Nat) : Int) < 128)) = true := decide_eq_true c111
    refine Q_env [(0, .string d), (121, .bool true)] (by rw [b112]) ?_
    clear b112
    refine T_q (some 122) (undef) [(0, .string d), (121, .bool true), (122, undef)] ?_
    refine T_q (some 123) (undef) [(0, .string d), (121, .bool true), (123, undef)] ?_
    refine T_q (some 124) (undef) [(0, .string d), (121, .bool true), (124, undef)] ?_
    refine T_q (some 125) (.bool true) [(0, .string d), (125, .bool true)] ?_
    refine Q_sub [(0, .string d), (125, .bool true)] sk ?_
    refine T_qe ?_
    refine T_t 125 K76 K77 ?_
    refine T_sr 22 K78 K79 ?_
    refine T_ne 1 [(2, .bool false)] ?_
    exact T_ret [2] [.bool false] hQ h
   rw [if_neg c111] at h
   have b112 : (decide (((az.toNat : Nat) : Int) < 128)) = false := decide_eq_false c111
   refine Q_env [(0, .string d), (121, .bool false)] (by rw [b112]) ?_
   clear b112
   refine T_q (some 122) (.string d) [(0, .string d), (121, .bool false), (122, .string d)] ?_
   obtain ⟨a5, q113, h⟩ := h
   refine Q_op (some 123) (indexN 9 (.string d) (vi 2)) (.int .u8 ((a5.toNat : Nat) : Int)) (fun _=>by kernel_rfl) (fun w _ => indexStr_run (P := Tryz.prog) (t := 9) (s := d) (k := .i64) (i := 2) Tryz.underlying9 q113.1 q113.2 w) [(0, .string d), (121, .bool false), (123, .int .u8 ((a5.toNat : Nat) : Int))] pk ?_
   refine T_q (some 124) (.bool (decide (191 < ((a5.toNat : Nat) : Int)))) [(0, .string d), (121, .bool false), (124, .bool (decide (191 < ((a5.toNat : Nat) : Int))))] ?_
   refine T_q (some 125) (.bool (decide (191 < ((a5.toNat : Nat) : Int)))) [(0, .string d), (125, .bool (decide (191 < ((a5.toNat : Nat) : Int))))] ?_
   refine Q_sub [(0, .string d), (125, .bool (decide (191 < ((a5.toNat : Nat) : Int))))] sk ?_
   refine T_qe ?_
   by_cases c114 : 191 < ((a5.toNat : Nat) : Int)
   ·rw [if_pos c114] at h
    have b115 : (decide (191 < ((a5.toNat : Nat) : Int))) = true := decide_eq_true c114
    refine T_cT 125 K76 K77 b115 ?_
    refine T_sr 22 K78 K79 ?_
    refine T_ne 1 [(2, .bool false)] ?_
    exact T_ret [2] [.bool false] hQ h
   rw [if_neg c114] at h
   have b115 : (decide (191 < ((a5.toNat : Nat) : Int))) = false := decide_eq_false c114
   refine T_cF 125 K76 K77 b115 ?_
   refine T_kt ?_
   refine T_r 23 K73 ?_
   refine T_n 1 [(126, .string d)] ?_
   obtain ⟨aq, z, q116, q117, q118, q119, h⟩ := h
   refine T_v (some 127) (sliceN 9 (.string d) (some (vi 3)) none none) (.string (d.extract aq z)) (fun w _ => sliceStr_run (P := Tryz.prog) (t := 9) (s := d) (some (vi 3)) none aq z Tryz.underlying9 (.inr ⟨.i64, by rw [q116]⟩) (.inl ⟨rfl, q117⟩) q118 q119 w) [(127, .string (d.extract aq z))] ?_
   refine T_n 1 [(0, .string (d.extract aq z))] ?_
   refine N_end (by kernel_rfl) ?_
   refine S_blockEnd ?_
   refine S_blockEnd ?_
   refine S_then ?_
   exact S_round ((d.extract aq z) : ByteArray) sk h
  rw [if_neg c98] at h
  have b99 : ((IntKind.wrap .i64 (iand .u8 j 7)) == 3) = false := beq_eq_false_iff_ne.mpr c98
  refine T_cF 97 K70 K71 b99 ?_
  refine T_sr 24 K80 K81 ?_
  refine T_ne 2 [(0, .string d), (6, vp (pa b)), (128, .bool ((IntKind.wrap .i64 (iand .u8 j 7)) == 4))] ?_
  by_cases c121 : (IntKind.wrap .i64 (iand .u8 j 7)) = 4
  ·rw [if_pos c121] at h
   have b122 : ((IntKind.wrap .i64 (iand .u8 j 7)) == 4) = true := beq_iff_eq.mpr c121
   refine T_cT 128 K82 K83 b122 ?_
   refine T_s K84 K85 ?_
   refine T_s K86 K87 ?_
   refine T_rq 25 K86 ?_
   refine T_q (some 130) (.string d) [(0, .string d), (6, vp (pa b)), (130, .string d)] ?_
   refine T_q (some 131) (vi (d.size : Int)) [(0, .string d), (6, vp (pa b)), (131, vi (d.size : Int))] ?_
   refine T_q (some 132) (.bool (decide ((d.size : Int) < 4))) [(0, .string d), (6, vp (pa b)), (132, .bool (decide ((d.size : Int) < 4)))] ?_
   refine T_q (some 133) (.bool (decide ((d.size : Int) < 4))) [(0, .string d), (6, vp (pa b)), (133, .bool (decide ((d.size : Int) < 4)))] ?_
   by_cases c123 : (d.size : Int) < 4
   ·rw [if_pos c123] at h
    have b124 : (decide ((d.size : Int) < 4)) = true := decide_eq_true c123
    refine Q_env [(0, .string d), (6, vp (pa b)), (133, .bool true)] (by rw [b124]) ?_
    clear b124
    refine T_q (some 134) (undef) [(0, .string d), (6, vp (pa b)), (133, .bool true), (134, undef)] ?_
    refine T_q (some 135) (undef) [(0, .string d), (6, vp (pa b)), (133, .bool true), (135, undef)] ?_
    refine T_q (some 136) (undef) [(0, .string d), (6, vp (pa b)), (133, .bool true), (135, undef), (136, undef)] ?_
    refine T_q (some 137) (undef) [(0, .string d), (6, vp (pa b)), (133, .bool true), (135, undef), (137, undef)] ?_
    refine T_q (some 138) (undef) [(0, .string d), (6, vp (pa b)), (133, .bool true), (138, undef)] ?_
    refine T_q (some 139) (.bool true) [(0, .string d), (6, vp (pa b)), (139, .bool true)] ?_
    refine T_q (some 140) (.bool true) [(0, .string d), (6, vp (pa b)), (140, .bool true)] ?_
    refine T_q (some 141) (undef) [(0, .string d), (140, .bool true), (141, undef)] ?_
    refine T_q (some 142) (undef) [(0, .string d), (140, .bool true), (142, undef)] ?_
    refine T_q (some 143) (undef) [(0, .string d), (140, .bool true), (142, undef), (143, undef)] ?_
    refine T_q (some 144) (undef) [(0, .string d), (140, .bool true), (142, undef), (144, undef)] ?_
    refine T_q (some 145) (undef) [(0, .string d), (140, .bool true), (145, undef)] ?_
    refine T_q (some 146) (.bool true) [(0, .string d), (146, .bool true)] ?_
    refine T_q (some 147) (.bool true) [(0, .string d), (147, .bool true)] ?_
    refine T_q (some 148) (undef) [(0, .string d), (147, .bool true), (148, undef)] ?_
    refine T_q (some 149) (undef) [(0, .string d), (147, .bool true), (149, undef)] ?_
    refine T_q (some 150) (undef) [(0, .string d), (147, .bool true), (150, undef)] ?_
    refine T_q (some 151) (.bool true) [(0, .string d), (151, .bool true)] ?_
    refine T_q (some 152) (.bool true) [(0, .string d), (152, .bool true)] ?_
    refine T_q (some 153) (undef) [(0, .string d), (152, .bool true), (153, undef)] ?_
    refine T_q (some 154) (undef) [(0, .string d), (152, .bool true), (154, undef)] ?_
    refine T_q (some 155) (undef) [(0, .string d), (152, .bool true), (155, undef)] ?_
    refine T_q (some 156) (.bool true) [(0, .string d), (156, .bool true)] ?_
    refine T_q (some 157) (.bool true) [(0, .string d), (157, .bool true)] ?_
    refine T_q (some 158) (undef) [(0, .string d), (157, .bool true), (158, undef)] ?_
    refine T_q (some 159) (undef) [(0, .string d), (157, .bool true), (159, undef)] ?_
    refine T_q (some 160) (undef) [(0, .string d), (157, .bool true), (160, undef)] ?_
    refine T_q (some 161) (.bool true) [(0, .string d), (161, .bool true)] ?_
    refine T_q (some 162) (.bool true) [(0, .string d), (162, .bool true)] ?_
    refine T_q (some 163) (undef) [(0, .string d), (162, .bool true), (163, undef)] ?_
    refine T_q (some 164) (undef) [(0, .string d), (162, .bool true), (164, undef)] ?_
    refine T_q (some 165) (undef) [(0, .string d), (162, .bool true), (165, undef)] ?_
    refine T_q (some 166) (.bool true) [(0, .string d), (166, .bool true)] ?_
    refine Q_sub [(0, .string d), (166, .bool true)] sk ?_
    refine T_qe ?_
    refine T_t 166 K88 K89 ?_
    refine T_sr 26 K90 K91 ?_
    refine T_ne 1 [(2, .bool false)] ?_
    exact T_ret [2] [.bool false] hQ h
   rw [if_neg c123] at h
   have b124 : (decide ((d.size : Int) < 4)) = false := decide_eq_false c123
   refine Q_env [(0, .string d), (6, vp (pa b)), (133, .bool false)] (by rw [b124]) ?_
   clear b124
   refine T_q (some 134) (.string d) [(0, .string d), (6, vp (pa b)), (133, .bool false), (134, .string d)] ?_
   obtain ⟨r, q125, h⟩ := h
   refine Q_op (some 135) (indexN 9 (.string d) (vi 1)) (.int .u8 ((r.toNat : Nat) : Int)) (fun _=>by kernel_rfl) (fun w _ => indexStr_run (P := Tryz.prog) (t := 9) (s := d) (k := .i64) (i := 1) Tryz.underlying9 q125.1 q125.2 w) [(0, .string d), (6, vp (pa b)), (133, .bool false), (135, .int .u8 ((r.toNat : Nat) : Int))] pk ?_
   refine T_q (some 136) (vp (pa b)) [(0, .string d), (6, vp (pa b)), (133, .bool false), (135, .int .u8 ((r.toNat : Nat) : Int)), (136, vp (pa b))] ?_
   obtain ⟨aa, q126, h⟩ := h
   refine T_ql (some 137) 5 q126 [(0, .string d), (6, vp (pa b)), (133, .bool false), (135, .int .u8 ((r.toNat : Nat) : Int)), (137, .int .u8 aa)] ?_
   refine T_q (some 138) (.bool (decide (((r.toNat : Nat) : Int) < aa))) [(0, .string d), (6, vp (pa b)), (133, .bool false), (138, .bool (decide (((r.toNat : Nat) : Int) < aa)))] ?_
   refine T_q (some 139) (.bool (decide (((r.toNat : Nat) : Int) < aa))) [(0, .string d), (6, vp (pa b)), (139, .bool (decide (((r.toNat : Nat) : Int) < aa)))] ?_
   refine T_q (some 140) (.bool (decide (((r.toNat : Nat) : Int) < aa))) [(0, .string d), (6, vp (pa b)), (140, .bool (decide (((r.toNat : Nat) : Int) < aa)))] ?_
   by_cases c127 : ((r.toNat : Nat) : Int) < aa
   ·rw [if_pos c127] at h
    have b128 : (decide (((r.toNat : Nat) : Int) < aa)) = true := decide_eq_true c127
    refine Q_env [(0, .string d), (6, vp (pa b)), (140, .bool true)] (by rw [b128]) ?_
    clear b128
    refine T_q (some 141) (undef) [(0, .string d), (140, .bool true), (141, undef)] ?_
    refine T_q (some 142) (undef) [(0, .string d), (140, .bool true), (142, undef)] ?_
    refine T_q (some 143) (undef) [(0, .string d), (140, .bool true), (142, undef), (143, undef)] ?_
    refine T_q (some 144) (undef) [(0, .string d), (140, .bool true), (142, undef), (144, undef)] ?_
    refine T_q (some 145) (undef) [(0, .string d), (140, .bool true), (145, undef)] ?_
    refine T_q (some 146) (.bool true) [(0, .string d), (146, .bool true)] ?_
    refine T_q (some 147) (.bool true) [(0, .string d), (147, .bool true)] ?_
    refine T_q (some 148) (undef) [(0, .string d), (147, .bool true), (148, undef)] ?_
    refine T_q (some 149) (undef) [(0, .string d), (147, .bool true), (149, undef)] ?_
    refine T_q (some 150) (undef) [(0, .string d), (147, .bool true), (150, undef)] ?_
    refine T_q (some 151) (.bool true) [(0, .string d), (151, .bool true)] ?_
    refine T_q (some 152) (.bool true) [(0, .string d), (152, .bool true)] ?_
    refine T_q (some 153) (undef) [(0, .string d), (152, .bool true), (153, undef)] ?_
    refine T_q (some 154) (undef) [(0, .string d), (152, .bool true), (154, undef)] ?_
    refine T_q (some 155) (undef) [(0, .string d), (152, .bool true), (155, undef)] ?_
    refine T_q (some 156) (.bool true) [(0, .string d), (156, .bool true)] ?_
    refine T_q (some 157) (.bool true) [(0, .string d), (157, .bool true)] ?_
    refine T_q (some 158) (undef) [(0, .string d), (157, .bool true), (158, undef)] ?_
    refine T_q (some 159) (undef) [(0, .string d), (157, .bool true), (159, undef)] ?_
    refine T_q (some 160) (undef) [(0, .string d), (157, .bool true), (160, undef)] ?_
    refine T_q (some 161) (.bool true) [(0, .string d), (161, .bool true)] ?_
    refine T_q (some 162) (.bool true) [(0, .string d), (162, .bool true)] ?_
    refine T_q (some 163) (undef) [(0, .string d), (162, .bool true), (163, undef)] ?_
    refine T_q (some 164) (undef) [(0, .string d), (162, .bool true), (164, undef)] ?_
    refine T_q (some 165) (undef) [(0, .string d), (162, .bool true), (165, undef)] ?_
    refine T_q (some 166) (.bool true) [(0, .string d), (166, .bool true)] ?_
    refine Q_sub [(0, .string d), (166, .bool true)] sk ?_
    refine T_qe ?_
    refine T_t 166 K88 K89 ?_
    refine T_sr 26 K90 K91 ?_
    refine T_ne 1 [(2, .bool false)] ?_
    exact T_ret [2] [.bool false] hQ h
   rw [if_neg c127] at h
   have b128 : (decide (((r.toNat : Nat) : Int) < aa)) = false := decide_eq_false c127
   refine Q_env [(0, .string d), (6, vp (pa b)), (140, .bool false)] (by rw [b128]) ?_
   clear b128
   refine T_q (some 141) (vp (some ((Addr.mk b 0 none).add 1))) [(0, .string d), (140, .bool false), (141, vp (some ((Addr.mk b 0 none).add 1)))] ?_
   obtain ⟨u, q129, h⟩ := h
   refine T_ql (some 142) 5 q129 [(0, .string d), (140, .bool false), (142, .int .u8 u)] ?_
   refine T_q (some 143) (.string d) [(0, .string d), (140, .bool false), (142, .int .u8 u), (143, .string d)] ?_
   obtain ⟨ag, q130, h⟩ := h
   refine Q_op (some 144) (indexN 9 (.string d) (vi 1)) (.int .u8 ((ag.toNat : Nat) : Int)) (fun _=>by kernel_rfl) (fun w _ => indexStr_run (P := Tryz.prog) (t := 9) (s := d) (k := .i64) (i := 1) Tryz.underlying9 q130.1 q130.2 w) [(0, .string d), (140, .bool false), (142, .int .u8 u), (144, .int .u8 ((ag.toNat : Nat) : Int))] pk ?_
   refine T_q (some 145) (.bool (decide (u < ((ag.toNat : Nat) : Int)))) [(0, .string d), (140, .bool false), (145, .bool (decide (u < ((ag.toNat : Nat) : Int))))] ?_
   refine T_q (some 146) (.bool (decide (u < ((ag.toNat : Nat) : Int)))) [(0, .string d), (146, .bool (decide (u < ((ag.toNat : Nat) : Int))))] ?_
   refine T_q (some 147) (.bool (decide (u < ((ag.toNat : Nat) : Int)))) [(0, .string d), (147, .bool (decide (u < ((ag.toNat : Nat) : Int))))] ?_
   by_cases c131 : u < ((ag.toNat : Nat) : Int)
   ·rw [if_pos c131] at h
    have b132 : (decide (u < ((ag.toNat : Nat) : Int))) = true := decide_eq_true c131
    refine Q_env [(0, .string d), (147, .bool true)] (by rw [b132]) ?_
    clear b132
    refine T_q (some 148) (undef) [(0, .string d), (147, .bool true), (148, undef)] ?_
    refine T_q (some 149) (undef) [(0, .string d), (147, .bool true), (149, undef)] ?_
    refine T_q (some 150) (undef) [(0, .string d), (147, .bool true), (150, undef)] ?_
    refine T_q (some 151) (.bool true) [(0, .string d), (151, .bool true)] ?_
    refine T_q (some 152) (.bool true) [(0, .string d), (152, .bool true)] ?_
    refine T_q (some 153) (undef) [(0, .string d), (152, .bool true), (153, undef)] ?_
    refine T_q (some 154) (undef) [(0, .string d), (152, .bool true), (154, undef)] ?_
    refine T_q (some 155) (undef) [(0, .string d), (152, .bool true), (155, undef)] ?_
    refine T_q (some 156) (.bool true) [(0, .string d), (156, .bool true)] ?_
    refine T_q (some 157) (.bool true) [(0, .string d), (157, .bool true)] ?_
    refine T_q (some 158) (undef) [(0, .string d), (157, .bool true), (158, undef)] ?_
    refine T_q (some 159) (undef) [(0, .string d), (157, .bool true), (159, undef)] ?_
    refine T_q (some 160) (undef) [(0, .string d), (157, .bool true), (160, undef)] ?_
    refine T_q (some 161) (.bool true) [(0, .string d), (161, .bool true)] ?_
    refine T_q (some 162) (.bool true) [(0, .string d), (162, .bool true)] ?_
    refine T_q (some 163) (undef) [(0, .string d), (162, .bool true), (163, undef)] ?_
    refine T_q (some 164) (undef) [(0, .string d), (162, .bool true), (164, undef)] ?_
    refine T_q (some 165) (undef) [(0, .string d), (162, .bool true), (165, undef)] ?_
    refine T_q (some 166) (.bool true) [(0, .string d), (166, .bool true)] ?_
    refine Q_sub [(0, .string d), (166, .bool true)] sk ?_
    refine T_qe ?_
    refine T_t 166 K88 K89 ?_
    refine T_sr 26 K90 K91 ?_
    refine T_ne 1 [(2, .bool false)] ?_
    exact T_ret [2] [.bool false] hQ h
   rw [if_neg c131] at h
   have b132 : (decide (u < ((ag.toNat : Nat) : Int))) = false := decide_eq_false c131
   refine Q_env [(0, .string d), (147, .bool false)] (by rw [b132]) ?_
   clear b132
   refine T_q (some 148) (.string d) [(0, .string d), (147, .bool false), (148, .string d)] ?_
   obtain ⟨ac, q133, h⟩ := h
   refine Q_op (some 149) (indexN 9 (.string d) (vi 2)) (.int .u8 ((ac.toNat : Nat) : Int)) (fun _=>by kernel_rfl) (fun w _ => indexStr_run (P := Tryz.prog) (t := 9) (s := d) (k := .i64) (i := 2) Tryz.underlying9 q133.1 q133.2 w) [(0, .string d), (147, .bool false), (149, .int .u8 ((ac.toNat : Nat) : Int))] pk ?_
   refine T_q (some 150) (.bool (decide (((ac.toNat : Nat) : Int) < 128))) [(0, .string d), (147, .bool false), (150, .bool (decide (((ac.toNat : Nat) : Int) < 128)))] ?_
   refine T_q (some 151) (.bool (decide (((ac.toNat : Nat) : Int) < 128))) [(0, .string d), (151, .bool (decide (((ac.toNat : Nat) : Int) < 128)))] ?_
   refine T_q (some 152) (.bool (decide (((ac.toNat : Nat) : Int) < 128))) [(0, .string d), (152, .bool (decide (((ac.toNat : Nat) : Int) < 128)))] ?_
   by_cases c134 : ((ac.toNat : Nat) : Int) < 128
   ·rw [if_pos c134] at h
    have b135 : (decide (((ac.toNat : Nat) : Int) < 128)) = true := decide_eq_true c134
    refine Q_env [(0, .string d), (152, .bool true)] (by rw [b135]) ?_
    clear b135
    refine T_q (some 153) (undef) [(0, .string d), (152, .bool true), (153, undef)] ?_
    refine T_q (some 154) (undef) [(0, .string d), (152, .bool true), (154, undef)] ?_
    refine T_q (some 155) (undef) [(0, .string d), (152, .bool true), (155, undef)] ?_
    refine T_q (some 156) (.bool true) [(0, .string d), (156, .bool true)] ?_
    refine T_q (some 157) (.bool true) [(0, .string d), (157, .bool true)] ?_
    refine T_q (some 158) (undef) [(0, .string d), (157, .bool true), (158, undef)] ?_
    refine T_q (some 159) (undef) [(0, .string d), (157, .bool true), (159, undef)] ?_
    refine T_q (some 160) (undef) [(0, .string d), (157, .bool true), (160, undef)] ?_
    refine T_q (some 161) (.bool true) [(0, .string d), (161, .bool true)] ?_
    refine T_q (some 162) (.bool true) [(0, .string d), (162, .bool true)] ?_
    refine T_q (some 163) (undef) [(0, .string d), (162, .bool true), (163, undef)] ?_
    refine T_q (some 164) (undef) [(0, .string d), (162, .bool true), (164, undef)] ?_
    refine T_q (some 165) (undef) [(0, .string d), (162, .bool true), (165, undef)] ?_
    refine T_q (some 166) (.bool true) [(0, .string d), (166, .bool true)] ?_
    refine Q_sub [(0, .string d), (166, .bool true)] sk ?_
    refine T_qe ?_
    refine T_t 166 K88 K89 ?_
    refine T_sr 26 K90 K91 ?_
    refine T_ne 1 [(2, .bool false)] ?_
    exact T_ret [2] [.bool false] hQ h
   rw [if_neg c134] at h
   have b135 : (decide (((ac.toNat : Nat) : Int) < 128)) = false := decide_eq_false c134
   refine Q_env [(0, .string d), (152, .bool false)] (by rw [b135]) ?_
   clear b135
   refine T_q (some 153) (.string d) [(0, .string d), (152, .bool false), (153, .string d)] ?_
   obtain ⟨ae, q136, h⟩ := h
   refine Q_op (some 154) (indexN 9 (.string d) (vi 2)) (.int .u8 ((ae.toNat : Nat) : Int)) (fun _=>by kernel_rfl) (fun w _ => indexStr_run (P := Tryz.prog) (t := 9) (s := d) (k := .i64) (i := 2) Tryz.underlying9 q136.1 q136.2 w) [(0, .string d), (152, .bool false), (154, .int .u8 ((ae.toNat : Nat) : Int))] pk ?_
   refine T_q (some 155) (.bool (decide (191 < ((ae.toNat : Nat) : Int)))) [(0, .string d), (152, .bool false), (155, .bool (decide (191 < ((ae.toNat : Nat) : Int))))] ?_
   refine T_q (some 156) (.bool (decide (191 < ((ae.toNat : Nat) : Int)))) [(0, .string d), (156, .bool (decide (191 < ((ae.toNat : Nat) : Int))))] ?_
   refine T_q (some 157) (.bool (decide (191 < ((ae.toNat : Nat) : Int)))) [(0, .string d), (157, .bool (decide (191 < ((ae.toNat : Nat) : Int))))] ?_
   by_cases c137 : 191 < ((ae.toNat : Nat) : Int)
   ·rw [if_pos c137] at h
    have b138 : (decide (191 < ((ae.toNat : Nat) : Int))) = true := decide_eq_true c137
    refine Q_env [(0, .string d), (157, .bool true)] (by rw [b138]) ?_
    clear b138
    refine T_q (some 158) (undef) [(0, .string d), (157, .bool true), (158, undef)] ?_
    refine T_q (some 159) (undef) [(0, .string d), (157, .bool true), (159, undef)] ?_
    refine T_q (some 160) (undef) [(0, .string d), (157, .bool true), (160, undef)] ?_
    refine T_q (some 161) (.bool true) [(0, .string d), (161, .bool true)] ?_
    refine T_q (some 162) (.bool true) [(0, .string d), (162, .bool true)] ?_
    refine T_q (some 163) (undef) [(0, .string d), (162, .bool true), (163, undef)] ?_
    refine T_q (some 164) (undef) [(0, .string d), (162, .bool true), (164, undef)] ?_
    refine T_q (some 165) (undef) [(0, .string d), (162, .bool true), (165, undef)] ?_
    refine T_q (some 166) (.bool true) [(0, .string d), (166, .bool true)] ?_
    refine Q_sub [(0, .string d), (166, .bool true)] sk ?_
    refine T_qe ?_
    refine T_t 166 K88 K89 ?_
    refine T_sr 26 K90 K91 ?_
    refine T_ne 1 [(2, .bool false)] ?_
    exact T_ret [2] [.bool false] hQ h
   rw [if_neg c137] at h
   have b138 : (decide (191 < ((ae.toNat : Nat) : Int))) = false := decide_eq_false c137
   refine Q_env [(0, .string d), (157, .bool false)] (by rw [b138]) ?_
   clear b138
   refine T_q (some 158) (.string d) [(0, .string d), (157, .bool false), (158, .string d)] ?_
   obtain ⟨aj, q139, h⟩ := h
   refine Q_op (some 159) (indexN 9 (.string d) (vi 3)) (.int .u8 ((aj.toNat : Nat) : Int)) (fun _=>by kernel_rfl) (fun w _ => indexStr_run (P := Tryz.prog) (t := 9) (s := d) (k := .i64) (i := 3) Tryz.underlying9 q139.1 q139.2 w) [(0, .string d), (157, .bool false), (159, .int .u8 ((aj.toNat : Nat) : Int))] pk ?_
   refine T_q (some 160) (.bool (decide (((aj.toNat : Nat) : Int) < 128))) [(0, .string d), (157, .bool false), (160, .bool (decide (((aj.toNat : Nat) : Int) < 128)))] ?_
   refine T_q (some 161) (.bool (decide (((aj.toNat : Nat) : Int) < 128))) [(0, .string d), (161, .bool (decide (((aj.toNat : Nat) : Int) < 128)))] ?_
   refine T_q (some 162) (.bool (decide (((aj.toNat : Nat) : Int) < 128))) [(0, .string d), (162, .bool (decide (((aj.toNat : Nat) : Int) < 128)))] ?_
   by_cases c140 : ((aj.toNat : Nat) : Int) < 128
   ·rw [if_pos c140] at h
    have b141 : (decide (((aj.toNat : Nat) : Int) < 128)) = true := decide_eq_true c140
    refine Q_env [(0, .string d), (162, .bool true)] (by rw [b141]) ?_
    clear b141
    refine T_q (some 163) (undef) [(0, .string d), (162, .bool true), (163, undef)] ?_
    refine T_q (some 164) (undef) [(0, .string d), (162, .bool true), (164, undef)] ?_
    refine T_q (some 165) (undef) [(0, .string d), (162, .bool true), (165, undef)] ?_
    refine T_q (some 166) (.bool true) [(0, .string d), (166, .bool true)] ?_
    refine Q_sub [(0, .string d), (166, .bool true)] sk ?_
    refine T_qe ?_
    refine T_t 166 K88 K89 ?_
    refine T_sr 26 K90 K91 ?_
    refine T_ne 1 [(2, .bool false)] ?_
    exact T_ret [2] [.bool false] hQ h
   rw [if_neg c140] at h
   have b141 : (decide (((aj.toNat : Nat) : Int) < 128)) = false := decide_eq_false c140
   refine Q_env [(0, .string d), (162, .bool false)] (by rw [b141]) ?_
   clear b141
   refine T_q (some 163) (.string d) [(0, .string d), (162, .bool false), (163, .string d)] ?_
   obtain ⟨an, q142, h⟩ := h
   refine Q_op (some 164) (indexN 9 (.string d) (vi 3)) (.int .u8 ((an.toNat : Nat) : Int)) (fun _=>by kernel_rfl) (fun w _ => indexStr_run (P := Tryz.prog) (t := 9) (s := d) (k := .i64) (i := 3) Tryz.underlying9 q142.1 q142.2 w) [(0, .string d), (162, .bool false), (164, .int .u8 ((an.toNat : Nat) : Int))] pk ?_
   refine T_q (some 165) (.bool (decide (191 < ((an.toNat : Nat) : Int)))) [(0, .string d), (162, .bool false), (165, .bool (decide (191 < ((an.toNat : Nat) : Int))))] ?_
   refine T_q (some 166) (.bool (decide (191 < ((an.toNat : Nat) : Int)))) [(0, .string d), (166, .bool (decide (191 < ((an.toNat : Nat) : Int))))] ?_
   refine Q_sub [(0, .string d), (166, .bool (decide (191 < ((an.toNat : Nat) : Int))))] sk ?_
   refine T_qe ?_
   by_cases c143 : 191 < ((an.toNat : Nat) : Int)
   ·rw [if_pos c143] at h
    have b144 : (decide (191 < ((an.toNat : Nat) : Int))) = true := decide_eq_true c143
    refine T_cT 166 K88 K89 b144 ?_
    refine T_sr 26 K90 K91 ?_
    refine T_ne 1 [(2, .bool false)] ?_
    exact T_ret [2] [.bool false] hQ h
   rw [if_neg c143] at h
   have b144 : (decide (191 < ((an.toNat : Nat) : Int))) = false := decide_eq_false c143
   refine T_cF 166 K88 K89 b144 ?_
   refine T_kt ?_
   refine T_r 27 K85 ?_
   refine T_n 1 [(167, .string d)] ?_
   obtain ⟨ap, ah, q145, q146, q147, q148, h⟩ := h
   refine T_v (some 168) (sliceN 9 (.string d) (some (vi 4)) none none) (.string (d.extract ap ah)) (fun w _ => sliceStr_run (P := Tryz.prog) (t := 9) (s := d) (some (vi 4)) none ap ah Tryz.underlying9 (.inr ⟨.i64, by rw [q145]⟩) (.inl ⟨rfl, q146⟩) q147 q148 w) [(168, .string (d.extract ap ah))] ?_
   refine T_n 1 [(0, .string (d.extract ap ah))] ?_
   refine N_end (by kernel_rfl) ?_
   refine S_blockEnd ?_
   refine S_blockEnd ?_
   refine S_then ?_
   exact S_round ((d.extract ap ah) : ByteArray) sk h
  rw [if_neg c121] at h
  have b122 : ((IntKind.wrap .i64 (iand .u8 j 7)) == 4) = false := beq_eq_false_iff_ne.mpr c121
  refine T_cF 128 K82 K83 b122 ?_
  refine T_sr 15 K92 K93 ?_
  refine T_ne 1 [(2, .bool false)] ?_
  exact T_ret [2] [.bool false] hQ h
 rw [if_neg c4] at h
 have b5 : (decide ((d.size : Int) > 0)) = false := decide_eq_false c4
 refine T_cF 9 K11 K12 b5 ?_
 refine S_exit 0 (by kernel_rfl) ?_
 refine S_exitThen ?_
 refine S_exitThen ?_
 refine S_exitHere ?_
 refine S_then ?_
 refine T_sr 28 K94 K95 ?_
 refine T_ne 1 [(2, .bool true)] ?_
 exact T_ret [2] [.bool true] hQ h
end unicode_utf8_ValidString

/-! unicode/utf8.RuneCountInString -/
namespace unicode_utf8_RuneCountInString
def K0 := Func.code Tryz.f84
def K1 := ca K0
def K2 := cb K0
def K3 := ca K2
def K4 := cb K2
def K5 := ca K3
def K6 := cb K3
def K7 := ca K6
def K8 := ca K7
def K9 := ca K8
def K10 := cb K8
def K11 := ca K10
def K12 := cb K10
def K13 := ca K11
def K14 := cb K11
def K15 := ca K12
def K16 := ca K4
def K17 := cb K4
end unicode_utf8_RuneCountInString
def unicode_utf8_RuneCountInString.pt (s : ByteArray) (H : Array Obj) (R : Value → Array Obj → Prop) : Prop :=
 ∀ (b : Nat) (H1 : Array Obj), b = H.size → H1 = H.push (.stringIter s 0) →
 ∃ (I9 : Int → Array Obj → Prop) (m9 : Int → Array Obj → Nat), I9 0 H1 ∧ ∀ (nv : Int) (H2 : Array Obj), I9 nv H2 →
 ∃ (a : ByteArray) (pos : Nat), H2[b]? = some (.stringIter a pos) ∧
 if pos < a.size then (∀ H3 : Array Obj, H3 = setBlk H2 b (.stringIter a (pos + (Utf8.decode a pos).2)) →
 (I9 (IntKind.wrap .i64 (nv + 1)) H3 ∧ m9 (IntKind.wrap .i64 (nv + 1)) H3 < m9 nv H2))
 else
 R (.int .i64 nv) H2
namespace unicode_utf8_RuneCountInString
set_option maxRecDepth 100000 in
theorem link {s : ByteArray} {H : Array Obj} {R : Value → Array Obj → Prop} (h : pt s H R) : C s H R := by
 refine T_en K0 10 Tryz.func84 ?_
 intro w0 Q hQ
 unfold pt at h
 refine T_su [(0, .string s)] ?_
 refine T_sr 0 K1 K2 ?_
 refine T_ne 1 [(0, .string s), (2, vi 0)] ?_
 refine T_s K3 K4 ?_
 refine T_sr 1 K5 K6 ?_
 refine T_n 1 [(2, vi 0), (3, .string s)] ?_
 refine T_nw (some 4) (fun b => vp (pa b)) (.stringIter s 0) ?_
 intro b H1 e1 e2
 replace h := h b H1 e1 e2
 refine ⟨[(2, vi 0), (4, vp (pa b))], pk, ?_⟩
 refine T_e ?_
 refine T_b 0 K7 ?_
 obtain ⟨I9, m9, i3, i4⟩ := h
 refine S_loop (x := K8) (σ := Int) (fun s_ => [(2, vi s_), (4, vp (pa b))]) (fun s_ H => I9 s_ H) (fun s_ H => m9 s_ H) (0 : Int) (by kernel_rfl) i3 sk ?_
 rintro nv H2 i5
 have h := i4 nv H2 i5
 refine T_su [(2, vi nv), (4, vp (pa b))] ?_
 refine T_sr 2 K9 K10 ?_
 obtain ⟨a, pos, q6, h⟩ := h
 by_cases c7 : pos < a.size
 ·rw [if_pos c7] at h
  refine N_op (some 5) (nextN (vp (pa b)) true 0) _ (fun _=>by kernel_rfl) (next_go q6 c7) ?_
  rintro _ H3 ⟨rfl, e8⟩
  replace h := h H3 (by assumption)
  refine ⟨[(2, vi nv), (4, vp (pa b)), (5, .tuple #[.bool true, vi pos, .int .i32 ((Utf8.decode a pos).1 : Int)])], pk, ?_⟩
  refine T_ne 1 [(2, vi nv), (4, vp (pa b)), (6, .bool true)] ?_
  refine T_s K11 K12 ?_
  refine T_t 6 K13 K14 ?_
  refine T_kt ?_
  refine T_b 1 K15 ?_
  refine T_r 3 K15 ?_
  refine T_n 3 [(2, vi (IntKind.wrap .i64 (nv + 1))), (4, vp (pa b))] ?_
  refine N_end (by kernel_rfl) ?_
  refine S_blockEnd ?_
  refine S_then ?_
  exact S_round ((IntKind.wrap .i64 (nv + 1)) : Int) sk h
 rw [if_neg c7] at h
 refine N_op (some 5) (nextN (vp (pa b)) true 0) _ (fun _=>by kernel_rfl) (next_end q6 c7) ?_
 rintro _ _ ⟨rfl, rfl⟩
 refine ⟨[(2, vi nv), (4, vp (pa b)), (5, .tuple #[.bool false])], pk, ?_⟩
 refine T_ne 1 [(2, vi nv), (4, vp (pa b)), (6, .bool false)] ?_
 refine T_s K11 K12 ?_
 refine T_f 6 K13 K14 ?_
 refine S_exit 0 (by kernel_rfl) ?_
 refine S_exitThen ?_
 refine S_exitThen ?_
 refine S_exitHere ?_
 refine S_then ?_
 refine T_sr 4 K16 K17 ?_
 refine T_ne 2 [(2, vi nv)] ?_
 exact T_ret [2] [vi nv] hQ h
end unicode_utf8_RuneCountInString

/-! unicode/utf8.word[string] -/
namespace unicode_utf8_word_string
def K0 := Func.code Tryz.f137
def K1 := ca K0
def K2 := cb K0
def K3 := ca K2
def K4 := cb K2
def K5 := ca K3
def K6 := cb K3
def K7 := ca K4
def K8 := cb K4
end unicode_utf8_word_string
def unicode_utf8_word_string.pt (s : ByteArray) (H : Array Obj) (R : Value → Array Obj → Prop) : Prop :=
 ∃ c : UInt8, ((0 : Int) ≤ 0 ∧ s[Int.toNat 0]? = some c) ∧
 ∃ a : UInt8, ((0 : Int) ≤ 1 ∧ s[Int.toNat 1]? = some a) ∧
 ∃ b : UInt8, ((0 : Int) ≤ 2 ∧ s[Int.toNat 2]? = some b) ∧
 ∃ d : UInt8, ((0 : Int) ≤ 3 ∧ s[Int.toNat 3]? = some d) ∧
 ∃ e : UInt8, ((0 : Int) ≤ 4 ∧ s[Int.toNat 4]? = some e) ∧
 ∃ f : UInt8, ((0 : Int) ≤ 5 ∧ s[Int.toNat 5]? = some f) ∧
 ∃ g : UInt8, ((0 : Int) ≤ 6 ∧ s[Int.toNat 6]? = some g) ∧
 ∃ j : UInt8, ((0 : Int) ≤ 7 ∧ s[Int.toNat 7]? = some j) ∧
 R (.int .u64 (ior .u64 (ior .u64 (ior .u64 (ior .u64 (ior .u64 (ior .u64 (ior .u64 (IntKind.wrap .u64 ((c.toNat : Nat) : Int)) (ishl .u64 (IntKind.wrap .u64 ((a.toNat : Nat) : Int)) 8)) (ishl .u64 (IntKind.wrap .u64 ((b.toNat : Nat) : Int)) 16)) (ishl .u64 (IntKind.wrap .u64 ((d.toNat : Nat) : Int)) 24)) (ishl .u64 (IntKind.wrap .u64 ((e.toNat : Nat) : Int)) 32)) (ishl .u64 (IntKind.wrap .u64 ((f.toNat : Nat) : Int)) 40)) (ishl .u64 (IntKind.wrap .u64 ((g.toNat : Nat) : Int)) 48)) (ishl .u64 (IntKind.wrap .u64 ((j.toNat : Nat) : Int)) 56))) H
namespace unicode_utf8_word_string
set_option maxRecDepth 100000 in
theorem link {s : ByteArray} {H : Array Obj} {R : Value → Array Obj → Prop} (h : pt s H R) : C s H R := by
 refine T_en K0 59 Tryz.func137 ?_
 intro w0 Q hQ
 unfold pt at h
 refine T_su [(0, .string s)] ?_
 refine T_sr 0 K1 K2 ?_
 refine T_ne 1 [(0, .string s)] ?_
 refine T_s K3 K4 ?_
 refine S_condF (.const (.bool false)) K5 K6 (by kernel_rfl) (by kernel_rfl) ?_
 refine T_kt ?_
 refine T_s K7 K8 ?_
 refine T_rq 2 K7 ?_
 refine T_q (some 21) (.string s) [(0, .string s), (21, .string s)] ?_
 obtain ⟨c, q1, h⟩ := h
 refine Q_op (some 22) (indexN 9 (.string s) (vi 0)) (.int .u8 ((c.toNat : Nat) : Int)) (fun _=>by kernel_rfl) (fun w _ => indexStr_run (P := Tryz.prog) (t := 9) (s := s) (k := .i64) (i := 0) Tryz.underlying9 q1.1 q1.2 w) [(0, .string s), (22, .int .u8 ((c.toNat : Nat) : Int))] pk ?_
 refine T_q (some 23) (vu (IntKind.wrap .u64 ((c.toNat : Nat) : Int))) [(0, .string s), (23, vu (IntKind.wrap .u64 ((c.toNat : Nat) : Int)))] ?_
 refine T_q (some 24) (.string s) [(0, .string s), (23, vu (IntKind.wrap .u64 ((c.toNat : Nat) : Int))), (24, .string s)] ?_
 obtain ⟨a, q2, h⟩ := h
 refine Q_op (some 25) (indexN 9 (.string s) (vi 1)) (.int .u8 ((a.toNat : Nat) : Int)) (fun _=>by kernel_rfl) (fun w _ => indexStr_run (P := Tryz.prog) (t := 9) (s := s) (k := .i64) (i := 1) Tryz.underlying9 q2.1 q2.2 w) [(0, .string s), (23, vu (IntKind.wrap .u64 ((c.toNat : Nat) : Int))), (25, .int .u8 ((a.toNat : Nat) : Int))] pk ?_
 refine T_q (some 26) (vu (IntKind.wrap .u64 ((a.toNat : Nat) : Int))) [(0, .string s), (23, vu (IntKind.wrap .u64 ((c.toNat : Nat) : Int))), (26, vu (IntKind.wrap .u64 ((a.toNat : Nat) : Int)))] ?_
 refine T_q (some 27) (vu (ishl .u64 (IntKind.wrap .u64 ((a.toNat : Nat) : Int)) 8)) [(0, .string s), (23, vu (IntKind.wrap .u64 ((c.toNat : Nat) : Int))), (27, vu (ishl .u64 (IntKind.wrap .u64 ((a.toNat : Nat) : Int)) 8))] ?_
 refine T_q (some 28) (vu (ior .u64 (IntKind.wrap .u64 ((c.toNat : Nat) : Int)) (ishl .u64 (IntKind.wrap .u64 ((a.toNat : Nat) : Int)) 8))) [(0, .string s), (28, vu (ior .u64 (IntKind.wrap .u64 ((c.toNat : Nat) : Int)) (ishl .u64 (IntKind.wrap .u64 ((a.toNat : Nat) : Int)) 8)))] ?_
 refine T_q (some 29) (.string s) [(0, .string s), (28, vu (ior .u64 (IntKind.wrap .u64 ((c.toNat : Nat) : Int)) (ishl .u64 (IntKind.wrap .u64 ((a.toNat : Nat) : Int)) 8))), (29, .string s)] ?_
 obtain ⟨b, q3, h⟩ := h
 refine Q_op (some 30) (indexN 9 (.string s) (vi 2)) (.int .u8 ((b.toNat : Nat) : Int)) (fun _=>by kernel_rfl) (fun w _ => indexStr_run (P := Tryz.prog) (t := 9) (s := s) (k := .i64) (i := 2) Tryz.underlying9 q3.1 q3.2 w) [(0, .string s), (28, vu (ior .u64 (IntKind.wrap .u64 ((c.toNat : Nat) : Int)) (ishl .u64 (IntKind.wrap .u64 ((a.toNat : Nat) : Int)) 8))), (30, .int .u8 ((b.toNat : Nat) : Int))] pk ?_
 refine T_q (some 31) (vu (IntKind.wrap .u64 ((b.toNat : Nat) : Int))) [(0, .string s), (28, vu (ior .u64 (IntKind.wrap .u64 ((c.toNat : Nat) : Int)) (ishl .u64 (IntKind.wrap .u64 ((a.toNat : Nat) : Int)) 8))), (31, vu (IntKind.wrap .u64 ((b.toNat : Nat) : Int)))] ?_
 refine T_q (some 32) (vu (ishl .u64 (IntKind.wrap .u64 ((b.toNat : Nat) : Int)) 16)) [(0, .string s), (28, vu (ior .u64 (IntKind.wrap .u64 ((c.toNat : Nat) : Int)) (ishl .u64 (IntKind.wrap .u64 ((a.toNat : Nat) : Int)) 8))), (32, vu (ishl .u64 (IntKind.wrap .u64 ((b.toNat : Nat) : Int)) 16))] ?_
 refine T_q (some 33) (vu (ior .u64 (ior .u64 (IntKind.wrap .u64 ((c.toNat : Nat) : Int)) (ishl .u64 (IntKind.wrap .u64 ((a.toNat : Nat) : Int)) 8)) (ishl .u64 (IntKind.wrap .u64 ((b.toNat : Nat) : Int)) 16))) [(0, .string s), (33, vu (ior .u64 (ior .u64 (IntKind.wrap .u64 ((c.toNat : Nat) : Int)) (ishl .u64 (IntKind.wrap .u64 ((a.toNat : Nat) : Int)) 8)) (ishl .u64 (IntKind.wrap .u64 ((b.toNat : Nat) : Int)) 16)))] ?_
 refine T_q (some 34) (.string s) [(0, .string s), (33, vu (ior .u64 (ior .u64 (IntKind.wrap .u64 ((c.toNat : Nat) : Int)) (ishl .u64 (IntKind.wrap .u64 ((a.toNat : Nat) : Int)) 8)) (ishl .u64 (IntKind.wrap .u64 ((b.toNat : Nat) : Int)) 16))), (34, .string s)] ?_
 obtain ⟨d, q4, h⟩ := h
 refine Q_op (some 35) (indexN 9 (.string s) (vi 3)) (.int .u8 ((d.toNat : Nat) : Int)) (fun _=>by kernel_rfl) (fun w _ => indexStr_run (P := Tryz.prog) (t := 9) (s := s) (k := .i64) (i := 3) Tryz.underlying9 q4.1 q4.2 w) [(0, .string s), (33, vu (ior .u64 (ior .u64 (IntKind.wrap .u64 ((c.toNat : Nat) : Int)) (ishl .u64 (IntKind.wrap .u64 ((a.toNat : Nat) : Int)) 8)) (ishl .u64 (IntKind.wrap .u64 ((b.toNat : Nat) : Int)) 16))), (35, .int .u8 ((d.toNat : Nat) : Int))] pk ?_
 refine T_q (some 36) (vu (IntKind.wrap .u64 ((d.toNat : Nat) : Int))) [(0, .string s), (33, vu (ior .u64 (ior .u64 (IntKind.wrap .u64 ((c.toNat : Nat) : Int)) (ishl .u64 (IntKind.wrap .u64 ((a.toNat : Nat) : Int)) 8)) (ishl .u64 (IntKind.wrap .u64 ((b.toNat : Nat) : Int)) 16))), (36, vu (IntKind.wrap .u64 ((d.toNat : Nat) : Int)))] ?_
 refine T_q (some 37) (vu (ishl .u64 (IntKind.wrap .u64 ((d.toNat : Nat) : Int)) 24)) [(0, .string s), (33, vu (ior .u64 (ior .u64 (IntKind.wrap .u64 ((c.toNat : Nat) : Int)) (ishl .u64 (IntKind.wrap .u64 ((a.toNat : Nat) : Int)) 8)) (ishl .u64 (IntKind.wrap .u64 ((b.toNat : Nat) : Int)) 16))), (37, vu (ishl .u64 (IntKind.wrap .u64 ((d.toNat : Nat) : Int)) 24))] ?_
 refine T_q (some 38) (vu (ior .u64 (ior .u64 (ior .u64 (IntKind.wrap .u64 ((c.toNat : Nat) : Int)) (ishl .u64 (IntKind.wrap .u64 ((a.toNat : Nat) : Int)) 8)) (ishl .u64 (IntKind.wrap .u64 ((b.toNat : Nat) : Int)) 16)) (ishl .u64 (IntKind.wrap .u64 ((d.toNat : Nat) : Int)) 24))) [(0, .string s), (38, vu (ior .u64 (ior .u64 (ior .u64 (IntKind.wrap .u64 ((c.toNat : Nat) : Int)) (ishl .u64 (IntKind.wrap .u64 ((a.toNat : Nat) : Int)) 8)) (ishl .u64 (IntKind.wrap .u64 ((b.toNat : Nat) : Int)) 16)) (ishl .u64 (IntKind.wrap .u64 ((d.toNat : Nat) : Int)) 24)))] ?_
 refine T_q (some 39) (.string s) [(0, .string s), (38, vu (ior .u64 (ior .u64 (ior .u64 (IntKind.wrap .u64 ((c.toNat : Nat) : Int)) (ishl .u64 (IntKind.wrap .u64 ((a.toNat : Nat) : Int)) 8)) (ishl .u64 (IntKind.wrap .u64 ((b.toNat : Nat) : Int)) 16)) (ishl .u64 (IntKind.wrap .u64 ((d.toNat : Nat) : Int)) 24))), (39, .string s)] ?_
 obtain ⟨e, q5, h⟩ := h
 refine Q_op (some 40) (indexN 9 (.string s) (vi 4)) (.int .u8 ((e.toNat : Nat) : Int)) (fun _=>by kernel_rfl) (fun w _ => indexStr_run (P := Tryz.prog) (t := 9) (s := s) (k := .i64) (i := 4) Tryz.underlying9 q5.1 q5.2 w) [(0, .string s), (38, vu (ior .u64 (ior .u64 (ior .u64 (IntKind.wrap .u64 ((c.toNat : Nat) : Int)) (ishl .u64 (IntKind.wrap .u64 ((a.toNat : Nat) : Int)) 8)) (ishl .u64 (IntKind.wrap .u64 ((b.toNat : Nat) : Int)) 16)) (ishl .u64 (IntKind.wrap .u64 ((d.toNat : Nat) : Int)) 24))), (40, .int .u8 ((e.toNat : Nat) : Int))] pk ?_
 refine T_q (some 41) (vu (IntKind.wrap .u64 ((e.toNat : Nat) : Int))) [(0, .string s), (38, vu (ior .u64 (ior .u64 (ior .u64 (IntKind.wrap .u64 ((c.toNat : Nat) : Int)) (ishl .u64 (IntKind.wrap .u64 ((a.toNat : Nat) : Int)) 8)) (ishl .u64 (IntKind.wrap .u64 ((b.toNat : Nat) : Int)) 16)) (ishl .u64 (IntKind.wrap .u64 ((d.toNat : Nat) : Int)) 24))), (41, vu (IntKind.wrap .u64 ((e.toNat : Nat) : Int)))] ?_
 refine T_q (some 42) (vu (ishl .u64 (IntKind.wrap .u64 ((e.toNat : Nat) : Int)) 32)) [(0, .string s), (38, vu (ior .u64 (ior .u64 (ior .u64 (IntKind.wrap .u64 ((c.toNat : Nat) : Int)) (ishl .u64 (IntKind.wrap .u64 ((a.toNat : Nat) : Int)) 8)) (ishl .u64 (IntKind.wrap .u64 ((b.toNat : Nat) : Int)) 16)) (ishl .u64 (IntKind.wrap .u64 ((d.toNat : Nat) : Int)) 24))), (42, vu (ishl .u64 (IntKind.wrap .u64 ((e.toNat : Nat) : Int)) 32))] ?_
 refine T_q (some 43) (vu (ior .u64 (ior .u64 (ior .u64 (ior .u64 (IntKind.wrap .u64 ((c.toNat : Nat) : Int)) (ishl .u64 (IntKind.wrap .u64 ((a.toNat : Nat) : Int)) 8)) (ishl .u64 (IntKind.wrap .u64 ((b.toNat : Nat) : Int)) 16)) (ishl .u64 (IntKind.wrap .u64 ((d.toNat : Nat) : Int)) 24)) (ishl .u64 (IntKind.wrap .u64 ((e.toNat : Nat) : Int)) 32))) [(0, .string s), (43, vu (ior .u64 (ior .u64 (ior .u64 (ior .u64 (IntKind.wrap .u64 ((c.toNat : Nat) : Int)) (ishl .u64 (IntKind.wrap .u64 ((a.toNat : Nat) : Int)) 8)) (ishl .u64 (IntKind.wrap .u64 ((b.toNat : Nat) : Int)) 16)) (ishl .u64 (IntKind.wrap .u64 ((d.toNat : Nat) : Int)) 24)) (ishl .u64 (IntKind.wrap .u64 ((e.toNat : Nat) : Int)) 32)))] ?_
 refine T_q (some 44) (.string s) [(0, .string s), (43, vu (ior .u64 (ior .u64 (ior .u64 (ior .u64 (IntKind.wrap .u64 ((c.toNat : Nat) : Int)) (ishl .u64 (IntKind.wrap .u64 ((a.toNat : Nat) : Int)) 8)) (ishl .u64 (IntKind.wrap .u64 ((b.toNat : Nat) : Int)) 16)) (ishl .u64 (IntKind.wrap .u64 ((d.toNat : Nat) : Int)) 24)) (ishl .u64 (IntKind.wrap .u64 ((e.toNat : Nat) : Int)) 32))), (44, .string s)] ?_
 obtain ⟨f, q6, h⟩ := h
 refine Q_op (some 45) (indexN 9 (.string s) (vi 5)) (.int .u8 ((f.toNat : Nat) : Int)) (fun _=>by kernel_rfl) (fun w _ => indexStr_run (P := Tryz.prog) (t := 9) (s := s) (k := .i64) (i := 5) Tryz.underlying9 q6.1 q6.2 w) [(0, .string s), (43, vu (ior .u64 (ior .u64 (ior .u64 (ior .u64 (IntKind.wrap .u64 ((c.toNat : Nat) : Int)) (ishl .u64 (IntKind.wrap .u64 ((a.toNat : Nat) : Int)) 8)) (ishl .u64 (IntKind.wrap .u64 ((b.toNat : Nat) : Int)) 16)) (ishl .u64 (IntKind.wrap .u64 ((d.toNat : Nat) : Int)) 24)) (ishl .u64 (IntKind.wrap .u64 ((e.toNat : Nat) : Int)) 32))), (45, .int .u8 ((f.toNat : Nat) : Int))] pk ?_
 refine T_q (some 46) (vu (IntKind.wrap .u64 ((f.toNat : Nat) : Int))) [(0, .string s), (43, vu (ior .u64 (ior .u64 (ior .u64 (ior .u64 (IntKind.wrap .u64 ((c.toNat : Nat) : Int)) (ishl .u64 (IntKind.wrap .u64 ((a.toNat : Nat) : Int)) 8)) (ishl .u64 (IntKind.wrap .u64 ((b.toNat : Nat) : Int)) 16)) (ishl .u64 (IntKind.wrap .u64 ((d.toNat : Nat) : Int)) 24)) (ishl .u64 (IntKind.wrap .u64 ((e.toNat : Nat) : Int)) 32))), (46, vu (IntKind.wrap .u64 ((f.toNat : Nat) : Int)))] ?_
 refine T_q (some 47) (vu (ishl .u64 (IntKind.wrap .u64 ((f.toNat : Nat) : Int)) 40)) [(0, .string s), (43, vu (ior .u64 (ior .u64 (ior .u64 (ior .u64 (IntKind.wrap .u64 ((c.toNat : Nat) : Int)) (ishl .u64 (IntKind.wrap .u64 ((a.toNat : Nat) : Int)) 8)) (ishl .u64 (IntKind.wrap .u64 ((b.toNat : Nat) : Int)) 16)) (ishl .u64 (IntKind.wrap .u64 ((d.toNat : Nat) : Int)) 24)) (ishl .u64 (IntKind.wrap .u64 ((e.toNat : Nat) : Int)) 32))), (47, vu (ishl .u64 (IntKind.wrap .u64 ((f.toNat : Nat) : Int)) 40))] ?_
 refine T_q (some 48) (vu (ior .u64 (ior .u64 (ior .u64 (ior .u64 (ior .u64 (IntKind.wrap .u64 ((c.toNat : Nat) : Int)) (ishl .u64 (IntKind.wrap .u64 ((a.toNat : Nat) : Int)) 8)) (ishl .u64 (IntKind.wrap .u64 ((b.toNat : Nat) : Int)) 16)) (ishl .u64 (IntKind.wrap .u64 ((d.toNat : Nat) : Int)) 24)) (ishl .u64 (IntKind.wrap .u64 ((e.toNat : Nat) : Int)) 32)) (ishl .u64 (IntKind.wrap .u64 ((f.toNat : Nat) : Int)) 40))) [(0, .string s), (48, vu (ior .u64 (ior .u64 (ior .u64 (ior .u64 (ior .u64 (IntKind.wrap .u64 ((c.toNat : Nat) : Int)) (ishl .u64 (IntKind.wrap .u64 ((a.toNat : Nat) : Int)) 8)) (ishl .u64 (IntKind.wrap .u64 ((b.toNat : Nat) : Int)) 16)) (ishl .u64 (IntKind.wrap .u64 ((d.toNat : Nat) : Int)) 24)) (ishl .u64 (IntKind.wrap .u64 ((e.toNat : Nat) : Int)) 32)) (ishl .u64 (IntKind.wrap .u64 ((f.toNat : Nat) : Int)) 40)))] ?_
 refine T_q (some 49) (.string s) [(0, .string s), (48, vu (ior .u64 (ior .u64 (ior .u64 (ior .u64 (ior .u64 (IntKind.wrap .u64 ((c.toNat : Nat) : Int)) (ishl .u64 (IntKind.wrap .u64 ((a.toNat : Nat) : Int)) 8)) (ishl .u64 (IntKind.wrap .u64 ((b.toNat : Nat) : Int)) 16)) (ishl .u64 (IntKind.wrap .u64 ((d.toNat : Nat) : Int)) 24)) (ishl .u64 (IntKind.wrap .u64 ((e.toNat : Nat) : Int)) 32)) (ishl .u64 (IntKind.wrap .u64 ((f.toNat : Nat) : Int)) 40))), (49, .string s)] ?_
 obtain ⟨g, q7, h⟩ := h
 refine Q_op (some 50) (indexN 9 (.string s) (vi 6)) (.int .u8 ((g.toNat : Nat) : Int)) (fun _=>by kernel_rfl) (fun w _ => indexStr_run (P := Tryz.prog) (t := 9) (s := s) (k := .i64) (i := 6) Tryz.underlying9 q7.1 q7.2 w) [(0, .string s), (48, vu (ior .u64 (ior .u64 (ior .u64 (ior .u64 (ior .u64 (IntKind.wrap .u64 ((c.toNat : Nat) : Int)) (ishl .u64 (IntKind.wrap .u64 ((a.toNat : Nat) : Int)) 8)) (ishl .u64 (IntKind.wrap .u64 ((b.toNat : Nat) : Int)) 16)) (ishl .u64 (IntKind.wrap .u64 ((d.toNat : Nat) : Int)) 24)) (ishl .u64 (IntKind.wrap .u64 ((e.toNat : Nat) : Int)) 32)) (ishl .u64 (IntKind.wrap .u64 ((f.toNat : Nat) : Int)) 40))), (50, .int .u8 ((g.toNat : Nat) : Int))] pk ?_
 refine T_q (some 51) (vu (IntKind.wrap .u64 ((g.toNat : Nat) : Int))) [(0, .string s), (48, vu (ior .u64 (ior .u64 (ior .u64 (ior .u64 (ior .u64 (IntKind.wrap .u64 ((c.toNat : Nat) : Int)) (ishl .u64 (IntKind.wrap .u64 ((a.toNat : Nat) : Int)) 8)) (ishl .u64 (IntKind.wrap .u64 ((b.toNat : Nat) : Int)) 16)) (ishl .u64 (IntKind.wrap .u64 ((d.toNat : Nat) : Int)) 24)) (ishl .u64 (IntKind.wrap .u64 ((e.toNat : Nat) : Int)) 32)) (ishl .u64 (IntKind.wrap .u64 ((f.toNat : Nat) : Int)) 40))), (51, vu (IntKind.wrap .u64 ((g.toNat : Nat) : Int)))] ?_
 refine T_q (some 52) (vu (ishl .u64 (IntKind.wrap .u64 ((g.toNat : Nat) : Int)) 48)) [(0, .string s), (48, vu (ior .u64 (ior .u64 (ior .u64 (ior .u64 (ior .u64 (IntKind.wrap .u64 ((c.toNat : Nat) : Int)) (ishl .u64 (IntKind.wrap .u64 ((a.toNat : Nat) : Int)) 8)) (ishl .u64 (IntKind.wrap .u64 ((b.toNat : Nat) : Int)) 16)) (ishl .u64 (IntKind.wrap .u64 ((d.toNat : Nat) : Int)) 24)) (ishl .u64 (IntKind.wrap .u64 ((e.toNat : Nat) : Int)) 32)) (ishl .u64 (IntKind.wrap .u64 ((f.toNat : Nat) : Int)) 40))), (52, vu (ishl .u64 (IntKind.wrap .u64 ((g.toNat : Nat) : Int)) 48))] ?_
 refine T_q (some 53) (vu (ior .u64 (ior .u64 (ior .u64 (ior .u64 (ior .u64 (ior .u64 (IntKind.wrap .u64 ((c.toNat : Nat) : Int)) (ishl .u64 (IntKind.wrap .u64 ((a.toNat : Nat) : Int)) 8)) (ishl .u64 (IntKind.wrap .u64 ((b.toNat : Nat) : Int)) 16)) (ishl .u64 (IntKind.wrap .u64 ((d.toNat : Nat) : Int)) 24)) (ishl .u64 (IntKind.wrap .u64 ((e.toNat : Nat) : Int)) 32)) (ishl .u64 (IntKind.wrap .u64 ((f.toNat : Nat) : Int)) 40)) (ishl .u64 (IntKind.wrap .u64 ((g.toNat : Nat) : Int)) 48))) [(0, .string s), (53, vu (ior .u64 (ior .u64 (ior .u64 (ior .u64 (ior .u64 (ior .u64 (IntKind.wrap .u64 ((c.toNat : Nat) : Int)) (ishl .u64 (IntKind.wrap .u64 ((a.toNat : Nat) : Int)) 8)) (ishl .u64 (IntKind.wrap .u64 ((b.toNat : Nat) : Int)) 16)) (ishl .u64 (IntKind.wrap .u64 ((d.toNat : Nat) : Int)) 24)) (ishl .u64 (IntKind.wrap .u64 ((e.toNat : Nat) : Int)) 32)) (ishl .u64 (IntKind.wrap .u64 ((f.toNat : Nat) : Int)) 40)) (ishl .u64 (IntKind.wrap .u64 ((g.toNat : Nat) : Int)) 48)))] ?_
 refine T_q (some 54) (.string s) [(53, vu (ior .u64 (ior .u64 (ior .u64 (ior .u64 (ior .u64 (ior .u64 (IntKind.wrap .u64 ((c.toNat : Nat) : Int)) (ishl .u64 (IntKind.wrap .u64 ((a.toNat : Nat) : Int)) 8)) (ishl .u64 (IntKind.wrap .u64 ((b.toNat : Nat) : Int)) 16)) (ishl .u64 (IntKind.wrap .u64 ((d.toNat : Nat) : Int)) 24)) (ishl .u64 (IntKind.wrap .u64 ((e.toNat : Nat) : Int)) 32)) (ishl .u64 (IntKind.wrap .u64 ((f.toNat : Nat) : Int)) 40)) (ishl .u64 (IntKind.wrap .u64 ((g.toNat : Nat) : Int)) 48))), (54, .string s)] ?_
 obtain ⟨j, q8, h⟩ := h
 refine Q_op (some 55) (indexN 9 (.string s) (vi 7)) (.int .u8 ((j.toNat : Nat) : Int)) (fun _=>by kernel_rfl) (fun w _ => indexStr_run (P := Tryz.prog) (t := 9) (s := s) (k := .i64) (i := 7) Tryz.underlying9 q8.1 q8.2 w) [(53, vu (ior .u64 (ior .u64 (ior .u64 (ior .u64 (ior .u64 (ior .u64 (IntKind.wrap .u64 ((c.toNat : Nat) : Int)) (ishl .u64 (IntKind.wrap .u64 ((a.toNat : Nat) : Int)) 8)) (ishl .u64 (IntKind.wrap .u64 ((b.toNat : Nat) : Int)) 16)) (ishl .u64 (IntKind.wrap .u64 ((d.toNat : Nat) : Int)) 24)) (ishl .u64 (IntKind.wrap .u64 ((e.toNat : Nat) : Int)) 32)) (ishl .u64 (IntKind.wrap .u64 ((f.toNat : Nat) : Int)) 40)) (ishl .u64 (IntKind.wrap .u64 ((g.toNat : Nat) : Int)) 48))), (55, .int .u8 ((j.toNat : Nat) : Int))] pk ?_
 refine T_q (some 56) (vu (IntKind.wrap .u64 ((j.toNat : Nat) : Int))) [(53, vu (ior .u64 (ior .u64 (ior .u64 (ior .u64 (ior .u64 (ior .u64 (IntKind.wrap .u64 ((c.toNat : Nat) : Int)) (ishl .u64 (IntKind.wrap .u64 ((a.toNat : Nat) : Int)) 8)) (ishl .u64 (IntKind.wrap .u64 ((b.toNat : Nat) : Int)) 16)) (ishl .u64 (IntKind.wrap .u64 ((d.toNat : Nat) : Int)) 24)) (ishl .u64 (IntKind.wrap .u64 ((e.toNat : Nat) : Int)) 32)) (ishl .u64 (IntKind.wrap .u64 ((f.toNat : Nat) : Int)) 40)) (ishl .u64 (IntKind.wrap .u64 ((g.toNat : Nat) : Int)) 48))), (56, vu (IntKind.wrap .u64 ((j.toNat : Nat) : Int)))] ?_
 refine T_q (some 57) (vu (ishl .u64 (IntKind.wrap .u64 ((j.toNat : Nat) : Int)) 56)) [(53, vu (ior .u64 (ior .u64 (ior .u64 (ior .u64 (ior .u64 (ior .u64 (IntKind.wrap .u64 ((c.toNat : Nat) : Int)) (ishl .u64 (IntKind.wrap .u64 ((a.toNat : Nat) : Int)) 8)) (ishl .u64 (IntKind.wrap .u64 ((b.toNat : Nat) : Int)) 16)) (ishl .u64 (IntKind.wrap .u64 ((d.toNat : Nat) : Int)) 24)) (ishl .u64 (IntKind.wrap .u64 ((e.toNat : Nat) : Int)) 32)) (ishl .u64 (IntKind.wrap .u64 ((f.toNat : Nat) : Int)) 40)) (ishl .u64 (IntKind.wrap .u64 ((g.toNat : Nat) : Int)) 48))), (57, vu (ishl .u64 (IntKind.wrap .u64 ((j.toNat : Nat) : Int)) 56))] ?_
 refine T_q (some 58) (vu (ior .u64 (ior .u64 (ior .u64 (ior .u64 (ior .u64 (ior .u64 (ior .u64 (IntKind.wrap .u64 ((c.toNat : Nat) : Int)) (ishl .u64 (IntKind.wrap .u64 ((a.toNat : Nat) : Int)) 8)) (ishl .u64 (IntKind.wrap .u64 ((b.toNat : Nat) : Int)) 16)) (ishl .u64 (IntKind.wrap .u64 ((d.toNat : Nat) : Int)) 24)) (ishl .u64 (IntKind.wrap .u64 ((e.toNat : Nat) : Int)) 32)) (ishl .u64 (IntKind.wrap .u64 ((f.toNat : Nat) : Int)) 40)) (ishl .u64 (IntKind.wrap .u64 ((g.toNat : Nat) : Int)) 48)) (ishl .u64 (IntKind.wrap .u64 ((j.toNat : Nat) : Int)) 56))) [(58, vu (ior .u64 (ior .u64 (ior .u64 (ior .u64 (ior .u64 (ior .u64 (ior .u64 (IntKind.wrap .u64 ((c.toNat : Nat) : Int)) (ishl .u64 (IntKind.wrap .u64 ((a.toNat : Nat) : Int)) 8)) (ishl .u64 (IntKind.wrap .u64 ((b.toNat : Nat) : Int)) 16)) (ishl .u64 (IntKind.wrap .u64 ((d.toNat : Nat) : Int)) 24)) (ishl .u64 (IntKind.wrap .u64 ((e.toNat : Nat) : Int)) 32)) (ishl .u64 (IntKind.wrap .u64 ((f.toNat : Nat) : Int)) 40)) (ishl .u64 (IntKind.wrap .u64 ((g.toNat : Nat) : Int)) 48)) (ishl .u64 (IntKind.wrap .u64 ((j.toNat : Nat) : Int)) 56)))] ?_
 refine T_q (some 2) (vu (ior .u64 (ior .u64 (ior .u64 (ior .u64 (ior .u64 (ior .u64 (ior .u64 (IntKind.wrap .u64 ((c.toNat : Nat) : Int)) (ishl .u64 (IntKind.wrap .u64 ((a.toNat : Nat) : Int)) 8)) (ishl .u64 (IntKind.wrap .u64 ((b.toNat : Nat) : Int)) 16)) (ishl .u64 (IntKind.wrap .u64 ((d.toNat : Nat) : Int)) 24)) (ishl .u64 (IntKind.wrap .u64 ((e.toNat : Nat) : Int)) 32)) (ishl .u64 (IntKind.wrap .u64 ((f.toNat : Nat) : Int)) 40)) (ishl .u64 (IntKind.wrap .u64 ((g.toNat : Nat) : Int)) 48)) (ishl .u64 (IntKind.wrap .u64 ((j.toNat : Nat) : Int)) 56))) [(2, vu (ior .u64 (ior .u64 (ior .u64 (ior .u64 (ior .u64 (ior .u64 (ior .u64 (IntKind.wrap .u64 ((c.toNat : Nat) : Int)) (ishl .u64 (IntKind.wrap .u64 ((a.toNat : Nat) : Int)) 8)) (ishl .u64 (IntKind.wrap .u64 ((b.toNat : Nat) : Int)) 16)) (ishl .u64 (IntKind.wrap .u64 ((d.toNat : Nat) : Int)) 24)) (ishl .u64 (IntKind.wrap .u64 ((e.toNat : Nat) : Int)) 32)) (ishl .u64 (IntKind.wrap .u64 ((f.toNat : Nat) : Int)) 40)) (ishl .u64 (IntKind.wrap .u64 ((g.toNat : Nat) : Int)) 48)) (ishl .u64 (IntKind.wrap .u64 ((j.toNat : Nat) : Int)) 56)))] ?_
 refine Q_sub [(2, vu (ior .u64 (ior .u64 (ior .u64 (ior .u64 (ior .u64 (ior .u64 (ior .u64 (IntKind.wrap .u64 ((c.toNat : Nat) : Int)) (ishl .u64 (IntKind.wrap .u64 ((a.toNat : Nat) : Int)) 8)) (ishl .u64 (IntKind.wrap .u64 ((b.toNat : Nat) : Int)) 16)) (ishl .u64 (IntKind.wrap .u64 ((d.toNat : Nat) : Int)) 24)) (ishl .u64 (IntKind.wrap .u64 ((e.toNat : Nat) : Int)) 32)) (ishl .u64 (IntKind.wrap .u64 ((f.toNat : Nat) : Int)) 40)) (ishl .u64 (IntKind.wrap .u64 ((g.toNat : Nat) : Int)) 48)) (ishl .u64 (IntKind.wrap .u64 ((j.toNat : Nat) : Int)) 56)))] sk ?_
 refine T_qe ?_
 exact T_ret [2] [vu (ior .u64 (ior .u64 (ior .u64 (ior .u64 (ior .u64 (ior .u64 (ior .u64 (IntKind.wrap .u64 ((c.toNat : Nat) : Int)) (ishl .u64 (IntKind.wrap .u64 ((a.toNat : Nat) : Int)) 8)) (ishl .u64 (IntKind.wrap .u64 ((b.toNat : Nat) : Int)) 16)) (ishl .u64 (IntKind.wrap .u64 ((d.toNat : Nat) : Int)) 24)) (ishl .u64 (IntKind.wrap .u64 ((e.toNat : Nat) : Int)) 32)) (ishl .u64 (IntKind.wrap .u64 ((f.toNat : Nat) : Int)) 40)) (ishl .u64 (IntKind.wrap .u64 ((g.toNat : Nat) : Int)) 48)) (ishl .u64 (IntKind.wrap .u64 ((j.toNat : Nat) : Int)) 56))] hQ h
end unicode_utf8_word_string

end Go.Proofs.YthlohokmnajpoaaGreatDoor
