/-
 How many words a datum's things have, and BuildSize said of heaps. Proves nothing of any one statement.
-/
import Derived.Test.YtdgejifkcfgliaaGreatDoorBuildTw
import Derived.Test.YtdgejifkcfgliaaGreatDoorLx
set_option linter.unusedVariables false
set_option linter.unusedSimpArgs false
set_option maxHeartbeats 1000000
namespace Go.Proofs.YtdgejifkcfgliaaGreatDoor
open Go

def costS (sy : List ByteArray) : Int := (sy.map fun t => 3 + ((runesOf t).length : Int)).sum
def svs (l : List ByteArray) : List Value := l.map Value.string
theorem costS_snoc (sy : List ByteArray) (t : ByteArray) : costS (sy ++ [t]) = costS sy + (3 + ((runesOf t).length : Int)) := by unfold costS; rw [List.map_append, List.sum_append]; simp
theorem text_eq {s t : ByteArray} : s.toList = t.toList ↔ s = t := by
 constructor
 ·intro h
  rw [Lib.toList_data, Lib.toList_data] at h
  exact ByteArray.ext (Array.toList_inj.1 h)
 ·intro h; rw [h]
structure SizeR (sy sy' ns : List ByteArray) : Prop where
 nodup : sy.Nodup → sy'.Nodup
 mem : ∀ t, t ∈ sy' ↔ t ∈ sy ∨ t ∈ ns
theorem SizeR.trans {a b c m n : List ByteArray} (h1 : SizeR a b m) (h2 : SizeR b c n) : SizeR a c (m ++ n) :=
 ⟨fun h => h2.nodup (h1.nodup h), fun t => by rw [h2.mem, h1.mem, List.mem_append]; exact or_assoc⟩
theorem size_fix {neg : Bool} {mag : List Int} (hm : mayR neg mag = true) (hl : ∀ x ∈ mag, IsLimb x) :
  (fixR neg mag).2 = (decide (mag.length < 2) || (decide (mag.length = 2) && (decide (mag.getD 1 0 < 268435456) || (neg && (decide (mag.getD 1 0 = 268435456) && decide (mag.getD 0 0 = 0)))))) := by
 obtain ⟨h48, htop, _, _⟩ := may_parts hm
 have hl0 := limb_at hl 0
 have hl1 := limb_at hl 1
 unfold IsLimb at hl0 hl1
 have hX : fixX mag = mag.getD 0 0 + 4294967296 * mag.getD 1 0 := rfl
 have hz : mag.length < 2 → mag.getD 1 0 = 0 := fun h => by rw [List.getD, List.getElem?_eq_none (by omega)]; rfl
 unfold fixR
 generalize mag.getD 0 0 = m0 at *
 generalize mag.getD 1 0 = m1 at *
 by_cases h2 : 2 < top mag
 ·rw [if_pos h2, decide_eq_false (show ¬ mag.length < 2 by omega), decide_eq_false (show ¬ mag.length = 2 by omega)]; rfl
 rw [if_neg h2]
 by_cases h3 : mag.length < 2
 ·have h1 := hz h3
  rw [if_neg (by omega), if_neg (by omega), decide_eq_true h3, Bool.true_or]
  split <;> rfl
 have h4 : mag.length = 2 := by omega
 rw [decide_eq_false h3, decide_eq_true h4, Bool.false_or, Bool.true_and]
 by_cases h5 : m1 < 268435456
 ·rw [if_neg (by omega), if_neg (by omega), decide_eq_true h5, Bool.true_or]
  split <;> rfl
 rw [decide_eq_false h5, Bool.false_or]
 by_cases h6 : fixX mag > 1152921504606846976
 ·rw [if_pos h6]
  have hf : (decide (m1 = 268435456) && decide (m0 = 0)) = false := by
   by_cases h7 : m1 = 268435456
   ·rw [decide_eq_false (show ¬ m0 = 0 by omega), Bool.and_false]
   ·rw [decide_eq_false h7, Bool.false_and]
  rw [hf, Bool.and_false]
 rw [if_neg h6]
 have h7 : m1 = 268435456 := by omega
 have h8 : m0 = 0 := by omega
 have h9 : fixX mag = 1152921504606846976 := by omega
 rw [decide_eq_true h7, decide_eq_true h8]
 cases neg
 ·rw [if_pos ⟨h9, rfl⟩]; rfl
 ·rw [if_neg (fun h => by cases h.2), if_pos rfl]; rfl
def SizePost (lo : Nat) (H : Array Obj) (B : Option Addr) (sy : List ByteArray) (d : Dt) (r : Value) (H' : Array Obj) : Prop :=
 ∃ (B' : Option Addr) (n' c' : Nat) (sy' : List ByteArray), r = .tuple #[.int .i64 (baseD d + (costS sy' - costS sy)), .slice B' n' c'] ∧ (Own H' 9 1 B' n' c' (svs sy') ∧ n' = sy'.length) ∧ (∀ i ∈ blks B', lo ≤ i ∧ (i ∈ blks B ∨ H.size ≤ i)) ∧ Fr (blks B) H H' ∧ SizeR sy sy' (namesD d) ∧ (sy'.length : Int) ≤ sy.length + countD d ∧
  (0 ≤ baseD d + (costS sy' - costS sy) ∧ baseD d + (costS sy' - costS sy) ≤ 1000 * countD d)
set_option maxRecDepth 20000 in
theorem size_c (d : Dt) : ∀ {P : Nat → Prop} {H : Array Obj} {v : Dv} {B : Option Addr} {n c lo : Nat} {sy : List ByteArray} (D : DatAt P H v d) (hp : Plain d) (hl : Light d) (ho : Own H 9 1 B n c (svs sy)) (hn : n = sy.length) (hlo : ∀ i ∈ blks B, lo ≤ i) (hP : ∀ i, P i → i < lo) (hloH : lo ≤ H.size) (hc : (sy.length : Int) + countD d ≤ 1000000),
  morainelaw17_size.C v.kind v.c v.neg v.mB v.mN v.mC v.t v.lB v.lN v.lC B n c H (SizePost lo H B sy d) := by
 induction d using Dt.ind with
 | h kd cc neg mag t l ih =>
 intro P H v B n c lo sy D hp hl ho hn hlo hP hloH hc
 refine HC.via fun R hR => morainelaw17_size.link ?_
 unfold morainelaw17_size.pt
 intro b H1 hb hH1
 have e1 := Ext.push' hH1
 have BX := DBox.new (v := v) hb hH1
 have g1 := push_get hb hH1
 have hb1 := lt_size g1
 have hbH : b = H.size := hb
 have hs1 := e1.size
 have ho1 := ho.ext e1
 have hBlt : ∀ i ∈ blks B, i < H.size := fun i hi => ho.lt i hi
 have hcp := countD_pos (.mk kd cc neg mag t l)
 obtain ⟨ht1000, hm300, hl1⟩ := light_parts hl
 refine ⟨_, BX.kind, ?_⟩
 have D0 := D
 cases D with
 | mk _ _ _ _ _ _ _ us ek ec en et hk hc' hm hmc hmb hsrc hlm hll hlc hlb hus mP lP row each =>
 rw [ek]
 subst hn
 have same : ∀ (z : Int) (A : Array Obj), Ext H1 A → namesD (.mk kd cc neg mag t l) = [] → z = baseD (.mk kd cc neg mag t l) → (0 ≤ z ∧ z ≤ 1000) → R (.tuple #[.int .i64 z, .slice B sy.length c]) A := fun z A eA hN hz hzb => by
  refine hR _ _ ⟨B, sy.length, c, sy, by rw [hz, Int.sub_self, Int.add_zero], ⟨ho1.ext eA, rfl⟩, fun i hi => ⟨hlo i hi, .inl hi⟩, (e1.trans eA).fr, ⟨fun h => h, fun t => by rw [hN]; simp⟩, by omega, ?_⟩
  rw [Int.sub_self, Int.add_zero, ← hz]
  exact ⟨hzb.1, by omega⟩
 by_cases k5 : kd = 5
 ·rw [if_pos k5]
  subst k5
  obtain ⟨e, htx⟩ := plain_str hp
  have h62 := htx.2
  refine ⟨_, BX.t, ?_⟩
  rw [et]
  refine HC.mono (ref_Runes_c (by omega)) ?_
  rintro _ H2 ⟨rB, rN, rC, rfl, hok, e2⟩
  obtain ⟨hrn, _⟩ := hok htx.1
  refine ⟨_, _, _, _, rfl, ?_⟩
  rw [hrn, w64 (by omega)]
  exact same _ H2 e2 (by rw [e]; simp [namesD, namesL]) (by rw [e]; simp [baseD, baseL]; omega) (by omega)
 rw [if_neg k5]
 by_cases k6 : kd = 6
 ·rw [if_pos k6]
  subst k6
  obtain ⟨e, htx, hne⟩ := plain_sym hp
  have h62 := htx.2
  have hbs : baseD (.mk 6 cc neg mag t l) = 0 := by rw [e]; simp [baseD, baseL]
  have hns : namesD (.mk 6 cc neg mag t l) = [t] := by rw [e]; simp [namesD, namesL]
  refine ⟨fun i A => (0 ≤ i ∧ i ≤ sy.length) ∧ A = H1 ∧ ∀ j : Nat, (j : Int) < i → ∀ (h : j < sy.length), sy[j] ≠ t, fun i _ => (sy.length - i).toNat, ⟨⟨by omega, by omega⟩, rfl, fun j hj => by omega⟩, ?_⟩
  rintro i A ⟨hi, rfl, hno⟩
  by_cases hlt : i < (sy.length : Int)
  ·rw [if_pos hlt]
   have hin : i.toNat < sy.length := by omega
   obtain ⟨a, ha, hat1⟩ := ho1.at (j := i.toNat) (v := .string sy[i.toNat]) (by simp [svs, hin])
   refine ⟨a, ha, ⟨hi.1, hlt⟩, sy[i.toNat], by rw [Nat.mul_one]; exact hat1, _, BX.t, ?_⟩
   rw [et]
   by_cases he : sy[i.toNat] = t
   ·rw [if_pos (text_eq.2 he), ← ha]
    refine hR _ _ ⟨B, sy.length, c, sy, by rw [hbs]; simp, ⟨ho1, rfl⟩, fun i hi => ⟨hlo i hi, .inl hi⟩, e1.fr, ⟨fun h => h, fun u => ?_⟩, by omega, by rw [hbs]; omega⟩
    rw [hns]
    constructor
    ·intro h; exact .inl h
    ·rintro (h | h)
     ·exact h
     ·simp at h; rw [h, ← he]; exact List.getElem_mem hin
   ·rw [if_neg (fun h => he (text_eq.1 h)), w64 (by omega)]
    refine ⟨⟨by omega, rfl, fun j hj hjl => ?_⟩, by show ((sy.length : Int) - (i + 1)).toNat < ((sy.length : Int) - i).toNat; omega⟩
    by_cases hji : (j : Int) < i
    ·exact hno j hji hjl
    ·have : j = i.toNat := by omega
     subst this; exact he
  ·rw [if_neg hlt]
   have hnin : t ∉ sy := fun h => by
    obtain ⟨j, hj, e⟩ := List.getElem_of_mem h
    exact hno j (by omega) hj e
   refine ⟨_, BX.t, ?_⟩
   rw [et]
   refine HC.mono (ref_Runes_c (by omega)) ?_
   rintro _ H4 ⟨rB, rN, rC, rfl, hok, e4⟩
   obtain ⟨hrn, _⟩ := hok htx.1
   refine ⟨_, _, _, _, rfl, _, (BX.ext e4).t, fun b2 H5 hb2 hH5 => ?_⟩
   rw [et] at hH5
   have e5 := Ext.push' hH5
   have hs4 := e4.size
   have hs5 := e5.size
   refine own_append (ys := [.string t]) ((ho1.ext e4).ext e5) (rowAt_blk (push_get hb2 hH5) _ 0 0 (fun j hj => by simp)) (by simp) (by rfl) rfl (by omega) ?_
   intro p' c' H6 ho6 f6 hnew
   rw [hrn, w64 (by omega)]
   refine hR _ _ ⟨p', sy.length + 1, c', sy ++ [t], by rw [show baseD (.mk 6 cc neg mag t l) + (costS (sy ++ [t]) - costS sy) = 3 + ((runesOf t).length : Int) by rw [hbs, costS_snoc]; omega], ⟨by simpa [svs] using ho6, by simp⟩, fun i hi => ?_, ((e1.trans e4).trans e5).fr.trans f6, ⟨fun hnd => ?_, fun u => ?_⟩, by simp; omega, by rw [hbs, costS_snoc]; omega⟩
   ·rcases hnew i hi with h | h
    ·exact ⟨hlo i h, .inl h⟩
    ·exact ⟨by omega, .inr (by omega)⟩
   ·rw [List.nodup_append]
    exact ⟨hnd, by simp, fun u hu w hw e9 => by simp at hw; rw [e9, hw] at hu; exact hnin hu⟩
   ·rw [hns, List.mem_append]
 rw [if_neg k6]
 by_cases k4 : kd = 4
 ·rw [if_pos k4]
  subst k4
  obtain ⟨e, hmay⟩ := plain_num hp
  obtain ⟨hm48, _, _, _⟩ := may_parts hmay
  have hsf := size_fix hmay hlm
  refine ⟨_, _, _, BX.mag, ?_⟩
  rw [hm]
  have hbn : baseD (.mk 4 cc neg mag t l) = if (fixR neg mag).2 = true then 0 else (mag.length : Int) + 1 := by rw [e]; simp [baseD, baseL]
  have hnn : namesD (.mk 4 cc neg mag t l) = [] := by rw [e]; simp [namesD, namesL]
  have hget : ∀ i : Nat, i < mag.length → ∃ a, v.mB = some a ∧ hat H1 (a.add (i * 1)) = some (.int .u32 (mag.getD i 0)) := fun i hi => by
   have hs := SrcAt.stay hsrc (e1.fr (S := [])) (by simp)
   cases hB : v.mB with
   | none => rw [hB] at hs; simp [lvs] at hs; subst hs; simp at hi
   | some a => rw [hB] at hs; exact ⟨a, rfl, by rw [Nat.mul_one]; exact rowD hs hi⟩
  refine ⟨fun q A => q = (fixR neg mag).2 ∧ A = H1, ?_, ?_⟩
  ·by_cases h2 : (mag.length : Int) < 2
   ·rw [if_pos h2]
    refine ⟨?_, rfl⟩
    rw [hsf, decide_eq_true (show mag.length < 2 by omega)]; rfl
   rw [if_neg h2]
   have h2' : ¬ mag.length < 2 := by omega
   by_cases h3 : (mag.length : Int) = 2
   ·rw [if_pos h3]
    have h3' : mag.length = 2 := by omega
    obtain ⟨a, ha, hat1⟩ := hget 1 (by omega)
    refine ⟨a, ha, ⟨by decide, by omega⟩, _, hat1, ?_⟩
    rw [decide_eq_false h2', decide_eq_true h3', Bool.false_or, Bool.true_and] at hsf
    by_cases h5 : mag.getD 1 0 < 268435456
    ·rw [if_pos h5]
     refine ⟨?_, rfl⟩
     rw [hsf, decide_eq_true h5]; rfl
    rw [if_neg h5]
    refine ⟨_, BX.neg, ?_⟩
    rw [en]
    cases neg with
    | true =>
     rw [if_pos rfl]
     refine ⟨⟨by decide, by omega⟩, _, hat1, ?_⟩
     by_cases h7 : mag.getD 1 0 = 268435456
     ·rw [if_pos h7]
      obtain ⟨a', ha', hat0⟩ := hget 0 (by omega)
      rw [ha] at ha'; cases ha'
      refine ⟨⟨by decide, by omega⟩, _, hat0, ?_, rfl⟩
      rw [hsf, decide_eq_false h5, decide_eq_true h7, Bool.false_or, Bool.true_and, Bool.true_and]
      rfl
     ·rw [if_neg h7]
      refine ⟨?_, rfl⟩
      rw [hsf, decide_eq_false h5, decide_eq_false h7]; rfl
    | false =>
     rw [if_neg (by decide)]
     refine ⟨?_, rfl⟩
     rw [hsf, decide_eq_false h5]; rfl
   ·rw [if_neg h3]
    refine ⟨?_, rfl⟩
    have h3' : ¬ mag.length = 2 := by omega
    rw [hsf, decide_eq_false h2', decide_eq_false h3']; rfl
  ·rintro q A ⟨rfl, rfl⟩
   by_cases hf : (fixR neg mag).2 = true
   ·rw [if_pos hf]
    exact same 0 _ (Ext.refl _) hnn (by rw [hbn, if_pos hf]) (by omega)
   ·rw [if_neg hf, w64 (by omega)]
    exact same _ _ (Ext.refl _) hnn (by rw [hbn, if_neg hf]; omega) (by omega)
 rw [if_neg k4]
 have hl62 : l.length ≤ 62 := by cases hp with | mk _ _ _ _ _ _ _ _ _ _ h _ => exact h
 have hpl : ∀ x ∈ l, Plain x := by cases hp with | mk _ _ _ _ _ _ _ _ _ _ _ h => exact h
 generalize hn0 : (if kd = 7 then (2 : Int) else if kd = 8 then (l.length : Int) + 1 else 0) = n0
 have hn0b : 0 ≤ n0 ∧ n0 ≤ 63 := by
  rw [← hn0]
  by_cases z7 : kd = 7
  ·rw [if_pos z7]; omega
  ·rw [if_neg z7]
   by_cases z8 : kd = 8
   ·rw [if_pos z8]; omega
   ·rw [if_neg z8]; omega
 have hbd : baseD (.mk kd cc neg mag t l) = n0 + baseL l := by
  simp only [baseD]
  rw [if_neg k4, if_neg k5, hn0]
 have hnd : namesD (.mk kd cc neg mag t l) = namesL l := by simp only [namesD]; rw [if_neg k6]; rfl
 rw [show countD (.mk kd cc neg mag t l) = 1 + countL l from rfl] at hc
 refine ⟨_, BX.kind, fun nv A => H1 = A ∧ (if kd = 7 then (2 : Int) else 0) = nv, ?_, ?_⟩
 ·rw [ek]
  by_cases k7 : kd = 7
  ·rw [if_pos k7]; exact ⟨rfl, by rw [if_pos k7]⟩
  ·rw [if_neg k7]; exact ⟨rfl, by rw [if_neg k7]⟩
 rintro nv A ⟨rfl, rfl⟩
 refine ⟨_, BX.kind, fun nv A => H1 = A ∧ n0 = nv, ?_, ?_⟩
 ·rw [ek]
  by_cases k8 : kd = 8
  ·rw [if_pos k8]
   refine ⟨_, _, _, BX.l, rfl, ?_⟩
   rw [hll, w64 (by omega), ← hn0, if_neg (by omega), if_pos k8]; omega
  ·rw [if_neg k8]
   refine ⟨rfl, ?_⟩
   rw [← hn0, if_neg k8]
 rintro nv A ⟨rfl, rfl⟩
 have hsumT : ∀ (n : Nat), countL (l.take n) ≤ countL l := by
  have : ∀ (l : List Dt) (n : Nat), countL (l.take n) ≤ countL l := by
   intro l
   induction l with
   | nil => intro n; simp
   | cons z l ih => intro n; cases n with
    | zero => have := countL_pos (z :: l); simp only [List.take_zero, countL] at this ⊢; omega
    | succ n => simp only [List.take_succ_cons, countL]; have := ih n; omega
  exact this l
 refine ⟨fun B2 n2 c2 nv i A => ∃ (sy2 : List ByteArray) (j : Nat), i = j ∧ j ≤ l.length ∧ (Own A 9 1 B2 n2 c2 (svs sy2) ∧ n2 = sy2.length) ∧ (∀ i ∈ blks B2, lo ≤ i ∧ (i ∈ blks B ∨ H1.size ≤ i)) ∧ Fr (blks B) H1 A ∧ SizeR sy sy2 (namesL (l.take j)) ∧ ((sy2.length : Int) ≤ sy.length + countL (l.take j)) ∧ nv = n0 + baseL (l.take j) + (costS sy2 - costS sy) ∧ (0 ≤ baseL (l.take j) + (costS sy2 - costS sy) ∧ baseL (l.take j) + (costS sy2 - costS sy) ≤ 1000 * countL (l.take j)), fun _ _ _ _ i _ => (l.length - i).toNat,
  ⟨sy, 0, rfl, by omega, ⟨ho1, rfl⟩, fun i hi => ⟨hlo i hi, .inl hi⟩, Fr.refl _ _, ⟨fun h => h, fun t => by simp [namesL]⟩, by simp [countL], by simp [baseL], by simp [baseL, countL]⟩, ?_⟩
 rintro B2 n2 c2 nv i A ⟨sy2, j, rfl, hj, ⟨ho2, rfl⟩, hB2, fA, hS, hsl, rfl, hbnd⟩
 have hsA := fA.size
 have hbA : A[b]? = _ := fA.get (fun hi => by have := hBlt _ hi; omega) g1
 have BA := DBox.of hbA
 have hTj := hsumT j
 have hcl := (countL_pos (l.take j)).1
 refine ⟨_, _, _, BA.l, ?_⟩
 rw [hll]
 by_cases hlt : (j : Int) < (l.length : Int)
 ·rw [if_pos hlt]
  have hjl : j < l.length := by omega
  obtain ⟨a, ha, hr⟩ := row j (by omega)
  have hab : P a.block := lP (fun h0 => by subst h0; simp at hjl) a.block (by rw [ha]; simp)
  have hrA : RowAt A (a.add (j * 6)) 0 us[j].cells := fA.rowAt (by rw [addr_block_add]; exact fun h => by have := hlo _ h; have := hP _ hab; omega) (e1.rowAt hr)
  have hmem : l[j] ∈ l := List.getElem_mem hjl
  have hcm := countL_mem hmem
  have hmp := countD_pos l[j]
  have htk : l.take (j + 1) = l.take j ++ [l[j]] := List.take_succ_eq_append_getElem hjl
  have hT1 := hsumT (j + 1)
  rw [htk, countL_snoc] at hT1
  have Dj : DatAt P A us[j] l[j] := ((each j (by omega) hjl).ext e1).keep fA (fun i hi hp => by have := hlo i hi; have := hP i hp; omega) (fun i hp => hp)
  refine ⟨_, _, _, BA.l, a, ha, ⟨by omega, by rw [hll]; exact hlt⟩, _, _, _, _, _, _, _, _, _, _, hrA, ?_⟩
  refine HC.mono (ih _ hmem Dj (hpl _ hmem) (hl1 _ hmem) ho2 rfl (fun i hi => (hB2 i hi).1) hP (by omega) (by omega)) ?_
  rintro _ H11 ⟨B3, n3, c3, sy3, rfl, ⟨ho3, rfl⟩, hB3, f11, hS3, hsl3, hb3⟩
  refine ⟨_, _, _, _, rfl, ?_⟩
  rw [w64 (n := (j : Int) + 1) (by omega), w64 (by omega)]
  refine ⟨⟨sy3, j + 1, by omega, by omega, ⟨ho3, rfl⟩, fun i hi => ⟨(hB3 i hi).1, ?_⟩, fA.trans' f11 (fun i hi _ => hi) (fun i hi hl => ?_), ?_, ?_, ?_, ?_⟩, by show ((l.length : Int) - ((j : Int) + 1)).toNat < ((l.length : Int) - (j : Int)).toNat; omega⟩
  ·rcases (hB3 i hi).2 with h | h
   ·exact (hB2 i h).2
   ·exact .inr (by omega)
  ·rcases (hB2 i hi).2 with h | h
   ·exact h
   ·omega
  ·rw [htk, namesL_snoc]; exact hS.trans hS3
  ·rw [htk, countL_snoc]; omega
  ·rw [htk, baseL_snoc]; omega
  ·rw [htk, countL_snoc, baseL_snoc]; omega
 ·rw [if_neg hlt]
  have hje : j = l.length := by omega
  subst hje
  rw [List.take_length] at hS hsl hbnd ⊢
  refine hR _ _ ⟨B2, sy2.length, c2, sy2, by rw [hbd], ⟨ho2, rfl⟩, fun i hi => ⟨(hB2 i hi).1, (hB2 i hi).2.imp id (fun h => by omega)⟩, (e1.fr (S := blks B)).trans fA, by rw [hnd]; exact hS, ?_, ?_⟩
  ·rw [show countD (.mk kd cc neg mag t l) = 1 + countL l from rfl]; omega
  ·rw [show countD (.mk kd cc neg mag t l) = 1 + countL l from rfl, hbd]; omega
theorem sum_same {f : ByteArray → Int} : ∀ {l m : List ByteArray}, l.Nodup → m.Nodup → (∀ t, t ∈ l ↔ t ∈ m) → (l.map f).sum = (m.map f).sum
 | [], m, _, _, h => by
  have : m = [] := List.eq_nil_iff_forall_not_mem.2 (fun t ht => by have := (h t).2 ht; simp at this)
  rw [this]
 | a :: r, m, hl, hm, h => by
  obtain ⟨s, t, rfl⟩ := List.append_of_mem ((h a).1 (by simp))
  rw [List.nodup_cons] at hl
  rw [List.nodup_append, List.nodup_cons] at hm
  obtain ⟨h1, ⟨h2, h3⟩, h4⟩ := hm
  have ih := sum_same (f := f) (l := r) (m := s ++ t) hl.2 (by
   rw [List.nodup_append]
   exact ⟨h1, h3, fun x hx y hy => h4 x hx y (by simp [hy])⟩) (fun x => by
   have hx := h x
   constructor
   ·intro hr
    have := hx.1 (by simp [hr])
    rcases List.mem_append.1 this with h' | h'
    ·simp [h']
    ·rcases List.mem_cons.1 h' with h' | h'
     ·subst h'; exact absurd hr hl.1
     ·simp [h']
   ·intro hr
    have hne : x ≠ a := fun e => by
     subst e
     rcases List.mem_append.1 hr with h' | h'
     ·exact h4 x h' x (by simp) rfl
     ·exact h2 h'
    have := hx.2 (by rcases List.mem_append.1 hr with h' | h' <;> simp [h'])
    rcases List.mem_cons.1 this with h' | h'
    ·exact absurd h' hne
    ·exact h')
  simp only [List.map_cons, List.sum_cons, List.map_append, List.sum_append] at ih ⊢
  omega
theorem names_nodup {m : Mem} {syl : List Int} (hi : SymInv m syl) (hn : syl.Nodup) : (symNames m syl).Nodup := by
 have key : ∀ l : List Int, (∀ w ∈ l, w ∈ syl) → l.Nodup → (symNames m l).Nodup := by
  intro l
  induction l with
  | nil => intro _ _; simp [symNames]
  | cons a r ih =>
   intro hs hnd
   rw [List.nodup_cons] at hnd
   show (((nameR m a).1) :: symNames m r).Nodup
   rw [List.nodup_cons]
   refine ⟨fun hm => ?_, ih (fun w hw => hs w (by simp [hw])) hnd.2⟩
   obtain ⟨w, hw, e⟩ := List.mem_map.1 hm
   obtain ⟨t, ha, hta, hf⟩ := hi a (hs a (by simp))
   obtain ⟨u, hb, htb, hg⟩ := hi w (hs w (by simp [hw]))
   rw [nameR_sym ha hta, nameR_sym hb htb] at e
   have e : u = t := e
   subst e
   rw [hf] at hg
   have : a = w := Option.some.inj hg
   subst this
   exact hnd.1 hw
 exact key syl (fun w h => h) hn
theorem symCost_costS (m : Mem) (syl : List Int) : symCost m syl = costS (symNames m syl) := by unfold symCost costS symNames; rw [List.map_map]; rfl
set_option maxRecDepth 100000 in
theorem buildSize_c {H : Array Obj} {v : Dv} {d : Dt} (T : Tabs8 H) (D : DatAt (Old H) H v d) :
  morainelaw17_BuildSize.C v.kind v.c v.neg v.mB v.mN v.mC v.t v.lB v.lN v.lC H (fun r H' => r = .bool true ∧ Ext H H') := by
 refine HC.via fun R hR => morainelaw17_BuildSize.link ?_
 unfold morainelaw17_BuildSize.pt
 intro b H1 hb hH1
 have e1 := Ext.push' hH1
 have g1 := push_get hb hH1
 have hbH : b = H.size := hb
 have hb1 := lt_size g1
 have aw : ∀ A, Ext H A → morainelaw17_awake.C A (fun v' A' => ∃ q : Bool, v' = .bool q ∧ R (.bool q) A') := fun A eA => by
  refine HC.mono (awake17_c (T.ext eA)) ?_
  rintro _ A' ⟨rfl, eA'⟩
  exact ⟨true, rfl, hR _ _ ⟨rfl, eA.trans eA'⟩⟩
 refine ⟨_, _, _, _, _, _, _, _, _, _, box_row (vs := v.cells) g1, ?_⟩
 refine HC.mono (heavy_c (D.ext e1)) ?_
 rintro _ H2 ⟨⟨q, rfl, hq⟩, e2⟩
 have e12 := e1.trans e2
 refine ⟨_, rfl, ?_⟩
 cases q with
 | true => rw [if_pos rfl]; exact aw H2 e12
 | false =>
 rw [if_neg (by decide)]
 obtain ⟨hl, h3000⟩ := hq rfl
 have hcp := countD_pos d
 refine ⟨_, _, _, _, _, _, _, _, _, _, box_row (vs := v.cells) (e2.get g1), ?_⟩
 refine HC.mono (ref03_May_c (D.ext e12) hl (by omega)) ?_
 rintro _ H4 ⟨⟨q, rfl, hq⟩, e4⟩
 have e14 := e12.trans e4
 refine ⟨_, rfl, ?_⟩
 cases q with
 | false => rw [if_neg (by decide)]; exact aw H4 e14
 | true =>
 rw [if_pos rfl]
 obtain ⟨hp, h64⟩ := hq rfl
 clear hq
 refine HC.mono (new_heap (n := 600) (by decide)) ?_
 rintro _ H5 ⟨k, x, rfl, N5⟩
 have L5 := N5.live
 have e5 := L5.ext
 have e05 := e14.trans e5
 have hs14 := e14.size
 have hs5 := e5.size
 have S5 : SyAt H4 H5 k x [] := SyAt.nil N5.sy
 have g5 := ((e2.trans e4).trans e5).get g1
 have old5 : ∀ i, i < H4.size → Out H5 k x i := fun i hi => ⟨by omega, fun hk => by have := L5.young i hk; omega, by rw [N5.sy]; simp [syB]⟩
 have D5 : DatAt (Out H5 k x) H5 v d := dat_old D e05 (fun i hi => old5 i (by omega))
 have hbo : Out H5 k x b := old5 b (by have := (e2.trans e4).size; omega)
 refine ⟨_, _, rfl, ?_⟩
 rw [onPtr_some]
 refine ⟨_, _, _, _, _, _, _, _, _, _, box_row (vs := v.cells) g5, ?_⟩
 have hc0 := N5.count
 refine HC.mono (build_Heap_c hp hl h64 L5 (T.ext e14) N5.even S5 (fun w hw => by simp at hw) D5 (by simp; omega) (by omega)) ?_
 rintro _ H6 ⟨w1, er1, x6, rfl, L6, hor1⟩
 have eH6 : Ext H H6 := e14.trans L6.ext
 refine ⟨_, _, rfl, ?_⟩
 rcases hor1 with ⟨rfl, rfl, _⟩ | ⟨rfl, syl6, st, hB1⟩
 ·rw [if_pos (by decide), if_pos rfl, if_pos rfl, if_pos rfl]
  exact aw H6 eH6
 rw [if_neg (by decide)]
 have D6 := D5.step st
 have g6 := st.fr.get hbo.not g5
 refine ⟨_, _, _, _, _, _, _, _, _, _, box_row (vs := v.cells) g6, ?_⟩
 refine HC.mono (size_c d (lo := H6.size) (sy := []) D6 hp hl own_nil rfl (by simp) (fun i hi => hi.1) (Nat.le_refl _) (by simp; omega)) ?_
 rintro _ H8 ⟨B', n', c', sy', rfl, _, _, f8, hS, _, _⟩
 have e8 : Ext H6 H8 := (Ext.refl H6).fr_trans f8 (by simp)
 have L8 := L6.grow e8
 refine ⟨_, _, _, _, rfl, _, L8.at'.hPtr, _, rfl, _, L8.at'.cd.cPtr, fun b2 H9 hb2 hH9 => ?_⟩
 have e9 := Ext.push' hH9
 have L9 := L8.grow e9
 refine HC.mono (space_Words_c (gs := [0]) L9.at'.cd.sp L9.ok (rowAt_blk (push_get hb2 hH9) _ 0 0 (fun j hj => by simp [ivs])) rfl (by decide)) ?_
 rintro _ H10 ⟨rfl, e10⟩
 refine ⟨_, rfl, ?_⟩
 have hw := st.words
 rw [N5.words] at hw
 have h0 : symCost x.sp.mem [] = 0 := rfl
 have hcs : symCost x6.sp.mem syl6 = costS sy' := by
  rw [symCost_costS]
  unfold costS
  refine sum_same (names_nodup st.inv (st.len.2 (by simp))) (hS.nodup (by simp)) (fun t => ?_)
  rw [st.names, hS.mem]
  simp [symNames]
 have hce : costS [] = 0 := rfl
 rw [if_pos (by omega)]
 exact aw H10 (((eH6.trans e8).trans e9).trans e10)
end Go.Proofs.YtdgejifkcfgliaaGreatDoor
