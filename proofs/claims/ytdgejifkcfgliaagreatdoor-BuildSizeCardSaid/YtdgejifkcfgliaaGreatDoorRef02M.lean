/-
 moraineref02.May: a number that may be is one that num.May lets be (by the lengths of its rows of bits alone). Proves nothing of any one program.
-/
import Derived.Test.YtdgejifkcfgliaaGreatDoorNumH
import Derived.Test.YtdgejifkcfgliaaGreatDoorRow
import Derived.Test.YtdgejifkcfgliaaGreatDoorFref02
set_option linter.unusedVariables false
set_option linter.unusedSimpArgs false
namespace Go.Proofs.YtdgejifkcfgliaaGreatDoor
open Go

def bitX (m k : Int) : Int := IntKind.wrap .u8 (iand .u32 (ishr .u32 m k) 1)
def limbBits (m : Int) : List Int := (List.range 32).map fun (k : Nat) => bitX m (k : Int)
def bitsOf (ls : List Int) : List Int := ls.flatMap limbBits
abbrev bvs (l : List Int) : List Value := l.map (Value.int .u8)
theorem allOne_bvs : ∀ l : List Int, allOne (bvs l) = true
 | [] => rfl
 | x :: l => by have := allOne_bvs l; simp only [bvs, List.map_cons]; exact this
theorem limbBits_len (m : Int) : (limbBits m).length = 32 := by simp [limbBits]
theorem bitsOf_len : ∀ ls : List Int, (bitsOf ls).length = 32 * ls.length
 | [] => rfl
 | m :: ls => by simp only [bitsOf, List.flatMap_cons, List.length_append, limbBits_len, List.length_cons]; have := bitsOf_len ls; unfold bitsOf at this; omega
theorem bitsOf_snoc (ls : List Int) (m : Int) : bitsOf (ls ++ [m]) = bitsOf ls ++ limbBits m := by simp [bitsOf]
theorem bit_zero : ((List.range 32).all fun (k : Nat) => bitX 0 (k : Int) == 0) = true := by kernel_rfl
theorem bitsOf_zero {ls : List Int} {n : Nat} {b : Int} (h : (bitsOf ls)[n]? = some b) (hb : b ≠ 0) : ls.getD (n / 32) 0 ≠ 0 := by
 induction ls generalizing n with
 | nil => simp [bitsOf] at h
 | cons m r ih =>
  simp only [bitsOf, List.flatMap_cons] at h
  by_cases hn : n < 32
  ·rw [List.getElem?_append_left (by rw [limbBits_len]; exact hn)] at h
   have : n / 32 = 0 := by omega
   rw [this]
   intro h0
   have h0 : m = 0 := h0
   subst h0
   have := List.all_eq_true.1 bit_zero n (by simpa using hn)
   simp [limbBits, hn] at h
   rw [← h] at hb
   exact hb (by simpa using this)
  ·rw [List.getElem?_append_right (by rw [limbBits_len]; omega), limbBits_len] at h
   have := ih h
   rw [show n / 32 = (n - 32) / 32 + 1 by omega]
   simpa using this
theorem src_bit {H : Array Obj} {B : Option Addr} {xs : List Int} (h : SrcAt H B (bvs xs)) {i : Nat} (hi : i < xs.length) : ∃ a, B = some a ∧ hat H (a.add (i * 1)) = some (.int .u8 xs[i]) := by
 cases B with
 | none => simp [bvs] at h; subst h; simp at hi
 | some a =>
  refine ⟨a, rfl, ?_⟩
  have := rowAt_hat h i (.int .u8 xs[i]) (by simp [bvs, hi])
  simpa using this
theorem bvs_take (l : List Int) (k : Nat) : bvs (l.take k) = (bvs l).take k := by simp [bvs, List.map_take]
theorem ref_cut_c {H : Array Obj} {B : Option Addr} {n c : Nat} {xs : List Int} (hs : SrcAt H B (bvs xs)) (hn : n = xs.length) (hc : n ≤ c) (hb : n ≤ 100000) :
  moraineref02_cut.C B n c H (fun v H' => ∃ (k c' : Nat), v = .slice B k c' ∧ k ≤ n ∧ k ≤ c' ∧ (∀ h : k ≠ 0, ∃ b, xs[k - 1]? = some b ∧ b ≠ 0) ∧ H = H') := by
 refine HC.via fun R hR => moraineref02_cut.link ?_
 unfold moraineref02_cut.pt
 refine ⟨fun nv A => H = A ∧ 0 ≤ nv ∧ nv ≤ n, fun nv _ => nv.toNat, ⟨rfl, by omega, Int.le_refl _⟩, ?_⟩
 rintro nv A ⟨rfl, h0, h1⟩
 have hout : ∀ sl : Option Addr, sl = (if c = 0 then B else Option.map (fun a : Addr => a.add (0 * 1)) B) → sl = B := by
  rintro sl rfl
  by_cases hz : c = 0
  ·rw [if_pos hz]
  ·rw [if_neg hz]; cases B with
   | none => rfl
   | some a => simp [addr_plus0]
 by_cases hp : nv > 0
 ·rw [if_pos hp]
  have hi : (nv - 1).toNat < xs.length := by omega
  obtain ⟨a, ha, hx⟩ := src_bit hs hi
  rw [w64 (by omega)]
  refine ⟨a, ha, ⟨by omega, by omega⟩, _, hx, ?_⟩
  by_cases hz : xs[(nv - 1).toNat] = 0
  ·rw [if_pos hz]
   exact ⟨⟨rfl, by omega, by omega⟩, by show (nv - 1).toNat < nv.toNat; omega⟩
  ·rw [if_neg hz]
   refine ⟨0, nv.toNat, rfl, by omega, by omega, by omega, fun sl hsl => ?_⟩
   have := hout sl (by rw [hsl, ha])
   subst this
   refine hR _ _ ⟨nv.toNat, _, rfl, by omega, by omega, fun hk => ⟨xs[(nv - 1).toNat], ?_, hz⟩, rfl⟩
   rw [show nv.toNat - 1 = (nv - 1).toNat by omega]; exact List.getElem?_eq_getElem hi
 ·rw [if_neg hp]
  refine ⟨0, 0, rfl, by omega, by omega, by omega, fun sl hsl => ?_⟩
  have := hout sl hsl
  subst this
  exact hR _ _ ⟨0, _, rfl, by omega, by omega, fun hk => absurd rfl hk, rfl⟩
theorem ref_Value_c {H : Array Obj} {neg : Bool} {mB : Option Addr} {mN mC : Nat} {ls : List Int} (hs : SrcAt H mB (lvs ls)) (hn : mN = ls.length) (hb : mN ≤ 1000) :
  moraineref02_Value.C neg mB mN mC H (fun v H' => ∃ (B : Option Addr) (k c : Nat), v = .agg #[.bool (neg && decide ((k : Int) > 0)), .slice B k c] ∧ k ≤ 32 * ls.length ∧ k ≤ c ∧ (∀ h : k ≠ 0, ∃ b, (bitsOf ls)[k - 1]? = some b ∧ b ≠ 0) ∧ SrcAt H' B (bvs ((bitsOf ls).take k)) ∧ Ext H H') := by
 refine HC.via fun R hR => moraineref02_Value.link ?_
 unfold moraineref02_Value.pt
 intro b H1 hb1 hH1 b2 H2 hb2 hH2
 have e1 := Ext.push' hH1
 have e2 := Ext.push' hH2
 have g1 := e2.get (push_get hb1 hH1)
 have g2 := push_get hb2 hH2
 have e12 := e1.trans e2
 have hsz : H.size < H2.size := by rw [hH2, hH1]; simp; omega
 have hlt := lt_size g2
 refine ⟨fun B n c i A => (0 ≤ i ∧ i ≤ mN) ∧ Ext H2 A ∧ n = 32 * i.toNat ∧ Own A 5 1 B n c (bvs (bitsOf (ls.take i.toNat))) ∧ (∀ j ∈ blks B, H2.size ≤ j), fun _ _ _ i _ => (mN - i).toNat, ⟨by omega, Ext.refl _, rfl, own_nil, by simp⟩, ?_⟩
 rintro B n c i A ⟨hi, eA, hnn, ho, hB⟩
 refine ⟨_, _, _, by rw [box_get (eA.get g1)]; rfl, ?_⟩
 by_cases hlt' : i < (mN : Int)
 ·rw [if_pos hlt']
  have hin : i.toNat < ls.length := by omega
  refine ⟨fun B n c k A' => (0 ≤ k ∧ k ≤ 32) ∧ Ext H2 A' ∧ n = 32 * i.toNat + k.toNat ∧ Own A' 5 1 B n c (bvs (bitsOf (ls.take i.toNat) ++ (limbBits ls[i.toNat]).take k.toNat)) ∧ (∀ j ∈ blks B, H2.size ≤ j), fun _ _ _ k _ => (32 - k).toNat, ⟨by omega, eA, by simpa using hnn, by simpa using ho, hB⟩, ?_⟩
  clear ho hB hnn
  rintro B n c k A' ⟨hk, eA', hnn, ho, hB⟩
  by_cases hk32 : k < 32
  ·rw [if_pos hk32]
   obtain ⟨a, ha, hx⟩ := src_some (hs.ext (e12.trans eA')) (by omega)
   have hlx := rowD hx hin
   rw [getD_at hin] at hlx
   refine ⟨_, _, _, by rw [box_get (eA'.get g1)]; rfl, a, ha, ⟨hi.1, hlt'⟩, _, by rw [Nat.mul_one]; exact hlx, hk.1, fun b3 H5 hb3 hH5 => ?_⟩
   have e5 := Ext.push' hH5
   refine own_append (ys := bvs [bitX ls[i.toNat] k]) (ho.ext e5) (rowAt_blk (push_get hb3 hH5) _ 0 0 (fun j hj => by simp at hj; subst hj; rfl)) rfl (allOne_bvs _) rfl (by omega) ?_
   intro p' c' H6 ho6 f6 hnew
   have e6 : Ext H2 H6 := (eA'.trans e5).fr_trans f6 (fun j hj => hB j hj)
   rw [w64 (by omega)]
   refine ⟨⟨by omega, e6, by omega, ?_, fun j hj => ?_⟩, by show (32 - (k + 1)).toNat < (32 - k).toNat; omega⟩
   ·have ht : (limbBits ls[i.toNat]).take (k + 1).toNat = (limbBits ls[i.toNat]).take k.toNat ++ [bitX ls[i.toNat] k] := by
     rw [show (k + 1).toNat = k.toNat + 1 by omega, List.take_add_one]
     congr 1
     have : k.toNat < 32 := by omega
     simp [limbBits, this]
     rw [show max k 0 = k by omega]
    rw [ht, ← List.append_assoc]
    simpa [bvs] using ho6
   ·rcases hnew j hj with h | h
    ·exact hB j h
    ·have := eA'.size; have := e5.size; omega
  ·rw [if_neg hk32, w64 (by omega)]
   refine ⟨⟨by omega, eA', by omega, ?_, hB⟩, by show ((mN : Int) - (i + 1)).toNat < ((mN : Int) - i).toNat; omega⟩
   rw [show (i + 1).toNat = i.toNat + 1 by omega, List.take_add_one, List.getElem?_eq_getElem hin]
   have : (limbBits ls[i.toNat]).take k.toNat = limbBits ls[i.toNat] := List.take_of_length_le (by rw [limbBits_len]; omega)
   rw [this] at ho
   show Own A' _ 1 B n c (bvs (bitsOf (ls.take i.toNat ++ [ls[i.toNat]])))
   rw [bitsOf_snoc]; exact ho
 ·rw [if_neg hlt']
  have hall : ls.take i.toNat = ls := List.take_of_length_le (by omega)
  rw [hall] at ho
  refine ⟨_, by rw [hat_blk (eA.get g1)]; rfl, ?_⟩
  have hbl := bitsOf_len ls
  refine HC.mono (R := fun v H' => ∃ (k c : Nat), v = .agg #[.bool (neg && decide ((k : Int) > 0)), .slice B k c] ∧ k ≤ 32 * ls.length ∧ k ≤ c ∧ (∀ h : k ≠ 0, ∃ b, (bitsOf ls)[k - 1]? = some b ∧ b ≠ 0) ∧ Ext A H') ?_ ?_
  ·refine HC.via fun R2 hR2 => moraineref02_value.link ?_
   unfold moraineref02_value.pt
   intro b3 H3 hb3 hH3
   have e3 := Ext.push' hH3
   refine HC.mono (ref_cut_c ((ho.ext e3).src) (by omega) ho.le (by omega)) ?_
   rintro _ H4 ⟨k, c', rfl, q1, q2, q3, rfl⟩
   refine ⟨_, _, _, rfl, ?_⟩
   by_cases hneg : neg = true
   ·rw [if_pos hneg]
    obtain ⟨r1, r2⟩ := box_new (vs := [.bool (decide ((k : Int) > 0)), .slice B k c']) (n := 2) hb3 hH3 rfl rfl
    refine ⟨r1, fun H5 hH5 => ?_⟩
    obtain ⟨r3, r4⟩ := r2 H5 hH5
    exact ⟨_, _, _, _, box_row r3, hR2 _ _ ⟨k, c', by rw [hneg]; rfl, by omega, q2, q3, r4⟩⟩
   ·rw [if_neg hneg]
    obtain ⟨r1, r2⟩ := box_new (vs := [.bool false, .slice B k c']) (n := 2) hb3 hH3 rfl rfl
    refine ⟨r1, fun H5 hH5 => ?_⟩
    obtain ⟨r3, r4⟩ := r2 H5 hH5
    exact ⟨_, _, _, _, box_row r3, hR2 _ _ ⟨k, c', by rw [show neg = false by simpa using hneg]; rfl, by omega, q2, q3, r4⟩⟩
  ·rintro _ H7 ⟨k, c', rfl, q1, q2, q3, e7⟩
   refine ⟨_, _, _, _, rfl, ?_⟩
   obtain ⟨r1, r2⟩ := box_set (vs := [.bool (neg && decide ((k : Int) > 0)), .slice B k c']) (n := 2) ((eA.trans e7).get g2) rfl rfl
   refine ⟨r1, fun H8 hH8 => ?_⟩
   obtain ⟨r3, r4⟩ := r2 H8 hH8
   have hb2' : b2 < H2.size := lt_size g2
   refine ⟨_, _, _, _, box_row r3, hR _ _ ⟨B, k, c', rfl, q1, q2, q3, ?_, (e12.trans (eA.trans e7)).fr_trans r4 (fun j hj => ?_)⟩⟩
   ·rw [bvs_take]
    refine src_take ?_ _
    have h7 := (ho.ext e7).src
    cases B with
    | none => exact h7
    | some a => exact r4.rowAt (by have := hB a.block (by simp); simp; omega) h7
   ·simp at hj; subst hj; have := e1.size; omega
theorem ref_Num_c {H : Array Obj} {neg : Bool} {B : Option Addr} {n c : Nat} {xs : List Int} (hs : SrcAt H B (bvs xs)) (hn : n = xs.length) (hb : n ≤ 100000) :
  moraineref02_Num.C neg B n c H (fun v H' => ∃ (neg' : Bool) (mB : Option Addr) (mN mC : Nat) (ls : List Int) (e : Int), v = .tuple #[.agg #[.bool neg', .slice mB mN mC], .int .i64 e] ∧ (e = 0 → n ≤ 1536 ∧ neg' = neg ∧ mN = ls.length ∧ SrcAt H' mB (lvs ls) ∧ ls.length = (n + 31) / 32) ∧ Ext H H') := by
 refine HC.via fun R hR => moraineref02_Num.link ?_
 unfold moraineref02_Num.pt
 intro b H1 hb1 hH1 b2 H2 hb2 hH2
 have e1 := Ext.push' hH1
 have e2 := Ext.push' hH2
 have e12 := e1.trans e2
 have g1 := e2.get (push_get hb1 hH1)
 have g2 := push_get hb2 hH2
 have hb2' : b2 < H2.size := lt_size g2
 have hb1' : b < H1.size := lt_size (push_get hb1 hH1)
 have hHb : H.size ≤ b := by omega
 have hne : b ≠ b2 := by omega
 refine ⟨_, _, _, by rw [box_get g1]; rfl, ?_⟩
 by_cases hbig : (n : Int) > 1536
 ·rw [if_pos hbig]
  obtain ⟨r1, r2⟩ := box_new (vs := [.bool false, .slice none 0 0]) (n := 2) hb2 hH2 rfl rfl
  refine ⟨r1, fun H3 hH3 => ?_⟩
  obtain ⟨r3, r4⟩ := r2 H3 hH3
  exact ⟨_, _, _, _, box_row r3, hR _ _ ⟨_, _, _, _, [], 6, rfl, fun h => by omega, e1.trans r4⟩⟩
 rw [if_neg hbig]
 refine ⟨_, by rw [hat_blk g1]; rfl, fun b3 H4 hb3 hH4 => ?_⟩
 have e4 := Ext.push' hH4
 obtain ⟨r1, r2⟩ := box_new (vs := [.bool neg, .slice none 0 0]) (n := 2) hb3 hH4 rfl rfl
 refine ⟨r1, fun H5 hH5 => ?_⟩
 obtain ⟨g5, e5⟩ := r2 H5 hH5
 have hb3' : b3 = H2.size := hb3
 refine ⟨fun i A => (0 ≤ i ∧ i ≤ n) ∧ Ext H2 A ∧ ∃ (mB : Option Addr) (mN mC : Nat) (ls : List Int), A[b3]? = some (.cells #[.bool neg, .slice mB mN mC] 24 (0, 0)) ∧ Own A 94 1 mB mN mC (lvs ls) ∧ mN = (i.toNat + 31) / 32 ∧ ls.length = mN ∧ (∀ j ∈ blks mB, H2.size ≤ j ∧ j ≠ b3), fun i _ => (n - i).toNat,
  ⟨by omega, e5, none, 0, 0, [], g5, own_nil, rfl, rfl, by simp⟩, ?_⟩
 rintro i A ⟨hi, eA, mB, mN, mC, ls, gA, ho, hmN, hlen, hmB⟩
 have g1A := eA.get g1
 refine ⟨_, _, _, by rw [box_get g1A]; rfl, ?_⟩
 by_cases hlt : i < (n : Int)
 ·rw [if_pos hlt]
  have hin : i.toNat < xs.length := by omega
  refine ⟨fun A' => Ext H2 A' ∧ ∃ (mB : Option Addr) (mN mC : Nat) (ls : List Int), A'[b3]? = some (.cells #[.bool neg, .slice mB mN mC] 24 (0, 0)) ∧ Own A' 94 1 mB mN mC (lvs ls) ∧ mN = ((i + 1).toNat + 31) / 32 ∧ ls.length = mN ∧ (∀ j ∈ blks mB, H2.size ≤ j ∧ j ≠ b3), ?_, ?_⟩
  ·by_cases hm : Int.tmod i 32 = 0
   ·rw [if_pos hm]
    have hm' : i % 32 = 0 := by rw [Int.tmod_eq_emod_of_nonneg hi.1] at hm; exact hm
    refine ⟨_, _, _, by rw [box_get gA]; rfl, fun b4 H9 hb4 hH9 => ?_⟩
    have e9 := Ext.push' hH9
    refine own_append (ys := lvs [0]) (ho.ext e9) (rowAt_blk (push_get hb4 hH9) _ 0 0 (fun j hj => by simp at hj; subst hj; rfl)) rfl (allOne_lvs _) rfl (by omega) ?_
    intro p' c' H10 ho10 f10 hnew
    have g10 : H10[b3]? = _ := f10.get (fun hh => (hmB _ hh).2 rfl) (e9.get gA)
    obtain ⟨s1, s2⟩ := box_put g10 1 (.slice p' (mN + 1) c') (by simp)
    refine ⟨s1, fun H11 hH11 => ?_⟩
    obtain ⟨g11, f11⟩ := s2 H11 hH11
    have e10 : Ext H2 H10 := (eA.trans e9).fr_trans f10 (fun j hj => (hmB j hj).1)
    have hp' : ∀ j ∈ blks p', H2.size ≤ j ∧ j ≠ b3 := fun j hj => by
     rcases hnew j hj with h | h
     ·exact hmB j h
     ·have := eA.size; have := e9.size; have := lt_size gA
      exact ⟨by omega, by omega⟩
    refine ⟨e10.fr_trans f11 (fun j hj => by simp at hj; omega), p', mN + 1, c', ls ++ [0], g11, ?_, by omega, by simp; omega, hp'⟩
    have := ho10.keep f11 (fun j hj hh => by simp at hh; exact (hp' j hj).2 hh)
    simpa [lvs] using this
   ·rw [if_neg hm]
    have hm' : i % 32 ≠ 0 := by rw [Int.tmod_eq_emod_of_nonneg hi.1] at hm; exact hm
    exact ⟨eA, mB, mN, mC, ls, gA, ho, by omega, hlen, hmB⟩
  clear ho hmN hlen hmB gA eA g1A
  rintro H7 ⟨eA, mB, mN, mC, ls, gA, ho, hmN, hlen, hmB⟩
  have g1A := eA.get g1
  obtain ⟨a, ha, hx⟩ := src_bit (hs.ext (e12.trans eA)) hin
  have hdiv : IntKind.wrap .i64 (Int.tdiv i 32) = i / 32 := by rw [Int.tdiv_eq_ediv_of_nonneg hi.1, w64 (by omega)]
  rw [hdiv]
  refine ⟨_, _, _, by rw [box_get g1A]; rfl, a, ha, ⟨hi.1, hlt⟩, _, hx, ?_⟩
  rw [w64 (n := i + 1) (by omega)]
  by_cases h1 : xs[i.toNat] = 1
  ·rw [if_pos h1]
   have hq : (i / 32).toNat < ls.length := by omega
   obtain ⟨a5, ha5, hx5⟩ := src_some ho.src (by omega)
   have hl5 := rowD hx5 hq
   subst ha5
   refine ⟨_, _, _, by rw [box_get gA]; rfl, _, _, _, by rw [box_get gA]; rfl, a5, rfl, ⟨by omega, by omega⟩, _, by rw [Nat.mul_one]; exact hl5, Int.tmod_nonneg _ hi.1, a5, rfl, ⟨by omega, by omega⟩, ?_⟩
   rw [Nat.mul_one]
   obtain ⟨s1, s2⟩ := ho.put (i := (i / 32).toNat) (by omega) (.int .u32 (ior .u32 (ls.getD (i / 32).toNat 0) (ishl .u32 1 (Int.tmod i 32))))
   refine ⟨s1, fun H8 hH8 => ?_⟩
   obtain ⟨ho8, f8⟩ := s2 H8 hH8
   have hab := hmB a5.block (by simp)
   refine ⟨⟨by omega, eA.fr_trans f8 (fun j hj => by simp at hj; omega), some a5, mN, mC, ls.set (i / 32).toNat (ior .u32 (ls.getD (i / 32).toNat 0) (ishl .u32 1 (Int.tmod i 32))), f8.get (by simp; exact fun hh => hab.2 hh.symm) gA, ?_, hmN, by simp; exact hlen, hmB⟩, by show ((n : Int) - (i + 1)).toNat < ((n : Int) - i).toNat; omega⟩
   simpa [lvs, List.map_set] using ho8
  ·rw [if_neg h1]
   exact ⟨⟨by omega, eA, mB, mN, mC, ls, gA, ho, hmN, hlen, hmB⟩, by show ((n : Int) - (i + 1)).toNat < ((n : Int) - i).toNat; omega⟩
 ·rw [if_neg hlt]
  refine ⟨_, _, _, _, box_row gA, ?_⟩
  obtain ⟨s1, s2⟩ := box_set (vs := [.bool neg, .slice mB mN mC]) (n := 2) (eA.get g2) rfl rfl
  refine ⟨s1, fun H12 hH12 => ?_⟩
  obtain ⟨g12, f12⟩ := s2 H12 hH12
  refine ⟨_, _, _, _, box_row g12, hR _ _ ⟨neg, mB, mN, mC, ls, 0, rfl, fun _ => ⟨by omega, rfl, hlen.symm, ?_, by rw [hlen, hmN]; omega⟩, (e12.trans eA).fr_trans f12 (fun j hj => by simp at hj; have := e1.size; omega)⟩⟩
  exact (ho.keep f12 (fun j hj hh => by simp at hh; have := (hmB j hj).1; omega)).src
theorem ref_May_c {H : Array Obj} {neg : Bool} {mB : Option Addr} {mN mC : Nat} {ls : List Int} (hs : SrcAt H mB (lvs ls)) (hn : mN = ls.length) (hb : mN ≤ 1000) :
  moraineref02_May.C neg mB mN mC H (fun v H' => (∃ q : Bool, v = .bool q ∧ (q = true → mayR neg ls = true)) ∧ Ext H H') := by
 refine HC.via fun R hR => moraineref02_May.link ?_
 unfold moraineref02_May.pt
 intro b H1 hb1 hH1
 have e1 := Ext.push' hH1
 have g1 := push_get hb1 hH1
 refine ⟨_, _, _, _, box_row g1, ?_⟩
 refine HC.mono (ref_Value_c (hs.ext e1) hn hb) ?_
 rintro _ H2 ⟨B, k, c, rfl, q1, q2, q3, q4, e2⟩
 refine ⟨_, _, _, _, rfl, ?_⟩
 refine HC.mono (ref_Num_c q4 (by rw [List.length_take, bitsOf_len]; omega) (by omega)) ?_
 rintro _ H3 ⟨neg', mB', mN', mC', ls', e, rfl, hok, e3⟩
 refine ⟨_, _, _, _, _, rfl, fun b2 H4 hb2 hH4 => ?_⟩
 have e123 := (e1.trans e2).trans e3
 obtain ⟨r1, r2⟩ := box_new (vs := [.bool neg', .slice mB' mN' mC']) (n := 2) hb2 hH4 rfl rfl
 refine ⟨r1, fun H5 hH5 => ?_⟩
 obtain ⟨g5, e5⟩ := r2 H5 hH5
 by_cases he : e = 0
 ·rw [if_pos he]
  obtain ⟨h1, h2, h3, h4, h5⟩ := hok he
  refine ⟨_, _, _, _, box_row g5, _, _, _, _, box_row ((e2.trans (e3.trans e5)).get g1), ?_⟩
  refine HC.mono (ref_Same_c (h4.ext e5) h3 (hs.ext (e123.trans e5)) hn (by omega)) ?_
  rintro _ H6 ⟨rfl, e6⟩
  refine ⟨_, rfl, hR _ _ ⟨⟨_, rfl, fun hq => ?_⟩, (e123.trans e5).trans e6⟩⟩
  have hq := of_decide_eq_true hq
  have hls : ls.length = (k + 31) / 32 := by rw [← hq.2]; exact h5
  unfold mayR
  have hneg : (neg && decide ((k : Int) > 0)) = neg := by rw [← h2]; exact hq.1
  have h48 : decide (ls.length ≤ 48) = true := decide_eq_true (by omega)
  rw [h48]
  by_cases hk : k = 0
  ·have h0 : ls = [] := List.eq_nil_of_length_eq_zero (by omega)
   subst hk
   subst h0
   have : neg = false := by simpa using hneg.symm
   subst this
   decide
  ·obtain ⟨bit, hbit, hb0⟩ := q3 hk
   have hz := bitsOf_zero hbit hb0
   have hidx : (k - 1) / 32 = ls.length - 1 := by omega
   rw [hidx] at hz
   have htop : top ls = ls.length := by
    have hle := top_le ls
    rcases Nat.lt_or_ge (top ls) ls.length with hh | hh
    ·exact absurd (top_zero ls (ls.length - 1) (by omega)) hz
    ·omega
   rw [decide_eq_true htop, decide_eq_true (show 0 < ls.length by omega)]
   simp
 ·rw [if_neg he]
  exact hR _ _ ⟨⟨_, rfl, by simp⟩, e123.trans e5⟩
end Go.Proofs.YtdgejifkcfgliaaGreatDoor
