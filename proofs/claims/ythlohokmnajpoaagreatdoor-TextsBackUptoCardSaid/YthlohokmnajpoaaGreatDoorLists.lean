/-
  Lists on a heap: pairs, List. Proves nothing of any one statement.
-/
import Derived.Test.YthlohokmnajpoaaGreatDoorCons
import Derived.Test.YthlohokmnajpoaaGreatDoorRow
import Derived.Test.YthlohokmnajpoaaGreatDoorLx
set_option linter.unusedVariables false
set_option linter.unusedSimpArgs false
namespace Go.Proofs.YthlohokmnajpoaaGreatDoor
open Go

def Chain (m : Mem) : Int → List (Int × Int) → Int → Prop
  | w, [], last => w = last ∧ IsWord last ∧ ¬ m.isPair last
  | w, pa :: l, last => w = pa.1 ∧ ∃ tag d, Pr m pa.1 tag pa.2 d ∧ Chain m d l last
theorem Chain.word {m : Mem} {w last : Int} : ∀ {l : List (Int × Int)}, Chain m w l last → IsWord w
  | [], h => by obtain ⟨rfl, h, _⟩ := h; exact h
  | _ :: _, h => by obtain ⟨rfl, _, _, h, _⟩ := h; exact h.word

theorem lists_pairs_c {H : Array Obj} {hv : Option Addr} {w : Int} :
    lists_pairs.C hv w H (fun v H' => ∃ p q : Nat, v = .func (.func 161) #[] #[.pointer (some ⟨p, 0, none⟩), .pointer (some ⟨q, 0, none⟩)] ∧ H'[p]? = some (.cells #[.pointer hv] 30 (0, 0)) ∧ H'[q]? = some (.cells #[.int .u64 w] 35 (0, 0)) ∧
      p ≠ q ∧ H.size ≤ p ∧ H.size ≤ q ∧ Ext H H') := by
  refine HC.via fun R hR => lists_pairs.link ?_
  unfold lists_pairs.pt
  intro b H1 hb hH1 b2 H2 hb2 hH2
  have e1 : Ext H H1 := Ext.push' hH1
  have e2 : Ext H1 H2 := Ext.push' hH2
  have hg := push_get hb hH1
  have h1 := lt_size hg
  exact hR _ _ ⟨b, b2, rfl, e2.get hg, push_get hb2 hH2, by omega, by omega, by have := e1.size; omega, e1.trans e2⟩
set_option maxRecDepth 100000 in
theorem pairs_loop {H : Array Obj} {yield : Value} {b b2 : Nat} {hv : Option Addr} {m : Mem} {w last : Int} {l : List (Int × Int)} {R0 : Array Obj → Prop} (Inv : Nat → Array Obj → Prop)
    (hch : Chain m w l last) (hl : l.length < 32768)
    (hb : H[b]? = some (.cells #[.pointer hv] 30 (0, 0))) (hb2 : H[b2]? = some (.cells #[.int .u64 w] 35 (0, 0))) (hne : b ≠ b2) (h0 : Inv 0 H)
    (hvw : ∀ k H', Inv k H' → ∃ o, View H' hv o ∧ mof o = m)
    (hfr : ∀ k H' H'', Inv k H' → Fr [b2] H' H'' → Inv k H'')
    (hstep : ∀ (k : Nat) (h : k < l.length) (H' : Array Obj), Inv k H' → FC Tryz.prog yield #[.int .u64 l[k].1, .bool false] H' (fun v H'' => ∃ x : Bool, v = .bool x ∧ (x = true → Inv (k + 1) H'' ∧ (H''[b]? = H'[b]? ∧ H''[b2]? = H'[b2]?)) ∧ (x = false → R0 H'')))
    (hlast : ∀ H' : Array Obj, Inv l.length H' → FC Tryz.prog yield #[.int .u64 last, .bool true] H' (fun v H'' => ∃ x : Bool, v = .bool x ∧ R0 H'')) :
    lists_pairs_1.C yield (some ⟨b, 0, none⟩) (some ⟨b2, 0, none⟩) H (fun v H' => v = .tuple #[] ∧ R0 H') := by
  refine HC.via fun R hR => lists_pairs_1.link ?_
  unfold lists_pairs_1.pt
  refine ⟨fun s H' => ∃ (k : Nat) (cw : Int), s = (k : Int) ∧ k ≤ l.length ∧ Chain m cw (l.drop k) last ∧ Inv k H' ∧ H'[b]? = some (.cells #[.pointer hv] 30 (0, 0)) ∧ H'[b2]? = some (.cells #[.int .u64 cw] 35 (0, 0)), fun s _ => (32768 - s).toNat, ⟨0, w, rfl, by omega, hch, h0, hb, hb2⟩, ?_⟩
  intro s H1 hinv
  obtain ⟨k, cw, hs, hk, hc, hI, g, g2⟩ := hinv
  subst hs
  rw [if_pos (show (k : Int) < 32768 by omega)]
  refine ⟨_, rfl, hv, by rw [hat_blk g]; rfl, _, rfl, cw, by rw [hat_blk g2]; rfl, ?_⟩
  obtain ⟨o, V, hm⟩ := hvw k H1 hI
  refine HC.mono (obj_Pair_c V hc.word) ?_
  rintro _ H2 ⟨rfl, e2⟩
  refine ⟨_, rfl, ?_⟩
  have hI2 := hfr k H1 H2 hI e2.fr
  rw [hm]
  rcases Nat.lt_or_ge k l.length with hkl | hkl
  · rw [List.drop_eq_getElem_cons hkl] at hc
    obtain ⟨rfl, tag, d, hp, hrest⟩ := hc
    rw [if_pos (decide_eq_true hp.isPair)]
    refine ⟨_, by rw [hat_blk (e2.get g2)]; rfl, ?_⟩
    refine (hstep k hkl H2 hI2).mono ?_
    rintro v H3 ⟨x, rfl, ht, hf⟩
    refine ⟨x, rfl, ?_⟩
    by_cases hx : x = true
    · rw [if_pos hx]
      obtain ⟨hI3, k1, k2⟩ := ht hx
      have g3 : H3[b]? = _ := k1.trans (e2.get g)
      have g23 : H3[b2]? = _ := k2.trans (e2.get g2)
      refine ⟨hv, by rw [hat_blk g3]; rfl, _, by rw [hat_blk g23]; rfl, ?_⟩
      obtain ⟨o3, V3, hm3⟩ := hvw _ H3 hI3
      refine HC.mono (obj_Cdr_c V3 hp.word) ?_
      rintro _ H4 ⟨rfl, e4⟩
      rw [hm3, hp.half.2, if_pos rfl, hp.cdr]
      refine ⟨_, _, rfl, ?_⟩
      obtain ⟨hcp, hpu⟩ := box_set (vs := [.int .u64 d]) (e4.get g23) rfl rfl
      refine ⟨hcp, fun H5 hH5 => ?_⟩
      obtain ⟨g5, f5⟩ := hpu H5 hH5
      refine ⟨⟨k + 1, d, by rw [w64 (by omega)]; omega, by omega, hrest, hfr _ _ _ hI3 (e4.fr.trans f5), f5.get (by simp; exact hne) (e4.get g3), g5⟩, ?_⟩
      show (32768 - IntKind.wrap .i64 ((k : Int) + 1)).toNat < (32768 - (k : Int)).toNat
      rw [w64 (by omega)]; omega
    · rw [if_neg hx]
      exact hR _ _ ⟨rfl, hf (by simpa using hx)⟩
  · have hkl' : k = l.length := by omega
    rw [List.drop_of_length_le hkl] at hc
    obtain ⟨rfl, hwd, hnp⟩ := hc
    rw [if_neg (by simpa using hnp)]
    refine ⟨_, by rw [hat_blk (e2.get g2)]; rfl, ?_⟩
    refine (hlast H2 (hkl' ▸ hI2)).mono ?_
    rintro v H6 ⟨x, rfl, hr⟩
    exact ⟨x, rfl, hR _ _ ⟨rfl, hr⟩⟩

structure ListInv (H0 : Array Obj) (hv : Option Addr) (m : Mem) (rc : LoopState → Option Code → Obj) (st : LoopState) (pe : Option Code) (lp D b b2 b3 b4 lo : Nat) (cars : List Int) (H : Array Obj) : Prop where
  view : ∃ o, View H hv o ∧ mof o = m
  loop : H[lp]? = some (rc st pe)
  dfr : H[D]? = some (.deferred (some []))
  gb : H[b]? = some (.cells #[.pointer hv] 30 (0, 0))
  gb2 : H[b2]? = some (.cells #[.slice none 0 0] 43 (0, 0))
  gb3 : H[b3]? = some (.cells #[.bool false] 4 (0, 0))
  row : ∃ (B : Option Addr) (c : Nat), H[b4]? = some (.cells #[.slice B cars.length c] 43 (0, 0)) ∧ Own H 35 1 B cars.length c (wvs cars) ∧ ∀ i ∈ blks B, lo ≤ i
  ext : Ext H0 H
theorem ListInv.keep {H0 : Array Obj} {hv : Option Addr} {m : Mem} {rc : LoopState → Option Code → Obj} {st : LoopState} {pe : Option Code} {lp D b b2 b3 b4 lo : Nat} {cars : List Int} {H H' : Array Obj} {S : List Nat}
    (h : ListInv H0 hv m rc st pe lp D b b2 b3 b4 lo cars H) (f : Fr S H H') (hS : ∀ i ∈ S, H0.size ≤ i ∧ i < lo ∧ i ≠ lp ∧ i ≠ D ∧ i ≠ b ∧ i ≠ b2 ∧ i ≠ b3 ∧ i ≠ b4) (hvw : ∃ o, View H' hv o ∧ mof o = m) : ListInv H0 hv m rc st pe lp D b b2 b3 b4 lo cars H' := by
  obtain ⟨B, c, g4, how, hy⟩ := h.row
  refine ⟨hvw, f.get (fun hi => (hS _ hi).2.2.1 rfl) h.loop, f.get (fun hi => (hS _ hi).2.2.2.1 rfl) h.dfr, f.get (fun hi => (hS _ hi).2.2.2.2.1 rfl) h.gb, f.get (fun hi => (hS _ hi).2.2.2.2.2.1 rfl) h.gb2, f.get (fun hi => (hS _ hi).2.2.2.2.2.2.1 rfl) h.gb3,
    ⟨B, c, f.get (fun hi => (hS _ hi).2.2.2.2.2.2.2 rfl) g4, how.keep f (fun i hi hs => by have := hy i hi; have := (hS _ hs).2.1; omega), hy⟩, h.ext.fr_trans f (fun i hi => (hS _ hi).1)⟩
end Go.Proofs.YthlohokmnajpoaaGreatDoor
