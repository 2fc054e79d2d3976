/-
  SymsNone: words that are no symbols, and no heap: there is no name, nothing is found, nothing is interned. No condition.
-/
import Derived.Lib.LaidU8T
import Derived.Lib.LaidIn
import Derived.Test.YtillpfaabdlaiaaDoorRunesR
import Derived.Test.YtillpfaabdlaiaaDoorSyms
import Derived.Test.YtillpfaabdlaiaaDoorLaw
import Derived.Test.YtillpfaabdlaiaaDoorRead
import Derived.Test.YtillpfaabdlaiaaDoorL16good
import Derived.Test.YtillpfaabdlaiaaDoorL16begun
import Derived.Test.YtillpfaabdlaiaaDoorL16awake
import Derived.Test.YtillpfaabdlaiaaDoorL16SymsNone
import Derived.Test.YtillpfaabdlaiaaDoorLawL
import Derived.Test.YtillpfaabdlaiaaDoorTie
import Derived.Test.YtillpfaabdlaiaaDoorCards
set_option linter.unusedVariables false
set_option linter.unusedSimpArgs false
namespace Go.Proofs.YtillpfaabdlaiaaDoor.symsNone
open Go Go.Proofs.YtillpfaabdlaiaaDoor
open Go.ChangeShapes Go.WideShapes Go.ChangeAt Go.RowKit

def ren : Go.Shelf.Ren := ⟨id, fun | 5 => 5 | 119 => 78 | 138 => 80 | 139 => 81 | n => n, fun | 3 => 0 | 4 => 1 | n => n⟩
theorem tabs8 {W : World} (h : laidMetH Tryd.prog Rows.symsNoneRow.laid W) : Tabs8 W.heap := by
  rw [MakeChecks.laidMetH_plain _ _ _ (by kernel_rfl)] at h
  have ef : Pinned.utf8First = Lib.firstData := by kernel_rfl
  have ea : Rows.laid_unicode_utf8_acceptRanges (H := Unit) = Lib.acceptData := by kernel_rfl
  have r2 := Lib.laidMet.reads h (.head _)
  have r1 := Lib.laidMet.reads h (.tail _ (.head _))
  rw [show Rows.laid_unicode_utf8_first = Lib.firstData from ef] at r1
  rw [ea] at r2
  have t := utf8Tabs_of_readsT (P := Tryd.prog) (ρ := ren) ⟨Tryd.underlying5, Tryd.underlying78, Tryd.underlying80, Tryd.underlying81⟩
    ⟨by kernel_rfl, by kernel_rfl, by kernel_rfl, by kernel_rfl, by kernel_rfl, by kernel_rfl, by kernel_rfl⟩ r1 r2
  refine ⟨fun c hc => ?_, fun i hi => ⟨?_, ?_, trivial⟩⟩
  · have := t.1 c hc
    rw [cell_hat] at this
    rw [addr_add_mk, Nat.zero_add]; exact this
  · have := (t.2 i hi).1
    rw [cell_hat] at this
    rw [addr_add_mk, addr_add_mk, Nat.zero_add, Nat.add_zero, Nat.mul_comm]; exact this
  · have := (t.2 i hi).2
    rw [cell_hat] at this
    rw [addr_add_mk, addr_add_mk, Nat.zero_add, Nat.mul_comm]; exact this
theorem no_text (s : ByteArray) : s.toList = (ByteArray.mk #[]).toList ↔ s.size = 0 := by
  rw [Lib.toList_data, Lib.toList_data]
  show s.data.toList = [] ↔ s.data.size = 0
  rw [← Array.length_toList, List.length_eq_zero_iff]
theorem runes_zero (s : ByteArray) : (runesOf s).length = 0 ↔ s.size = 0 := by
  constructor
  · intro h
    rcases Nat.eq_zero_or_pos s.size with h0 | h0
    · exact h0
    · have : runesOf s = _ := runesAt_step (s := s) (pos := 0) h0
      rw [this] at h; simp at h
  · intro h
    have : runesOf s = [] := runesAt_end (s := s) (pos := 0) (by omega)
    rw [this]; rfl
theorem runesOf_len (s : ByteArray) : (runesOf s).length ≤ s.size := by have := runesFrom_len s (s.size - 0) 0; show (runesFrom s (s.size - 0) 0).length ≤ s.size; omega
theorem Name_none {H : Array Obj} {w : Int} : syms_Name.C none w H (fun v H' => v = .tuple #[.string (ByteArray.mk #[]), .int .i64 3] ∧ H = H') := by
  refine HC.via fun R hR => syms_Name.link ?_
  unfold syms_Name.pt
  rw [onPtr_none]; exact hR _ _ ⟨rfl, rfl⟩
theorem Find_none {H : Array Obj} {name : ByteArray} : syms_Find.C none name H (fun v H' => v = .tuple #[.int .u64 0, .bool false] ∧ Ext H H') := by
  refine HC.via fun R hR => syms_Find.link ?_
  unfold syms_Find.pt
  intro b H1 hb hH1 b2 H2 hb2 hH2 b3 H3 hb3 hH3
  have e1 : Ext H H1 := Ext.push' hH1
  have e2 : Ext H1 H2 := Ext.push' hH2
  have e3 : Ext H2 H3 := Ext.push' hH3
  have g2 := e3.get (push_get hb2 hH2)
  have g3 := push_get hb3 hH3
  have l2 := lt_size (push_get hb2 hH2)
  have s1 := e1.size
  have s2 := e2.size
  rw [onPtr_none]
  have q2 := box_put g2 0 (.int .u64 0) (by simp)
  rw [addr_plus0] at q2
  refine ⟨q2.1, fun H4 hH4 => ?_⟩
  obtain ⟨g4, f4⟩ := q2.2 H4 hH4
  have q3 := box_put (f4.get (by simp; omega) g3) 0 (.bool false) (by simp)
  rw [addr_plus0] at q3
  refine ⟨q3.1, fun H5 hH5 => ?_⟩
  obtain ⟨g5, f5⟩ := q3.2 H5 hH5
  have g45 := f5.get (by simp; omega) g4
  have e : Ext H H5 := (((e1.trans e2).trans e3).fr_trans f4 (fun i hi => by simp at hi; omega)).fr_trans f5 (fun i hi => by simp at hi; omega)
  have r4 := box_get g45 0
  have r5 := box_get g5 0
  rw [addr_plus0] at r4 r5
  exact ⟨0, r4, false, r5, hR _ _ ⟨rfl, e⟩⟩
def wantE (s : ByteArray) : Int := if s.size = 0 ∨ Lib.validD s.data.toList = false then 1 else if 62 < (runesOf s).length then 6 else 2
theorem Intern_none {H : Array Obj} {name : ByteArray} (T : Tabs8 H) (hs : name.size ≤ 1000000) : syms_Intern.C none name H (fun v H' => v = .tuple #[.int .u64 0, .int .i64 (wantE name)] ∧ Ext H H') := by
  refine HC.via fun R hR => syms_Intern.link ?_
  unfold syms_Intern.pt
  by_cases h0 : name.size = 0
  · rw [if_pos ((no_text name).2 h0)]
    exact hR _ _ ⟨by unfold wantE; rw [if_pos (.inl h0)], Ext.refl _⟩
  rw [if_neg (fun h => h0 ((no_text name).1 h))]
  refine HC.mono (ValidString_c T hs) ?_
  rintro _ H1 ⟨rfl, e1⟩
  refine ⟨_, rfl, ?_⟩
  cases hv : Lib.validD name.data.toList with
  | false =>
    rw [if_neg (by decide)]
    exact hR _ _ ⟨by unfold wantE; rw [if_pos (.inr hv)], e1⟩
  | true =>
    rw [if_pos rfl]
    have hrl := runesOf_len name
    refine HC.mono (RuneCount_c (by omega)) ?_
    rintro _ H2 ⟨rfl, e2⟩
    refine ⟨_, rfl, ?_⟩
    have hn : ¬ (name.size = 0 ∨ Lib.validD name.data.toList = false) := by rw [hv]; simp [h0]
    by_cases h62 : ((runesOf name).length : Int) > 62
    · rw [if_pos h62]
      exact hR _ _ ⟨by unfold wantE; rw [if_neg hn, if_pos (by omega)], e1.trans e2⟩
    rw [if_neg h62]
    refine HC.mono Find_none ?_
    rintro _ H3 ⟨rfl, e3⟩
    refine ⟨_, _, rfl, ?_⟩
    rw [if_neg (by decide), onPtr_none]
    exact hR _ _ ⟨by unfold wantE; rw [if_neg hn, if_neg (by omega)], (e1.trans e2).trans e3⟩
def goodN (s : ByteArray) : Int := if Lib.validD s.data.toList = false ∨ s.size = 0 then 2 else if 62 < (runesOf s).length then 1 else 0
theorem good_c {H : Array Obj} {s : ByteArray} (hs : s.size ≤ 1000000) : morainelaw16_good.C s H (fun v H' => v = .int .i64 (goodN s) ∧ Ext H H') := by
  refine HC.via fun R hR => morainelaw16_good.link ?_
  unfold morainelaw16_good.pt
  refine HC.mono (ref_Runes_c hs) ?_
  rintro _ H1 ⟨B, n, c, rfl, hn, e1⟩
  refine ⟨_, _, _, _, rfl, ?_⟩
  unfold goodN at hR
  cases hv : Lib.validD s.data.toList with
  | false =>
    rw [if_pos (by simp)]
    rw [if_pos (.inl hv)] at hR
    exact hR _ _ ⟨rfl, e1⟩
  | true =>
    obtain ⟨rfl, _, _⟩ := hn hv
    have hz := runes_zero s
    by_cases h0 : s.size = 0
    · rw [if_pos (by simp; exact List.length_eq_zero_iff.1 (hz.2 h0))]
      rw [if_pos (.inr h0)] at hR
      exact hR _ _ ⟨rfl, e1⟩
    rw [if_neg (by simp; intro h; exact h0 (hz.1 (by rw [h]; rfl)))]
    rw [if_neg (by rw [hv]; simp [h0])] at hR
    by_cases h62 : ((runesOf s).length : Int) > 62
    · rw [if_pos h62]
      rw [if_pos (by omega)] at hR
      exact hR _ _ ⟨rfl, e1⟩
    · rw [if_neg h62]
      rw [if_neg (by omega)] at hR
      exact hR _ _ ⟨rfl, e1⟩
theorem fresh_none (n : Nat) {w : Int} (hw : IsWord w) : nameR (Mem.fresh n) w = (ByteArray.mk #[], 3) := by
  have h : (Mem.fresh n).fieldE w 4 0 = 3 := nothing (fun h => by
    have hu := h.1.used hw
    exact hu.2.1.2.2 rfl) 0
  unfold nameR
  rw [h, if_neg (by decide)]
theorem begun_c {H : Array Obj} : morainelaw16_begun.C H (fun v H' => ∃ (k : Blk) (x : Hp) (b : Nat) (cs : Array Value), v = .pointer (some ⟨b, 0, none⟩) ∧ H'[b]? = some (.cells cs 50 (0, 0)) ∧ cs[0]? = some (.pointer (some ⟨k.h, 0, none⟩)) ∧ b ∉ k.all ∧ H.size ≤ b ∧ Live H H' k x ∧ x.sp.mem.count = 0 ∧ x.sp.mem.Even ∧ x.sp.mem.free = 100 ∧ x.sy = .slice none 0 0) := by
  refine HC.via fun R hR => morainelaw16_begun.link ?_
  unfold morainelaw16_begun.pt
  refine HC.mono (obj_New_c ⟨by decide, by decide⟩) ?_
  rintro _ H1 (⟨hno, _⟩ | ⟨_, k, x, rfl, V1, hx, e1, hy⟩)
  · exact absurd ⟨by decide, by decide⟩ hno
  have L1 : Live H H1 k x := ⟨V1.inv.2.1, V1.inv.2.2, e1, hy⟩
  have hc : x.sp.mem.count = 0 := by subst hx; rfl
  have hv : x.sp.mem.Even := by subst hx; exact even_fresh _
  have hf : x.sp.mem.free = 100 := by subst hx; rfl
  have hsy : x.sy = .slice none 0 0 := by subst hx; rfl
  clear hx V1
  refine ⟨_, _, rfl, ?_⟩
  rw [if_pos rfl, onPtr_some]
  intro b H2 hb hH2
  have e2 : Ext H1 H2 := Ext.push' hH2
  have g2 := push_get hb hH2
  have L2 := L1.grow e2
  have hbk : b ∉ k.all := fun h => by have := L1.at'.lt b h; omega
  have hbH : H.size ≤ b := by have := e1.size; omega
  refine ⟨fun i A => (0 ≤ i ∧ i ≤ 8) ∧ (∃ cs : Array Value, A[b]? = some (.cells cs 50 (0, 0)) ∧ cs.size = 18 ∧ cs[0]? = some (.pointer (some ⟨k.h, 0, none⟩))) ∧ Fr [b] H2 A, fun i _ => (8 - i).toNat, ⟨by omega, ⟨_, g2, rfl, rfl⟩, Fr.refl _ _⟩, ?_⟩
  rintro i A ⟨hi, ⟨cs, g, hcs, h0⟩, fA⟩
  by_cases hlt : i < 8
  · rw [if_pos hlt]
    have ea : ((Addr.mk b 0 none).add 1).add (Int.toNat i * 1) = (Addr.mk b 0 none).add (1 + i.toNat) := by rw [addr_add_mk, addr_add_mk, addr_add_mk]; congr 1; omega
    rw [ea]
    obtain ⟨p1, p2⟩ := box_put g (1 + i.toNat) (.int .u64 20) (by omega)
    refine ⟨⟨hi.1, hlt⟩, p1, fun H4 hH4 => ?_⟩
    obtain ⟨g4, f4⟩ := p2 H4 hH4
    rw [w64 (by omega)]
    refine ⟨⟨by omega, ⟨_, g4, by simpa using hcs, ?_⟩, fA.trans f4⟩, by show ((8 : Int) - (i + 1)).toNat < ((8 : Int) - i).toNat; omega⟩
    rw [Array.getElem?_setIfInBounds_ne (by omega)]; exact h0
  · rw [if_neg hlt]
    have LA : Live H A k x := ⟨L2.at'.keep fA (fun i hi => by simp at hi; subst hi; exact hbk), L2.ok, L2.ext.fr_trans fA (fun i hi => by simp at hi; omega), L2.young⟩
    exact hR _ _ ⟨k, x, b, cs, rfl, g, h0, hbk, hbH, LA, hc, hv, hf, hsy⟩
def sA : ByteArray := ByteArray.mk #[97]
def sB : ByteArray := ByteArray.mk #[98]
theorem runes_a : runesOf sA = [97] := by kernel_rfl
theorem runes_b : runesOf sB = [98] := by kernel_rfl
theorem text_a : wordsText [97] = sA := by kernel_rfl
theorem text_b : wordsText [98] = sB := by kernel_rfl
theorem ascii1 {c : UInt8} (hc : c.toNat < 128) : asciiS (ByteArray.mk #[c]) := fun i d h => by
  rcases Nat.lt_or_ge i 1 with hi | hi
  · obtain rfl : i = 0 := by omega
    obtain rfl : c = d := Option.some.inj h
    exact hc
  · rw [getElem?_neg (ByteArray.mk #[c]) i (by show ¬ i < 1; omega)] at h; cases h
theorem name_new {m : Mem} {w s : Int} {rs : List Int} (tw : Thing m w 4 0 [s]) (ts : Thing m s 2 0 rs) : nameR m w = (wordsText rs, 0) := by
  unfold nameR
  have hg : m.get (w / 8 + 1 + 0) = s := by have := tw.get 0 (by simp); simpa using this
  rw [if_pos (tw.field_in ⟨by omega, by simp⟩), hg, if_pos ⟨ts.obj, ts.typ⟩, ts.words]
theorem syB_apart {H0 H : Array Obj} {k : Blk} {x : Hp} {syl : List Int} {b : Nat} {cs : Array Value} (S : SyAt H0 H k x syl) (g : H[b]? = some (.cells cs 50 (0, 0))) : b ∉ syB x.sy := by
  obtain ⟨B, c, e, o, _, _⟩ := S
  rw [e]
  show b ∉ blks B
  cases B with
  | none => simp
  | some a =>
    obtain ⟨_, cs', hb, _⟩ := o
    intro h
    simp at h
    subst h
    rw [g] at hb
    simp only [Option.some.injEq, Obj.cells.injEq] at hb
    exact absurd hb.2.1 (by decide)
set_option maxRecDepth 100000 in
theorem awake16_c {H : Array Obj} : morainelaw16_awake.C H (fun v H' => v = .bool true ∧ Ext H H') := by
  refine HC.via fun R hR => morainelaw16_awake.link ?_
  unfold morainelaw16_awake.pt
  refine HC.mono begun_c ?_
  rintro _ H1 ⟨k, x, b, cs, rfl, g1, hcs, hbk, hbH, L1, hc, hv, hf, hsy⟩
  refine ⟨_, rfl, ?_⟩
  rw [onPtr_some]
  have ptr : ∀ {A : Array Obj}, A[b]? = some (.cells cs 50 (0, 0)) → hat A ⟨b, 0, none⟩ = some (.pointer (some ⟨k.h, 0, none⟩)) := fun g => by
    have h := box_get g 0
    rw [addr_plus0] at h
    rw [h]; exact hcs
  have va : ∀ A, unicode_utf8_ValidString.C sA A (fun v A' => v = .bool true ∧ Ext A A') := fun A => ValidString_short (by decide) (ascii1 (by decide))
  have vb : ∀ A, unicode_utf8_ValidString.C sB A (fun v A' => v = .bool true ∧ Ext A A') := fun A => ValidString_short (by decide) (ascii1 (by decide))
  have na : sA.toList ≠ (ByteArray.mk #[]).toList := fun h => by have := (no_text sA).1 h; cases this
  have nb : sB.toList ≠ (ByteArray.mk #[]).toList := fun h => by have := (no_text sB).1 h; cases this
  have S1 : SyAt H H1 k x [] := .nil hsy
  refine ⟨_, ptr g1, HC.mono (live_Intern_new L1 hv S1 (by simp) na va (by show (runesOf sA).length ≤ 62; rw [runes_a]; decide) rfl (by omega) (by omega)) ?_⟩
  rintro _ H2 ⟨w1, s1, y1, p1, q1, rfl, L2, M1, M2, hsp1, _, _, S2, n1, f2⟩
  rw [show ByteArray.mk #[97] = sA from rfl, runes_a] at M1
  have g2 := f2.get (by rw [hsy]; show b ∉ k.all ++ blks none; simpa using hbk) g1
  have c1 := M1.made.count
  have r1 := M1.made.free
  have c2 := M2.made.count
  have r2 := M2.made.free
  have tw1 : Thing y1.sp.mem w1 4 0 [s1] := by rw [hsp1]; exact M2.thing
  have ts1 : Thing y1.sp.mem s1 2 0 [97] := by rw [hsp1]; exact M1.thing.keep n1 M2.made.keep
  have hv1 : y1.sp.mem.Even := by rw [hsp1]; exact M2.even
  have nm1 := name_new tw1 ts1
  rw [text_a] at nm1
  refine ⟨_, _, rfl, _, ptr g2, HC.mono (live_Intern_new L2 hv1 S2 (by simp) nb vb (by show (runesOf sB).length ≤ 62; rw [runes_b]; decide) (by
    rw [findR_snoc rfl, if_neg]
    unfold symIs
    rw [nm1]
    show ¬ (decide ((0 : Int) = 0) && decide (sA.toList = sB.toList)) = true
    rw [decide_eq_false (show ¬ sA.toList = sB.toList from fun h => by
      rw [Lib.toList_data, Lib.toList_data] at h
      exact absurd h (by decide))]
    simp) (by rw [hsp1]; omega) (by rw [hsp1]; omega)) ?_⟩
  rintro _ H3 ⟨w2, s2, y2, p2, q2, rfl, L3, M3, M4, hsp2, _, _, S3, n3, f3⟩
  rw [show ByteArray.mk #[98] = sB from rfl, runes_b] at M3
  have g3 := f3.get (by
    intro h
    rcases List.mem_append.1 h with h | h
    · exact hbk h
    · exact syB_apart S2 g2 h) g2
  have tw1' : Thing y2.sp.mem w1 4 0 [s1] := by rw [hsp2]; exact (tw1.keep L2.n64 M3.made.keep).keep n3 M4.made.keep
  have ts1' : Thing y2.sp.mem s1 2 0 [97] := by rw [hsp2]; exact (ts1.keep L2.n64 M3.made.keep).keep n3 M4.made.keep
  have nm1' := name_new tw1' ts1'
  rw [text_a] at nm1'
  have hne : w1 ≠ w2 := fun h => by
    have := M4.made.sep n3 (tw1.keep L2.n64 M3.made.keep) 0 0 (by omega) (by omega)
    rw [h] at this; exact this rfl
  refine ⟨_, _, rfl, _, ptr g3, HC.mono (live_Intern_old (w := w1) L3 S3 (by simp) na va (by show (runesOf sA).length ≤ 62; rw [runes_a]; decide) (by
    show findR y2.sp.mem ([w1] ++ [w2]) sA = some w1
    unfold findR
    rw [List.cons_append, List.find?_cons_of_pos]
    unfold symIs
    rw [nm1']
    simp)) ?_⟩
  rintro _ H4 ⟨rfl, e4⟩
  refine ⟨_, _, rfl, ?_⟩
  rw [if_pos rfl, if_pos rfl, if_pos rfl, if_pos rfl, if_neg hne]
  have L4 := L3.grow e4
  obtain ⟨B, c, e, _⟩ := S3
  refine ⟨_, ptr (e4.get g3), _, rfl, B, 2, c, ?_, ?_⟩
  · rw [show (Addr.mk k.h 0 none).add 1 = ⟨k.h, 1, none⟩ from rfl, L4.at'.syAt, e]; rfl
  exact hR _ _ ⟨rfl, L4.ext⟩

set_option maxRecDepth 100000 in
theorem law (w : Int) (name : ByteArray) (H : Array Obj) (hw : IsWord w) (T : Tabs8 H) : morainelaw16_SymsNone.C w name H (fun v H' => v = .bool true ∧ Ext H H') := by
  refine HC.via fun R hR => morainelaw16_SymsNone.link ?_
  unfold morainelaw16_SymsNone.pt
  refine HC.mono (obj_New_c ⟨by decide, by decide⟩) ?_
  rintro _ H1 (⟨hno, _⟩ | ⟨_, k, x, rfl, V1, hx, e1, hy⟩)
  · exact absurd ⟨by decide, by decide⟩ hno
  refine ⟨_, _, rfl, ?_⟩
  by_cases h1 : (name.size : Int) > 500
  · rw [if_pos (by simp; omega)]
    refine ⟨fun q A => q = true ∧ Ext H A, ?_, ?_⟩
    · rw [if_pos rfl]
      refine HC.mono awake16_c ?_
      rintro _ A ⟨rfl, e⟩
      exact ⟨_, rfl, rfl, e1.trans e⟩
    rintro _ A ⟨rfl, e⟩
    exact hR _ _ ⟨rfl, e⟩
  rw [if_neg (by simp; omega)]
  refine HC.mono (syms_Name_c V1 hw) ?_
  have hm : mof (some (k, x)) = Mem.fresh 8 := by subst hx; rfl
  rw [hm, fresh_none 8 hw]
  rintro _ H4 ⟨rfl, e4⟩
  refine ⟨_, _, rfl, HC.mono Name_none ?_⟩
  rintro _ H5 ⟨rfl, h5⟩
  subst h5
  refine ⟨_, _, rfl, HC.mono Find_none ?_⟩
  rintro _ H6 ⟨rfl, e6⟩
  have e16 := (e1.trans e4).trans e6
  refine ⟨_, _, rfl, HC.mono (Intern_none (T.ext e16) (by omega)) ?_⟩
  rintro _ H7 ⟨rfl, e7⟩
  refine ⟨_, _, rfl, HC.mono (good_c (by omega)) ?_⟩
  rintro _ H8 ⟨rfl, e8⟩
  refine ⟨_, rfl, ?_⟩
  have e18 := (e16.trans e7).trans e8
  have fin : morainelaw16_awake.C H8 (fun v H9 => ∃ q : Bool, v = .bool q ∧ R (.bool q) H9) := by
    refine HC.mono awake16_c ?_
    rintro _ A ⟨rfl, e⟩
    exact ⟨_, rfl, hR _ _ ⟨rfl, e18.trans e⟩⟩
  by_cases hb : name.size = 0 ∨ Lib.validD name.data.toList = false
  · have g : goodN name = 2 := by unfold goodN; rw [if_pos hb.symm]
    have e : wantE name = 1 := by unfold wantE; rw [if_pos hb]
    rw [g, e, if_neg (by decide), if_pos rfl, if_pos rfl, if_pos rfl, if_pos rfl, if_pos rfl, if_neg (by decide), if_pos rfl, if_pos rfl]
    exact fin
  by_cases h62 : 62 < (runesOf name).length
  · have g : goodN name = 1 := by unfold goodN; rw [if_neg (fun h => hb h.symm), if_pos h62]
    have e : wantE name = 6 := by unfold wantE; rw [if_neg hb, if_pos h62]
    rw [g, e, if_pos rfl, if_pos rfl, if_pos rfl, if_pos rfl, if_pos rfl, if_neg (by decide), if_pos rfl, if_pos rfl]
    exact fin
  · have g : goodN name = 0 := by unfold goodN; rw [if_neg (fun h => hb h.symm), if_neg h62]
    have e : wantE name = 2 := by unfold wantE; rw [if_neg hb, if_neg h62]
    rw [g, e, if_neg (by decide), if_neg (by decide), if_pos rfl, if_pos rfl, if_pos rfl, if_pos rfl, if_neg (by decide), if_pos rfl, if_pos rfl]
    exact fin

set_option maxRecDepth 100000 in
theorem lifted (os : Os) (started : os.Started) (H : Type) (enc : TypeId × Value → H) :
    ReturnsInHanded {} Tryd.checked os 3 .any (fun w args => (Rows.symsNoneSpec.pre enc Tryd.prog Tryd.f3 Rows.symsNoneRow.domain false w args ∧ laidMetH Tryd.prog Rows.symsNoneRow.laid w) ∧ sizedMet enc Tryd.prog Tryd.f3 (OpenSpec.ofChange Rows.symsNoneSpec) false w args)
      (Rows.symsNoneSpec.post enc Tryd.prog Tryd.f3 false true false false) := by
  refine law_lifted_laid (tb := 4) started (by kernel_rfl) Tryd.func3
    (ChangeSpec.witness_shaped (enc := enc) (C := Tryd.checked) (os := os) (X := fun w _ => laidMetH Tryd.prog Rows.symsNoneRow.laid w) false (World.laidAll Tryd.prog os Rows.symsNoneRow.laid) #[.int .u64 0, .string (ByteArray.mk #[])] 8 (World.laidAll_os _ _ _)
      (World.shaped_of_ZipB (by kernel_rfl) (by kernel_rfl)) (by kernel_rfl) (by kernel_rfl) (by kernel_rfl)
      (by rw [MakeChecks.laidMetH_plain _ _ _ (by kernel_rfl)]; exact laidMet_laidAll _ (by kernel_rfl) (by kernel_rfl)))
    rfl (by kernel_rfl) rfl Tryd.underlying4 (fun ds hds => ?_) ?_
  · match ds, hds with
    | [d0, d1], _ => rfl
  intro W base args ds p hL hval hA _
  rw [Tryd.params3] at hA hval
  obtain ⟨v0, vs0, d0, ds0, p0, q0, hargs, rfl, rfl, h0, r0⟩ := trodAll_cons hA
  obtain ⟨v1, vs1, d1, ds1, p1, q1, rfl, rfl, rfl, h1, r1⟩ := trodAll_cons r0
  obtain ⟨rfl, rfl, rfl⟩ := trodAll_nil r1
  obtain rfl : args = #[v0, v1] := by cases args; simp_all
  obtain ⟨a0, rfl, rfl, rfl, w0⟩ := open_int Tryd.underlying23 (hval 0 23 v0 rfl rfl) h0
  obtain ⟨a1, rfl, w1⟩ := open_str Tryd.underlying9 (hval 1 9 v1 rfl rfl) h1
  exact law a0 a1 W.heap (wf_u64 w0) (tabs8 hL)

theorem over : Rows.SymsNoneSaid :=
  OpenClaim.holds_of_wide 3 Tryd.f3 rfl rfl rfl rfl rfl rfl rfl ⟨rfl, rfl, rfl, rfl, rfl⟩ rfl rfl rfl rfl rfl (by kernel_rfl) Tryd.func3 (by kernel_rfl)
    (of_decide_eq_true (by kernel_rfl)) (by unfold Func.isWrapper; first | (rw [if_pos (by decide +kernel)]; kernel_rfl) | (rw [if_neg (by decide +kernel)]; exact ⟨rfl, rfl⟩))
    (fun os started H enc _ => lifted os started H enc)
theorem proved : Rows.SymsNoneCardSaid :=
  Claim7.holds_tied_plain_at .later [] [.data, .pinned] true (true, "cd76246bb5f30f943e2e78a0fea9a681564fa2762e562bab215b8299a65a4bb1") false over (fun _ h => by cases h) (by kernel_rfl) (fun _ h => by cases h) symsNone_row_tie rfl ⟨rfl, rfl⟩ (by kernel_rfl) rfl
    (fun f fn hf hfn => by
      obtain rfl : f = 3 := Option.some.inj ((show Tryd.prog.funcNamed "moraine/morainelaw16.SymsNone" = some 3 by kernel_rfl).symm.trans hf) |>.symm
      obtain rfl : fn = Tryd.f3 := (Option.some.inj (Tryd.func3.symm.trans hfn)).symm
      exact ⟨by kernel_rfl, fun j t ht => by
        rw [Tryd.params3] at ht
        have hm : t ∈ [23, 9] := by simpa using Array.mem_of_getElem? ht
        have hall : ([23, 9].all fun u => !Tryd.prog.wantsStandIn u) = true := by kernel_rfl
        exact (show Tryd.prog.wantsStandIn t = false by simpa using List.all_eq_true.1 hall t hm)⟩)
    (by kernel_rfl)
#print axioms proved
end Go.Proofs.YtillpfaabdlaiaaDoor.symsNone
