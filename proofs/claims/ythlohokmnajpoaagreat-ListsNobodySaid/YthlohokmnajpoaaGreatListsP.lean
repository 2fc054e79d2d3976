/-
  lists: what Apply does on a heap of a law's own. Proves nothing of any one statement.
-/
import Derived.Test.YthlohokmnajpoaaGreatListsA
set_option linter.unusedVariables false
set_option linter.unusedSimpArgs false
namespace Go.Proofs.YthlohokmnajpoaaGreat
open Go

theorem Live.new {H0 H : Array Obj} {b : Blk} {x : Hp} (L : Live H0 H b x) {B : Option Addr} (h : ∀ i ∈ blks B, H.size ≤ i) : ∀ i ∈ blks B, i ∉ b.all := fun i hi ha => by
  have := h i hi; have := L.lt ha; omega
theorem lists_length_c {H : Array Obj} {hv : Option Addr} {o : Option (Blk × Hp)} {w : Int} {l : List (Int × Int)} (V : View H hv o) (hch : Chain (mof o) w l 20) (hl : l.length ≤ 30000) :
    lists_elements.C hv 13 w H (fun v H' => v = .tuple #[.int .u64 ((l.length : Int) * 8), .int .i64 0] ∧ Ext H H') := by
  refine HC.via fun R hR => lists_elements.link ?_
  unfold lists_elements.pt
  refine HC.mono (lists_List_c V hch hl) ?_
  rintro _ H1 ⟨e1, ⟨h20, _⟩ | ⟨_, B, c, rfl, _, _⟩⟩
  · exact absurd rfl h20
  refine ⟨_, _, _, _, rfl, ?_⟩
  rw [if_neg (by decide), if_pos rfl, if_pos rfl]
  refine HC.mono (word_Fix_c ⟨by omega, by omega⟩) fun v H2 h2 => ?_
  rw [if_pos (show -1152921504606846976 ≤ (l.length : Int) ∧ (l.length : Int) < 1152921504606846976 by omega)] at h2
  obtain ⟨hv2, e2⟩ := h2
  subst hv2
  refine ⟨_, _, rfl, hR _ _ ⟨?_, e1.trans e2⟩⟩
  have : fixW (l.length : Int) = (l.length : Int) * 8 := by unfold fixW; omega
  rw [this]
theorem lists_reverse_c {H0 H : Array Obj} {k : Blk} {x : Hp} {w : Int} {l : List (Int × Int)} (L : Live H0 H k x) (he : x.sp.mem.Even) (hch : Chain x.sp.mem w l 20) (hl : l.length ≤ 30000) (hr : l.length ≤ x.sp.room) (hc : x.sp.mem.count + l.length < 4611686018427387904) :
    lists_elements.C (some ⟨k.h, 0, none⟩) 15 w H (fun v H' => ∃ (w' : Int) (x' : Hp) (l' : List (Int × Int)), v = .tuple #[.int .u64 w', .int .i64 0] ∧ Live H0 H' k x' ∧ RowAs x x' w' 20 l' ∧ l'.map (·.2) = (l.map (·.2)).reverse ∧ Fr k.all H H') := by
  refine HC.via fun R hR => lists_elements.link ?_
  unfold lists_elements.pt
  refine HC.mono (lists_List_c L.view hch hl) ?_
  rintro _ H1 ⟨e1, ⟨h20, _⟩ | ⟨_, B, c, rfl, how, hy⟩⟩
  · exact absurd rfl h20
  refine ⟨_, _, _, _, rfl, ?_⟩
  rw [if_neg (by decide), if_pos rfl, if_neg (by decide)]
  refine HC.mono (slices_Reverse_c how (by simp) (by omega)) ?_
  rintro _ H2 ⟨how2, f2⟩
  have hsep := L.new hy
  have L2 : Live H0 H2 k x := (L.grow e1).keep f2 (fun i hi => by have := hy i hi; have := L.ext.size; omega) hsep
  have hlen : l.length = (l.map (·.2)).reverse.length := by simp
  refine HC.mono (lists_row_c L2 he (ws := (l.map (·.2)).reverse) (by decide) how2.src hlen hsep (fun v hv => ?_) (by simpa using hr) (by simpa using hl) (by simpa using hc)) ?_
  · simp only [List.mem_reverse, List.mem_map] at hv
    obtain ⟨pa, hpa, rfl⟩ := hv
    obtain ⟨i, hi, rfl⟩ := List.mem_iff_getElem.1 hpa
    obtain ⟨tag, d, hp⟩ := hch.nth i hi
    rw [← hp.car]; exact View.word L.view _
  rintro _ H3 ⟨w', x', l', rfl, L3, R3, hm, f3⟩
  refine ⟨_, _, rfl, hR _ _ ⟨w', x', l', rfl, L3, R3, hm, ?_⟩⟩
  exact ((e1.fr (S := k.all)).trans' f2 (fun i hi _ => hi) (fun i hi hlt => by have := hy i hi; omega)).trans f3
theorem lists_cadr_c {H : Array Obj} {hv : Option Addr} {o : Option (Blk × Hp)} {w t1 a1 t2 a2 d1 d2 : Int} {b : Nat} {T : TypeId} (V : View H hv o) (hb : H[b]? = some (.cells #[.int .i64 1, .int .i64 0] T (0, 0))) (p1 : Pr (mof o) w t1 a1 d1) (p2 : Pr (mof o) d1 t2 a2 d2) :
    lists_steps.C hv w (some ⟨b, 0, none⟩) 2 2 H (fun v H' => v = .tuple #[.int .u64 a2, .int .i64 0] ∧ Ext H H') := by
  refine HC.via fun R hR => lists_steps.link ?_
  unfold lists_steps.pt
  refine ⟨fun u i A => Ext H A ∧ ((i = 0 ∧ u = w) ∨ (i = 1 ∧ u = d1) ∨ (i = 2 ∧ u = a2)), fun _ i _ => (2 - i).toNat, ⟨Ext.refl _, .inl ⟨rfl, rfl⟩⟩, ?_⟩
  rintro u i A ⟨eA, ⟨rfl, rfl⟩ | ⟨rfl, rfl⟩ | ⟨rfl, rfl⟩⟩
  · rw [if_pos (by decide)]
    refine ⟨_, rfl, ⟨by decide, by decide⟩, 1, by rw [show Int.toNat 0 * 1 = 0 from rfl, box_get (eA.get hb) 0]; rfl, ?_⟩
    rw [if_neg (by decide)]
    refine HC.mono (obj_Cdr_c (V.ext eA) p1.word) ?_
    rintro _ H2 ⟨rfl, e2⟩
    rw [p1.half.2, if_pos rfl, p1.cdr]
    refine ⟨_, _, rfl, ?_⟩
    rw [if_pos rfl]
    exact ⟨⟨eA.trans e2, .inr (.inl ⟨by decide, rfl⟩)⟩, by show ((2 : Int) - IntKind.wrap .i64 (0 + 1)).toNat < ((2 : Int) - 0).toNat; decide⟩
  · rw [if_pos (by decide)]
    refine ⟨_, rfl, ⟨by decide, by decide⟩, 0, by rw [show Int.toNat 1 * 1 = 1 from rfl, box_get (eA.get hb) 1]; rfl, ?_⟩
    rw [if_pos rfl]
    refine HC.mono (obj_Car_c (V.ext eA) p2.word) ?_
    rintro _ H2 ⟨rfl, e2⟩
    rw [p2.half.1, if_pos rfl, show u / 8 + 0 = u / 8 by omega, p2.car]
    refine ⟨_, _, rfl, ?_⟩
    rw [if_pos rfl]
    exact ⟨⟨eA.trans e2, .inr (.inr ⟨by decide, rfl⟩)⟩, by show ((2 : Int) - IntKind.wrap .i64 (1 + 1)).toNat < ((2 : Int) - 1).toNat; decide⟩
  · rw [if_neg (by decide)]
    exact hR _ _ ⟨rfl, eA⟩

def Arg1 (H : Array Obj) (b : Nat) (x : Int) : Prop := H[b]? = some (.cells #[.int .u64 x] 26 (0, 0))
theorem Arg1.at {H H' : Array Obj} {b : Nat} {x : Int} (h : Arg1 H b x) (e : Ext H H') : hat H' ((Addr.mk b 0 none).add (Int.toNat 0 * 1)) = some (.int .u64 x) := by
  rw [show Int.toNat 0 * 1 = 0 from rfl, box_get (e.get h) 0]; rfl
theorem in01 : (0 : Int) ≤ 0 ∧ (0 : Int) < ((1 : Nat) : Int) := by decide
theorem apply_list {H0 H : Array Obj} {k : Blk} {x : Hp} (L : Live H0 H k x) (he : x.sp.mem.Even) {lB : Option Addr} {lN lC : Nat} {ws : List Int} (hsrc : SrcAt H lB (wvs ws)) (hlen : lN = ws.length) (hsep : ∀ i ∈ blks lB, i ∉ k.all) (hw : ∀ w ∈ ws, IsWord w)
    (hr : ws.length ≤ x.sp.room) (hl : ws.length ≤ 30000) (hc : x.sp.mem.count + ws.length < 4611686018427387904) :
    lists_Apply.C (some ⟨k.h, 0, none⟩) 12 lB lN lC H (fun v H' => ∃ (w : Int) (x' : Hp) (l : List (Int × Int)), v = .tuple #[.int .u64 w, .int .i64 0] ∧ Live H0 H' k x' ∧ RowAs x x' w 20 l ∧ l.map (·.2) = ws ∧ Fr k.all H H') := by
  refine HC.via fun R hR => lists_Apply.link ?_
  unfold lists_Apply.pt
  rw [onPtr_some]
  refine ⟨_, L.at'.hPtr, ?_⟩
  rw [onPtr_some, if_neg (by decide)]
  refine apply_pre 12 (by decide) rfl (q := false) (by simp [bad22, lm22]) fun H4 e4 => ?_
  rw [if_neg (by decide)]
  rw [if_neg (by decide), if_neg (by decide), if_neg (by decide)]
  refine ⟨fun q A => q = false ∧ H4 = A, by rw [if_neg (by decide), if_neg (by decide), if_neg (by decide)]; exact ⟨rfl, rfl⟩, ?_⟩
  rintro _ _ ⟨rfl, rfl⟩
  rw [if_neg (by decide), if_neg (by decide), if_neg (by decide)]
  refine ⟨fun q A => q = false ∧ H4 = A, by rw [if_neg (by decide), if_neg (by decide)]; exact ⟨rfl, rfl⟩, ?_⟩
  rintro _ _ ⟨rfl, rfl⟩
  rw [if_neg (by decide), if_pos rfl]
  refine HC.mono (lists_row_c (L.grow e4) he (by decide) (hsrc.ext e4) hlen hsep hw hr hl hc) ?_
  rintro _ H5 ⟨w, x', l, rfl, L5, R5, hm, f5⟩
  exact ⟨_, _, rfl, hR _ _ ⟨w, x', l, rfl, L5, R5, hm, (e4.fr (S := k.all)).trans f5⟩⟩
theorem apply_length {H0 H : Array Obj} {k : Blk} {x : Hp} {b : Nat} {w : Int} {l : List (Int × Int)} (L : Live H0 H k x) (ha : Arg1 H b w) (hch : Chain x.sp.mem w l 20) (hl : l.length ≤ 30000) :
    lists_Apply.C (some ⟨k.h, 0, none⟩) 13 (some ⟨b, 0, none⟩) 1 1 H (fun v H' => v = .tuple #[.int .u64 ((l.length : Int) * 8), .int .i64 0] ∧ Ext H H') := by
  refine HC.via fun R hR => lists_Apply.link ?_
  unfold lists_Apply.pt
  rw [onPtr_some]
  refine ⟨_, L.at'.hPtr, ?_⟩
  rw [onPtr_some, if_neg (by decide)]
  refine apply_pre 13 (by decide) rfl (q := false) (by simp [bad22, lm22]) fun H4 e4 => ?_
  rw [if_neg (by decide)]
  rw [if_neg (by decide), if_neg (by decide), if_neg (by decide)]
  refine ⟨fun q A => q = false ∧ H4 = A, by rw [if_neg (by decide), if_neg (by decide), if_neg (by decide)]; exact ⟨rfl, rfl⟩, ?_⟩
  rintro _ _ ⟨rfl, rfl⟩
  rw [if_neg (by decide), if_neg (by decide), if_neg (by decide)]
  refine ⟨fun q A => q = true ∧ H4 = A, by rw [if_neg (by decide), if_pos rfl]; exact ⟨rfl, rfl⟩, ?_⟩
  rintro _ _ ⟨rfl, rfl⟩
  rw [if_pos rfl]
  refine ⟨_, rfl, in01, w, ha.at e4, HC.mono (lists_length_c (L.grow e4).view hch hl) ?_⟩
  rintro _ H5 ⟨rfl, e5⟩
  exact ⟨_, _, rfl, hR _ _ ⟨rfl, e4.trans e5⟩⟩
theorem apply_reverse {H0 H : Array Obj} {k : Blk} {x : Hp} {b : Nat} {w : Int} {l : List (Int × Int)} (L : Live H0 H k x) (he : x.sp.mem.Even) (ha : Arg1 H b w) (hch : Chain x.sp.mem w l 20) (hl : l.length ≤ 30000) (hr : l.length ≤ x.sp.room) (hc : x.sp.mem.count + l.length < 4611686018427387904) :
    lists_Apply.C (some ⟨k.h, 0, none⟩) 15 (some ⟨b, 0, none⟩) 1 1 H (fun v H' => ∃ (w' : Int) (x' : Hp) (l' : List (Int × Int)), v = .tuple #[.int .u64 w', .int .i64 0] ∧ Live H0 H' k x' ∧ RowAs x x' w' 20 l' ∧ l'.map (·.2) = (l.map (·.2)).reverse ∧ Fr k.all H H') := by
  refine HC.via fun R hR => lists_Apply.link ?_
  unfold lists_Apply.pt
  rw [onPtr_some]
  refine ⟨_, L.at'.hPtr, ?_⟩
  rw [onPtr_some, if_neg (by decide)]
  refine apply_pre 15 (by decide) rfl (q := false) (by simp [bad22, lm22]) fun H4 e4 => ?_
  rw [if_neg (by decide)]
  rw [if_neg (by decide), if_neg (by decide), if_neg (by decide)]
  refine ⟨fun q A => q = false ∧ H4 = A, by rw [if_neg (by decide), if_neg (by decide), if_neg (by decide)]; exact ⟨rfl, rfl⟩, ?_⟩
  rintro _ _ ⟨rfl, rfl⟩
  rw [if_neg (by decide), if_neg (by decide), if_neg (by decide)]
  refine ⟨fun q A => q = true ∧ H4 = A, by rw [if_neg (by decide), if_neg (by decide)]; exact ⟨rfl, rfl⟩, ?_⟩
  rintro _ _ ⟨rfl, rfl⟩
  rw [if_pos rfl]
  refine ⟨_, rfl, in01, w, ha.at e4, HC.mono (lists_reverse_c (L.grow e4) he hch hl hr hc) ?_⟩
  rintro _ H5 ⟨w', x', l', rfl, L5, R5, hm, f5⟩
  exact ⟨_, _, rfl, hR _ _ ⟨w', x', l', rfl, L5, R5, hm, (e4.fr (S := k.all)).trans f5⟩⟩
theorem apply_cadr {H0 H : Array Obj} {k : Blk} {x : Hp} {b : Nat} {w t1 a1 t2 a2 d1 d2 : Int} (L : Live H0 H k x) (ha : Arg1 H b w) (p1 : Pr x.sp.mem w t1 a1 d1) (p2 : Pr x.sp.mem d1 t2 a2 d2) :
    lists_Apply.C (some ⟨k.h, 0, none⟩) 4 (some ⟨b, 0, none⟩) 1 1 H (fun v H' => v = .tuple #[.int .u64 a2, .int .i64 0] ∧ Ext H H') := by
  refine HC.via fun R hR => lists_Apply.link ?_
  unfold lists_Apply.pt
  rw [onPtr_some]
  refine ⟨_, L.at'.hPtr, ?_⟩
  rw [onPtr_some, if_neg (by decide)]
  refine apply_pre 4 (by decide) rfl (q := false) (by simp [bad22, lm22]) fun H4 e4 => ?_
  rw [if_neg (by decide)]
  rw [if_neg (by decide), if_neg (by decide), if_neg (by decide)]
  refine ⟨fun q A => q = true ∧ H4 = A, by rw [if_neg (by decide), if_pos rfl]; exact ⟨rfl, rfl⟩, ?_⟩
  rintro _ _ ⟨rfl, rfl⟩
  rw [if_pos rfl]
  refine ⟨_, rfl, in01, w, ha.at e4, fun b2 H9 hb2 hH9 => ?_⟩
  have e9 := e4.trans (Ext.push' hH9)
  refine HC.mono (lists_cadr_c (L.grow e9).view (push_get hb2 hH9) p1 p2) ?_
  rintro _ H10 ⟨rfl, e10⟩
  exact ⟨_, _, rfl, hR _ _ ⟨rfl, e9.trans e10⟩⟩
theorem apply_car_no {H0 H : Array Obj} {k : Blk} {x : Hp} {b : Nat} {w : Int} (L : Live H0 H k x) (ha : Arg1 H b w) (hw : IsWord w) (hp : ¬ x.sp.mem.isPair w) :
    lists_Apply.C (some ⟨k.h, 0, none⟩) 1 (some ⟨b, 0, none⟩) 1 1 H (fun v H' => v = .tuple #[.int .u64 0, .int .i64 3] ∧ Ext H H') := by
  refine HC.via fun R hR => lists_Apply.link ?_
  unfold lists_Apply.pt
  rw [onPtr_some]
  refine ⟨_, L.at'.hPtr, ?_⟩
  rw [onPtr_some, if_neg (by decide)]
  refine apply_pre 1 (by decide) rfl (q := false) (by simp [bad22, lm22]) fun H4 e4 => ?_
  rw [if_neg (by decide)]
  rw [if_neg (by decide), if_pos rfl]
  refine ⟨_, rfl, in01, w, ha.at e4, HC.mono (obj_Car_c (L.grow e4).view hw) ?_⟩
  rintro _ H5 ⟨rfl, e5⟩
  have hm : (mof (some (k, x))).halfE w 0 = 3 := by unfold Mem.halfE; rw [if_neg (show ¬ (mof (some (k, x))).isPair w from hp)]
  rw [hm, if_neg (by decide)]
  exact ⟨_, _, rfl, hR _ _ ⟨rfl, e4.trans e5⟩⟩
theorem apply_cons_no {H0 H : Array Obj} {k : Blk} {x : Hp} {B : Option Addr} {c : Nat} (L : Live H0 H k x) :
    lists_Apply.C (some ⟨k.h, 0, none⟩) 0 B 1 c H (fun v H' => v = .tuple #[.int .u64 0, .int .i64 5] ∧ Ext H H') := by
  refine HC.via fun R hR => lists_Apply.link ?_
  unfold lists_Apply.pt
  rw [onPtr_some]
  refine ⟨_, L.at'.hPtr, ?_⟩
  rw [onPtr_some, if_neg (by decide)]
  refine apply_pre 0 (by decide) rfl (q := true) (by simp [bad22, lm22]) fun H4 e4 => ?_
  rw [if_pos rfl]
  exact hR _ _ ⟨rfl, e4⟩
end Go.Proofs.YthlohokmnajpoaaGreat
