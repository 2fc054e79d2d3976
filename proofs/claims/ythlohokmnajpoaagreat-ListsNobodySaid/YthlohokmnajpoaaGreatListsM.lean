/-
  Lists that are made: lists.row. Proves nothing of any one statement.
-/
import Derived.Test.YthlohokmnajpoaaGreatListsR
import Derived.Test.YthlohokmnajpoaaGreatRoom
set_option linter.unusedVariables false
set_option linter.unusedSimpArgs false
namespace Go.Proofs.YthlohokmnajpoaaGreat
open Go

def Bx (l : List (Nat × Obj)) (H : Array Obj) : Prop := ∀ p ∈ l, H[p.1]? = some p.2
theorem Bx.fr {S : List Nat} {l : List (Nat × Obj)} {H H' : Array Obj} (h : Bx l H) (f : Fr S H H') (hS : ∀ p ∈ l, p.1 ∉ S) : Bx l H' := fun p hp => f.get (hS p hp) (h p hp)
theorem Bx.ext {l : List (Nat × Obj)} {H H' : Array Obj} (h : Bx l H) (e : Ext H H') : Bx l H' := fun p hp => e.get (h p hp)
theorem Bx.nil {H : Array Obj} : Bx [] H := fun p hp => by cases hp
theorem Bx.cons {b : Nat} {o : Obj} {l : List (Nat × Obj)} {H : Array Obj} (h : H[b]? = some o) (k : Bx l H) : Bx ((b, o) :: l) H := fun p hp => by
  rcases List.mem_cons.1 hp with rfl | hp
  · exact h
  · exact k p hp
theorem Bx.head {b : Nat} {o : Obj} {l : List (Nat × Obj)} {H : Array Obj} (h : Bx ((b, o) :: l) H) : H[b]? = some o := h (b, o) (List.mem_cons_self ..)
theorem Bx.tail {p : Nat × Obj} {l : List (Nat × Obj)} {H : Array Obj} (h : Bx (p :: l) H) : Bx l H := fun q hq => h q (List.mem_cons_of_mem _ hq)
theorem Bx.nth {l : List (Nat × Obj)} {H : Array Obj} (h : Bx l H) (i : Nat) {b : Nat} {o : Obj} (e : l[i]? = some (b, o)) : H[b]? = some o := h (b, o) (List.mem_of_getElem? e)
theorem Bx.lt {l : List (Nat × Obj)} {H : Array Obj} (h : Bx l H) : ∀ p ∈ l, p.1 < H.size := fun p hp => lt_size (h p hp)

theorem SrcAt.keep {S : List Nat} {H H' : Array Obj} {p : Option Addr} {xs : List Value} (h : SrcAt H p xs) (f : Fr S H H') (hd : ∀ i ∈ blks p, i ∉ S) : SrcAt H' p xs := by
  cases p with
  | none => exact h
  | some a => exact f.rowAt (hd _ (by simp)) h
theorem Live.lt {H0 H : Array Obj} {b : Blk} {x : Hp} (L : Live H0 H b x) {i : Nat} (hi : i ∈ b.all) : i < H.size := L.at'.lt i hi
theorem Live.keep {S : List Nat} {H0 H H' : Array Obj} {b : Blk} {x : Hp} (L : Live H0 H b x) (f : Fr S H H') (h0 : ∀ i ∈ S, H0.size ≤ i) (hS : ∀ i ∈ S, i ∉ b.all) : Live H0 H' b x :=
  ⟨L.at'.keep f hS, L.ok, L.ext.fr_trans f h0, L.young⟩

theorem Chain.keep {m m' : Mem} {last : Int} (k : Keep m m') (hl : ∀ m : Mem, ¬ m.isPair last) : ∀ {l : List (Int × Int)} {w : Int}, Chain m w l last → Chain m' w l last
  | [], w, h => ⟨h.1, h.2.1, hl m'⟩
  | pa :: l, w, h => by
    obtain ⟨rfl, tag, d, hp, hr⟩ := h
    exact ⟨rfl, tag, d, hp.keep k, Chain.keep k hl hr⟩
theorem nil_noPair (m : Mem) : ¬ m.isPair 20 := fun h => by
  rcases h.1 with h | h
  · exact absurd h.2.1 (by decide)
  · exact absurd h.2.1 (by decide)

def Links (m : Mem) : Int → List (Int × Int) → Int → Prop
  | w, [], last => w = last
  | w, pa :: l, last => w = pa.1 ∧ ∃ d, Pr m pa.1 1 pa.2 d ∧ Links m d l last
theorem Links.keep {m m' : Mem} {last : Int} (k : Keep m m') : ∀ {l : List (Int × Int)} {w : Int}, Links m w l last → Links m' w l last
  | [], w, h => h
  | pa :: l, w, h => by
    obtain ⟨rfl, d, hp, hr⟩ := h
    exact ⟨rfl, d, hp.keep k, Links.keep k hr⟩
theorem Links.chain {m : Mem} {t last : Int} {l' : List (Int × Int)} (c : Chain m t l' last) : ∀ {l : List (Int × Int)} {w : Int}, Links m w l t → Chain m w (l ++ l') last
  | [], w, h => by
    have h : w = t := h
    rw [h]; exact c
  | pa :: l, w, h => by
    obtain ⟨rfl, d, hp, hr⟩ := h
    exact ⟨rfl, 1, d, hp, Links.chain c hr⟩
theorem Links.word {m : Mem} {w last : Int} (hl : IsWord last) : ∀ {l : List (Int × Int)}, Links m w l last → IsWord w
  | [], h => by
    have h : w = last := h
    rw [h]; exact hl
  | _ :: _, h => by obtain ⟨rfl, _, h, _⟩ := h; exact h.word
theorem chain_nil (m : Mem) : Chain m 20 [] 20 := ⟨rfl, by decide, nil_noPair m⟩

structure RowAs (x x' : Hp) (w tail : Int) (l : List (Int × Int)) : Prop where
  links : Links x'.sp.mem w l tail
  keep : Keep x.sp.mem x'.sp.mem
  even : x'.sp.mem.Even
  room : x.sp.room - l.length ≤ x'.sp.room
  count : x'.sp.mem.count ≤ x.sp.mem.count + l.length
  rest : x'.sy = x.sy ∧ x'.en = x.en ∧ x'.ep = x.ep
theorem RowAs.cons {x x1 x2 : Hp} {w w2 tail a : Int} {l : List (Int × Int)} (h : RowAs x x1 w tail l) (c : ConsAs x1 x2 w2 1 a w) (hr : x1.sp.room - 1 ≤ x2.sp.room) : RowAs x x2 w2 tail ((w2, a) :: l) :=
  ⟨⟨rfl, w, c.pr, h.links.keep c.made.keep⟩, h.keep.trans c.made.keep, c.even, by have := h.room; simp; omega, by have := h.count; have := c.made.count; simp; omega, ⟨c.rest.1.trans h.rest.1, c.rest.2.1.trans h.rest.2.1, c.rest.2.2.trans h.rest.2.2⟩⟩

theorem back_c {H : Array Obj} {sB : Option Addr} {sN sC : Nat} :
    slices_Backward_api_Word_api_Word.C sB sN sC H (fun v H' => ∃ p : Nat, v = .func (.func 57) #[] #[.pointer (some ⟨p, 0, none⟩)] ∧ H'[p]? = some (.cells #[.slice sB sN sC] 22 (0, 0)) ∧ H.size ≤ p ∧ Ext H H') := by
  refine HC.via fun R hR => slices_Backward_api_Word_api_Word.link ?_
  unfold slices_Backward_api_Word_api_Word.pt
  intro b H1 hb hH1
  exact hR _ _ ⟨b, rfl, push_get hb hH1, by omega, Ext.push' hH1⟩
set_option maxRecDepth 100000 in
theorem lists_row_c {H0 H : Array Obj} {k : Blk} {x : Hp} (L : Live H0 H k x) (he : x.sp.mem.Even) {lB : Option Addr} {lN lC : Nat} {tail : Int} {ws : List Int} (ht : IsWord tail) (hsrc : SrcAt H lB (wvs ws)) (hlen : lN = ws.length) (hsep : ∀ i ∈ blks lB, i ∉ k.all) (hw : ∀ w ∈ ws, IsWord w)
    (hr : ws.length ≤ x.sp.room) (hl : ws.length ≤ 30000) (hc : x.sp.mem.count + ws.length < 4611686018427387904) :
    lists_row.C (some ⟨k.h, 0, none⟩) tail lB lN lC H (fun v H' => ∃ (w : Int) (x' : Hp) (l : List (Int × Int)), v = .tuple #[.int .u64 w, .int .i64 0] ∧ Live H0 H' k x' ∧ RowAs x x' w tail l ∧ l.map (·.2) = ws ∧ Fr k.all H H') := by
  subst hlen
  refine HC.via fun R hR => lists_row.link ?_
  unfold lists_row.pt
  intro b H1 hb hH1 b2 H2 hb2 hH2 b3 H3 hb3 hH3
  have e1 : Ext H H1 := Ext.push' hH1
  have e2 : Ext H1 H2 := Ext.push' hH2
  have e3 : Ext H2 H3 := Ext.push' hH3
  have g := (e2.trans e3).get (push_get hb hH1)
  have g2 := e3.get (push_get hb2 hH2)
  have g3 := push_get hb3 hH3
  have s1 : H1.size = H.size + 1 := by rw [hH1]; simp
  have s2 : H2.size = H1.size + 1 := by rw [hH2]; simp
  have s3 : H3.size = H2.size + 1 := by rw [hH3]; simp
  obtain ⟨hcp, hpu⟩ := box_set (vs := [.int .u64 tail]) g2 rfl rfl
  refine ⟨hcp, fun H4 hH4 => ?_⟩
  obtain ⟨g24, f4⟩ := hpu H4 hH4
  have s4 := f4.size
  refine HC.mono back_c ?_
  rintro v H5 ⟨p, rfl, gp, hp, e5⟩
  refine ⟨rfl, ?_⟩
  intro rc lp H6 hlp hH6 vY hY
  have s5 := e5.size
  have hp5 := lt_size gp
  have e56 : Ext (H5.push (.deferred (some []))) H6 := Ext.push' hH6
  have hl6 : H6[lp]? = some (rc .ready none) := push_get (by simp; omega) hH6
  have hd6 : H6[H5.size]? = some (.deferred (some [])) := e56.get (push_get rfl rfl)
  have e6 : Ext H5 H6 := (Ext.push H5 _).trans e56
  have s6 : H6.size = H5.size + 2 := by rw [hH6]; simp
  have e03 : Ext H H3 := (e1.trans e2).trans e3
  have e04 : Ext H H4 := e03.fr_trans f4 (fun i hi => by simp at hi; omega)
  have e06 : Ext H H6 := (e04.trans e5).trans e6
  have all_lt : ∀ i ∈ k.all, i < H.size := fun i hi => L.lt hi
  refine FE.of2 (enters_of Tryz.func57 (by kernel_rfl) rfl) rfl (HC.mono (back_loop (fun j A => ∃ (w : Int) (x' : Hp) (l : List (Int × Int)), Live H0 A k x' ∧ RowAs x x' w tail l ∧ l.map (·.2) = ws.drop (ws.length - j) ∧ j ≤ ws.length ∧ Fr k.all H A ∧
    Bx [(lp, rc .ready none), (H5.size, .deferred (some [])), (b, .cells #[.pointer (some ⟨k.h, 0, none⟩)] 24 (0, 0)), (b2, .cells #[.int .u64 w] 26 (0, 0)), (b3, .cells #[.int .i64 0] 27 (0, 0))] A ∧ H6.size ≤ A.size)
    (e6.get gp) rfl (by omega) ?_ ?_ ?_ ?_) (fun v A h => h.2))
  · refine ⟨tail, x, [], L.grow e06, ⟨rfl, Keep.refl _, he, by simp, by simp, rfl, rfl, rfl⟩, by simp, by omega, e06.fr, ?_, Nat.le_refl _⟩
    exact .cons hl6 (.cons hd6 (.cons ((e5.trans e6).get (f4.get (by simp; omega) g)) (.cons ((e5.trans e6).get g24) (.cons ((e5.trans e6).get (f4.get (by simp; omega) g3)) .nil))))
  · rintro j A ⟨w, x', l, LA, RA, hm, hj, fA, bx, sA⟩
    exact hsrc.keep fA hsep
  · rintro j hj A ⟨w, x', l, LA, RA, hm, hj', fA, bx, sA⟩
    have hlen : l.length = ws.length - 1 - j := by have := congrArg List.length hm; simp at this; omega
    refine hY (j : Int) ws[j] A _ bx.head ⟨bx.head, fun H8 hH8 => ?_⟩
    have f8 : Fr [lp] A H8 := by rw [hH8]; exact Fr.set
    have q8 : H8[lp]? = some (rc .busy none) := by rw [hH8]; exact setBlk_at bx.head
    have hlpk : lp ∉ k.all := fun h => by have := all_lt _ h; omega
    have L8 : Live H0 H8 k x' := LA.keep f8 (fun i hi => by have := L.ext.size; have := e06.size; simp at hi; omega) (fun i hi => by simp at hi; rw [hi]; exact hlpk)
    have bx8 := bx.tail.fr f8 (fun q hq => by simp at hq; rcases hq with rfl | rfl | rfl | rfl <;> simp <;> omega)
    refine ⟨_, by rw [hat_blk (bx8.nth 1 rfl)]; rfl, w, by rw [hat_blk (bx8.nth 2 rfl)]; rfl, ?_⟩
    refine HC.mono (live_Cons_room L8 RA.even (hw _ (List.getElem_mem hj)) (RA.links.word ht) (by have := RA.room; omega) (by have := RA.count; omega)) ?_
    rintro _ H9 ⟨w2, x2, rfl, L9, C9, f9, hr9⟩
    have nall : ∀ i, H.size ≤ i → i ∉ k.all := fun i hi h => by have := all_lt _ h; omega
    have bx9 := bx8.fr f9 (fun q hq => by simp at hq; rcases hq with rfl | rfl | rfl | rfl <;> exact nall _ (by show H.size ≤ _; have := e04.size; simp; omega))
    have q9 := f9.get (nall _ (by have := e04.size; omega)) q8
    refine ⟨_, _, rfl, ?_⟩
    obtain ⟨c10, p10⟩ := box_set (vs := [.int .u64 w2]) (bx9.nth 2 rfl) rfl rfl
    refine ⟨c10, fun H10 hH10 => ?_⟩
    obtain ⟨g10, f10⟩ := p10 H10 hH10
    obtain ⟨c11, p11⟩ := box_set (vs := [.int .i64 0]) (f10.get (by simp; omega) (bx9.nth 3 rfl)) rfl rfl
    refine ⟨c11, fun H11 hH11 => ?_⟩
    obtain ⟨g11, f11⟩ := p11 H11 hH11
    refine ⟨0, by rw [hat_blk g11]; rfl, ?_⟩
    rw [if_pos rfl]
    have q11 := f11.get (b := lp) (by simp; omega) (f10.get (by simp; omega) q9)
    refine ⟨q11, true, rfl, fun _ => ?_, fun h => by cases h⟩
    have f12 : Fr [lp] H11 (setBlk H11 lp (rc .ready none)) := Fr.set
    have f912 : Fr [b2, b3, lp] H9 (setBlk H11 lp (rc .ready none)) := ((f10.mono (fun i hi _ => by simp at hi; simp [hi])).trans (f11.mono (fun i hi _ => by simp at hi; simp [hi]))).trans (f12.mono (fun i hi _ => by simp at hi; simp [hi]))
    have s04 := e04.size
    have L12 : Live H0 (setBlk H11 lp (rc .ready none)) k x2 := L9.keep f912 (fun i hi => by have := L.ext.size; simp at hi; omega) (fun i hi => nall _ (by simp at hi; omega))
    refine ⟨⟨w2, x2, (w2, ws[j]) :: l, L12, RA.cons C9 hr9, ?_, by omega, ?_, ?_, ?_⟩, ?_⟩
    · rw [List.map_cons, hm, show ws.length - (ws.length - j) = j by omega, show ws.length - (ws.length - 1 - j) = j + 1 by omega, ← List.drop_eq_getElem_cons hj]
    · exact fA.trans' ((f8.mono (S' := lp :: b2 :: b3 :: k.all) (fun i hi _ => by simp at hi; simp [hi])).trans ((f9.mono (fun i hi _ => by simp [hi])).trans (f912.mono (fun i hi _ => by simp at hi; rcases hi with h | h | h <;> simp [h])))) (fun i hi _ => hi) (fun i hi hlt => by
        simp at hi; rcases hi with h | h | h | h
        · omega
        · omega
        · omega
        · exact h)
    · have hD := bx9.nth 0 rfl
      have b12 : ∀ {i : Nat} {o : Obj}, H9[i]? = some o → i ≠ b2 → i ≠ b3 → i ≠ lp → (setBlk H11 lp (rc .ready none))[i]? = some o := fun h h1 h2 h3 => f912.get (by simp; omega) h
      exact .cons (setBlk_at q11) (.cons (b12 (bx9.nth 0 rfl) (by omega) (by omega) (by omega)) (.cons (b12 (bx9.nth 1 rfl) (by omega) (by omega) (by omega)) (.cons (f12.get (by simp; omega) (f11.get (by simp; omega) g10)) (.cons (f12.get (by simp; omega) g11) .nil))))
    · have := f8.size; have := f9.size; have := f912.size; omega
    · rw [f912.old p (by have := f8.size; have := f9.size; omega) (by simp; omega), f9.old p (by have := f8.size; omega) (nall _ (by omega)), f8.old p (by omega) (by simp; omega)]
  · rintro A ⟨w, x', l, LA, RA, hm, hj, fA, bx, sA⟩
    refine .inl ⟨bx.head, fun H15 hH15 => ?_⟩
    have f15 : Fr [lp] A H15 := by rw [hH15]; exact Fr.set
    have bx15 := bx.tail.fr f15 (fun q hq => by simp at hq; rcases hq with rfl | rfl | rfl | rfl <;> simp <;> omega)
    refine ⟨w, by rw [hat_blk (bx15.nth 2 rfl)]; rfl, ?_⟩
    obtain ⟨c16, p16⟩ := box_set (vs := [.int .u64 w]) (bx15.nth 2 rfl) rfl rfl
    refine ⟨c16, fun H16 hH16 => ?_⟩
    obtain ⟨g16, f16⟩ := p16 H16 hH16
    obtain ⟨c17, p17⟩ := box_set (vs := [.int .i64 0]) (f16.get (by simp; omega) (bx15.nth 3 rfl)) rfl rfl
    refine ⟨c17, fun H17 hH17 => ?_⟩
    obtain ⟨g17, f17⟩ := p17 H17 hH17
    refine ⟨f17.get (by simp; omega) (f16.get (by simp; omega) (bx15.nth 0 rfl)), ?_⟩
    have fd : Fr [H5.size] H17 (H17.setIfInBounds H5.size (.deferred none)) := Fr.set
    have F : Fr [lp, b2, b3, H5.size] A (H17.setIfInBounds H5.size (.deferred none)) :=
      (((f15.mono (fun i hi _ => by simp at hi; simp [hi])).trans (f16.mono (fun i hi _ => by simp at hi; simp [hi]))).trans (f17.mono (fun i hi _ => by simp at hi; simp [hi]))).trans (fd.mono (fun i hi _ => by simp at hi; simp [hi]))
    have s04 := e04.size
    have nall : ∀ i, H.size ≤ i → i ∉ k.all := fun i hi h => by have := all_lt _ h; omega
    refine ⟨w, by rw [hat_blk (fd.get (by simp; omega) (f17.get (by simp; omega) g16))]; rfl, 0, by rw [hat_blk (fd.get (by simp; omega) g17)]; rfl, hR _ _ ⟨w, x', l, rfl, LA.keep F (fun i hi => by have := L.ext.size; simp at hi; omega) (fun i hi => nall _ (by simp at hi; omega)), RA, by rw [hm]; simp, ?_⟩⟩
    exact fA.trans' F (fun i hi _ => hi) (fun i hi hlt => by simp at hi; omega)
end Go.Proofs.YthlohokmnajpoaaGreat
