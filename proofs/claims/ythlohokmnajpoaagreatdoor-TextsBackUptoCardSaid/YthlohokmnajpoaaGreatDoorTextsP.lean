/-
  Texts and lists: primitives 3, 4, 18, 23 and 26 to 31. Proves nothing of any one statement.
-/
import Derived.Test.YthlohokmnajpoaaGreatDoorTextsO
import Derived.Test.YthlohokmnajpoaaGreatDoorValid
import Derived.Test.YthlohokmnajpoaaGreatDoorListsM
import Derived.Test.YthlohokmnajpoaaGreatDoorListsL
import Derived.Test.YthlohokmnajpoaaGreatDoorSyms
set_option linter.unusedVariables false
set_option linter.unusedSimpArgs false
namespace Go.Proofs.YthlohokmnajpoaaGreatDoor
open Go

theorem enc_3 : (Utf8.encode 65533).size = 3 := by kernel_rfl
theorem validD_cat : ∀ (rs : List Int), (∀ r ∈ rs, Letter r) → Lib.validD (catR rs).data.toList = true
  | [], _ => rfl
  | r :: rs, h => by
    have hr := h r (by simp)
    have hn := hr.nat
    have hp := enc_pos r
    have hd : Utf8.decode (Utf8.encode r ++ catR rs) 0 = (r.toNat, (Utf8.encode r).size) := by
      have := decode_enc ByteArray.empty (catR rs) r.toNat (by rw [show ((r.toNat : Nat) : Int) = r by omega]; exact hr)
      rw [nil_ba, show ((r.toNat : Nat) : Int) = r by omega] at this
      exact this
    have hl : (catR (r :: rs)).data.toList = (Utf8.encode r).data.toList ++ (catR rs).data.toList := by
      show (Utf8.encode r ++ catR rs).data.toList = _
      rw [ByteArray.data_append, Array.toList_append]
    have hsz : (Utf8.encode r).data.toList.length = (Utf8.encode r).size := by simp
    have hne : (catR (r :: rs)).data.toList ≠ [] := fun h1 => by
      rw [hl] at h1
      have h2 := congrArg List.length h1
      rw [List.length_append, hsz] at h2
      have h3 : (Utf8.encode r).size + (catR rs).data.toList.length = 0 := h2
      omega
    have hdl : Lib.decodeL (catR (r :: rs)).data.toList = (r.toNat, (Utf8.encode r).size) := by
      unfold Lib.decodeL
      rw [Array.toArray_toList]; exact hd
    have hbad : ¬ (r.toNat = 65533 ∧ (Utf8.encode r).size = 1) := by
      rintro ⟨h1, h2⟩
      have h3 : r = 65533 := by omega
      subst h3
      rw [enc_3] at h2; omega
    rw [Lib.validD_step _ hne, hdl, if_neg hbad]
    show Lib.validD ((catR (r :: rs)).data.toList.drop (Utf8.encode r).size) = true
    rw [hl, ← hsz, List.drop_left]
    exact validD_cat rs (fun x hx => h x (by simp [hx]))
theorem ValidString_runes {H : Array Obj} {rs : List Int} (T : Tabs8 H) (h : ∀ r ∈ rs, Letter r) (hl : rs.length ≤ 62) : unicode_utf8_ValidString.C (runesStr rs) H (fun v H' => v = .bool true ∧ Ext H H') := by
  have hv := validD_cat rs h
  have hsz := catR_size rs
  rw [runesStr_cat]
  refine HC.mono (ValidString_c T (by omega)) ?_
  rw [hv]; exact fun v A h => h
def chrW (r : Int) : Int := r * 256 + 60
theorem letter_B {r : Int} (h : Letter r) : letterB r = true ∧ 0 ≤ r ∧ r ≤ 1114111 := by
  unfold Letter Utf8.valid at h
  simp only [Bool.or_eq_true, Bool.and_eq_true, decide_eq_true_eq] at h
  refine ⟨?_, by omega, by omega⟩
  unfold letterB
  simp only [Bool.and_eq_true, Bool.or_eq_true, decide_eq_true_eq]
  omega
theorem chrW_word {r : Int} (h : Letter r) : IsWord (chrW r) ∧ isChr (chrW r) ∧ runeW (chrW r) = r := by
  obtain ⟨h1, h2, h3⟩ := letter_B h
  unfold chrW
  have e : (r * 256 + 60) / 256 = r := by omega
  have hc : isChr (r * 256 + 60) := ⟨by omega, by omega, by rw [e]; exact h1⟩
  exact ⟨⟨by omega, by omega⟩, hc, by unfold runeW; rw [if_pos hc, e]⟩
theorem chrW_runes {rs : List Int} (h : ∀ r ∈ rs, Letter r) : (rs.map chrW).map runeW = rs := by
  rw [List.map_map]
  refine (List.map_congr_left fun x hx => ?_).trans (List.map_id _)
  exact (chrW_word (h x hx)).2.2
theorem chrW_words {rs : List Int} (h : ∀ r ∈ rs, Letter r) : ∀ w ∈ rs.map chrW, IsWord w := fun w hw => by
  obtain ⟨r, hr, rfl⟩ := List.mem_map.1 hw
  exact (chrW_word (h r hr)).1
theorem texts_chars_c {H : Array Obj} {lB : Option Addr} {lN lC : Nat} {rs : List Int} (hsrc : SrcAt H lB (i32s rs)) (hlen : lN = rs.length) (hlet : ∀ r ∈ rs, Letter r) (hl : rs.length ≤ 1000000) :
    texts_chars.C lB lN lC H (fun v H' => ∃ B c, v = .slice B rs.length c ∧ Own H' 35 1 B rs.length c (wvs (rs.map chrW)) ∧ (∀ i ∈ blks B, H.size ≤ i) ∧ Ext H H') := by
  subst hlen
  refine HC.via fun R hR => texts_chars.link ?_
  unfold texts_chars.pt
  refine ⟨fun B n c i A => ∃ k : Nat, i = k ∧ n = k ∧ k ≤ rs.length ∧ Own A 35 1 B k c (wvs ((rs.map chrW).take k)) ∧ (∀ i ∈ blks B, H.size ≤ i) ∧ Ext H A, fun _ _ _ i _ => (rs.length - i).toNat,
    ⟨0, rfl, rfl, by omega, by simpa [wvs] using own_nil, by simp, Ext.refl _⟩, ?_⟩
  rintro B n c i A ⟨k, rfl, rfl, hk, how, hy, eA⟩
  by_cases hlt : (n : Int) < (rs.length : Int)
  · rw [if_pos hlt]
    have hlt' : n < rs.length := by omega
    obtain ⟨a, rfl, hat'⟩ := src_at (hsrc.ext eA) (k := n) (v := .int .i32 rs[n]) (by simp [i32s, hlt'])
    have hlr := hlet _ (List.getElem_mem hlt')
    obtain ⟨b1, b2, b3⟩ := letter_B hlr
    refine ⟨a, rfl, ⟨by omega, hlt⟩, rs[n], hat', ?_⟩
    refine HC.mono (word_Char_c (by omega)) ?_
    rw [if_pos ⟨b2, b1⟩]
    rintro _ H2 ⟨rfl, e2⟩
    refine ⟨_, _, rfl, fun b H3 hb hH3 => ?_⟩
    have e3 : Ext H2 H3 := Ext.push' hH3
    refine own_append (ys := wvs [chrW rs[n]]) (how.ext (e2.trans e3)) (rowAt_blk (push_get hb hH3) _ 0 0 (fun j hj => by simp [wvs, chrW])) (by simp [wvs]) (allOne_wvs _) rfl (by omega) ?_
    intro p' c' H4 how4 f4 hnew
    rw [w64 (by omega)]
    have s3 := (e2.trans e3).size
    have sA := eA.size
    refine ⟨⟨n + 1, by omega, rfl, by omega, ?_, fun i hi => ?_, (eA.trans (e2.trans e3)).fr_trans f4 (fun i hi => hy i hi)⟩, by show ((rs.length : Int) - (n + 1)).toNat < ((rs.length : Int) - n).toNat; omega⟩
    · rw [List.take_succ_eq_append_getElem (by simpa using hlt')]
      simpa [wvs] using how4
    · rcases hnew i hi with h | h
      · exact hy i h
      · omega
  · rw [if_neg hlt]
    obtain rfl : n = rs.length := by omega
    refine hR _ _ ⟨B, c, rfl, ?_, hy, eA⟩
    rw [List.take_of_length_le (by simp)] at how
    exact how
theorem room_free {s : Sp} (ok : SpOK s) : 32 * s.mem.free ≤ s.room ∧ s.room ≤ 32 * s.mem.free + 32 := by
  unfold Sp.room
  have h := (ok.mem.seg (s.cur 0 0 - 1).toNat).n
  by_cases hc : s.cur 0 0 ≠ 0
  · rw [if_pos hc]; omega
  · rw [if_neg hc]; omega
set_option maxRecDepth 100000 in
theorem texts_row_c {H0 H : Array Obj} {k : Blk} {x : Hp} (L : Live H0 H k x) (he : x.sp.mem.Even) {lB : Option Addr} {lN lC : Nat} {ws : List Int} (hsrc : SrcAt H lB (wvs ws)) (hlen : lN = ws.length) (hsep : ∀ i ∈ blks lB, i ∉ k.all) (hw : ∀ w ∈ ws, IsWord w)
    (hr : ws.length ≤ x.sp.room) (hl : ws.length ≤ 30000) (hc : x.sp.mem.count + ws.length < 4611686018427387904) :
    texts_row.C (some ⟨k.h, 0, none⟩) lB lN lC H (fun v H' => ∃ (w : Int) (x' : Hp) (l : List (Int × Int)), v = .tuple #[.int .u64 w, .int .i64 0] ∧ Live H0 H' k x' ∧ RowAs x x' w 20 l ∧ l.map (·.2) = ws ∧ Fr k.all H H') := by
  have ht : IsWord 20 := ⟨by decide, by decide⟩
  subst hlen
  refine HC.via fun R hR => texts_row.link ?_
  unfold texts_row.pt
  intro b H1 hb hH1 b2 H2 hb2 hH2 b3 H3 hb3 hH3
  have e1 : Ext H H1 := Ext.push' hH1
  have e2 : Ext H1 H2 := Ext.push' hH2
  have e3 : Ext H2 H3 := Ext.push' hH3
  have g := (e2.trans e3).get (push_get hb hH1)
  have g2 := e3.get (push_get hb2 hH2)
  have g3 := push_get hb3 hH3
  have s1 : H1.size = H.size + 1 := by rw [hH1]; simp
  have s2 : H2.size = H1.size + 1 := by rw [hH2]; simp
  have s3 : H3.size = H2.size + 1 := by rw [hH3]; simp
  obtain ⟨hcp, hpu⟩ := box_set (vs := [.int .u64 20]) g2 rfl rfl
  refine ⟨hcp, fun H4 hH4 => ?_⟩
  obtain ⟨g24, f4⟩ := hpu H4 hH4
  have s4 := f4.size
  refine HC.mono back_c ?_
  rintro v H5 ⟨p, rfl, gp, hp, e5⟩
  refine ⟨rfl, ?_⟩
  intro rc lp H6 hlp hH6 vY hY
  have s5 := e5.size
  have hp5 := lt_size gp
  have e56 : Ext (H5.push (.deferred (some []))) H6 := Ext.push' hH6
  have hl6 : H6[lp]? = some (rc .ready none) := push_get (by simp; omega) hH6
  have hd6 : H6[H5.size]? = some (.deferred (some [])) := e56.get (push_get rfl rfl)
  have e6 : Ext H5 H6 := (Ext.push H5 _).trans e56
  have s6 : H6.size = H5.size + 2 := by rw [hH6]; simp
  have e03 : Ext H H3 := (e1.trans e2).trans e3
  have e04 : Ext H H4 := e03.fr_trans f4 (fun i hi => by simp at hi; omega)
  have e06 : Ext H H6 := (e04.trans e5).trans e6
  have all_lt : ∀ i ∈ k.all, i < H.size := fun i hi => L.lt hi
  refine FE.of2 (enters_of Tryz.func162 (by kernel_rfl) rfl) rfl (HC.mono (back_loop (fun j A => ∃ (w : Int) (x' : Hp) (l : List (Int × Int)), Live H0 A k x' ∧ RowAs x x' w 20 l ∧ l.map (·.2) = ws.drop (ws.length - j) ∧ j ≤ ws.length ∧ Fr k.all H A ∧
    Bx [(lp, rc .ready none), (H5.size, .deferred (some [])), (b, .cells #[.pointer (some ⟨k.h, 0, none⟩)] 30 (0, 0)), (b2, .cells #[.int .u64 w] 35 (0, 0)), (b3, .cells #[.int .i64 0] 31 (0, 0))] A ∧ H6.size ≤ A.size)
    (e6.get gp) rfl (by omega) ?_ ?_ ?_ ?_) (fun v A h => h.2))
  · refine ⟨20, x, [], L.grow e06, ⟨rfl, Keep.refl _, he, by simp, by simp, rfl, rfl, rfl⟩, by simp, by omega, e06.fr, ?_, Nat.le_refl _⟩
    exact .cons hl6 (.cons hd6 (.cons ((e5.trans e6).get (f4.get (by simp; omega) g)) (.cons ((e5.trans e6).get g24) (.cons ((e5.trans e6).get (f4.get (by simp; omega) g3)) .nil))))
  · rintro j A ⟨w, x', l, LA, RA, hm, hj, fA, bx, sA⟩
    exact hsrc.keep fA hsep
  · rintro j hj A ⟨w, x', l, LA, RA, hm, hj', fA, bx, sA⟩
    have hlen : l.length = ws.length - 1 - j := by have := congrArg List.length hm; simp at this; omega
    refine hY (j : Int) ws[j] A _ bx.head ⟨bx.head, fun H8 hH8 => ?_⟩
    have f8 : Fr [lp] A H8 := by rw [hH8]; exact Fr.set
    have q8 : H8[lp]? = some (rc .busy none) := by rw [hH8]; exact setBlk_at bx.head
    have hlpk : lp ∉ k.all := fun h => by have := all_lt _ h; omega
    have L8 : Live H0 H8 k x' := LA.keep f8 (fun i hi => by have := L.ext.size; have := e06.size; simp at hi; omega) (fun i hi => by simp at hi; rw [hi]; exact hlpk)
    have bx8 := bx.tail.fr f8 (fun q hq => by simp at hq; rcases hq with rfl | rfl | rfl | rfl <;> simp <;> omega)
    refine ⟨_, by rw [hat_blk (bx8.nth 1 rfl)]; rfl, w, by rw [hat_blk (bx8.nth 2 rfl)]; rfl, ?_⟩
    refine HC.mono (live_Cons_room L8 RA.even (hw _ (List.getElem_mem hj)) (RA.links.word ht) (by have := RA.room; omega) (by have := RA.count; omega)) ?_
    rintro _ H9 ⟨w2, x2, rfl, L9, C9, f9, hr9⟩
    have nall : ∀ i, H.size ≤ i → i ∉ k.all := fun i hi h => by have := all_lt _ h; omega
    have bx9 := bx8.fr f9 (fun q hq => by simp at hq; rcases hq with rfl | rfl | rfl | rfl <;> exact nall _ (by show H.size ≤ _; have := e04.size; simp; omega))
    have q9 := f9.get (nall _ (by have := e04.size; omega)) q8
    refine ⟨_, _, rfl, ?_⟩
    obtain ⟨c10, p10⟩ := box_set (vs := [.int .u64 w2]) (bx9.nth 2 rfl) rfl rfl
    refine ⟨c10, fun H10 hH10 => ?_⟩
    obtain ⟨g10, f10⟩ := p10 H10 hH10
    obtain ⟨c11, p11⟩ := box_set (vs := [.int .i64 0]) (f10.get (by simp; omega) (bx9.nth 3 rfl)) rfl rfl
    refine ⟨c11, fun H11 hH11 => ?_⟩
    obtain ⟨g11, f11⟩ := p11 H11 hH11
    refine ⟨0, by rw [hat_blk g11]; rfl, ?_⟩
    rw [if_pos rfl]
    have q11 := f11.get (b := lp) (by simp; omega) (f10.get (by simp; omega) q9)
    refine ⟨q11, true, rfl, fun _ => ?_, fun h => by cases h⟩
    have f12 : Fr [lp] H11 (setBlk H11 lp (rc .ready none)) := Fr.set
    have f912 : Fr [b2, b3, lp] H9 (setBlk H11 lp (rc .ready none)) := ((f10.mono (fun i hi _ => by simp at hi; simp [hi])).trans (f11.mono (fun i hi _ => by simp at hi; simp [hi]))).trans (f12.mono (fun i hi _ => by simp at hi; simp [hi]))
    have s04 := e04.size
    have L12 : Live H0 (setBlk H11 lp (rc .ready none)) k x2 := L9.keep f912 (fun i hi => by have := L.ext.size; simp at hi; omega) (fun i hi => nall _ (by simp at hi; omega))
    refine ⟨⟨w2, x2, (w2, ws[j]) :: l, L12, RA.cons C9 hr9, ?_, by omega, ?_, ?_, ?_⟩, ?_⟩
    · rw [List.map_cons, hm, show ws.length - (ws.length - j) = j by omega, show ws.length - (ws.length - 1 - j) = j + 1 by omega, ← List.drop_eq_getElem_cons hj]
    · exact fA.trans' ((f8.mono (S' := lp :: b2 :: b3 :: k.all) (fun i hi _ => by simp at hi; simp [hi])).trans ((f9.mono (fun i hi _ => by simp [hi])).trans (f912.mono (fun i hi _ => by simp at hi; rcases hi with h | h | h <;> simp [h])))) (fun i hi _ => hi) (fun i hi hlt => by
        simp at hi; rcases hi with h | h | h | h
        · omega
        · omega
        · omega
        · exact h)
    · have hD := bx9.nth 0 rfl
      have b12 : ∀ {i : Nat} {o : Obj}, H9[i]? = some o → i ≠ b2 → i ≠ b3 → i ≠ lp → (setBlk H11 lp (rc .ready none))[i]? = some o := fun h h1 h2 h3 => f912.get (by simp; omega) h
      exact .cons (setBlk_at q11) (.cons (b12 (bx9.nth 0 rfl) (by omega) (by omega) (by omega)) (.cons (b12 (bx9.nth 1 rfl) (by omega) (by omega) (by omega)) (.cons (f12.get (by simp; omega) (f11.get (by simp; omega) g10)) (.cons (f12.get (by simp; omega) g11) .nil))))
    · have := f8.size; have := f9.size; have := f912.size; omega
    · rw [f912.old p (by have := f8.size; have := f9.size; omega) (by simp; omega), f9.old p (by have := f8.size; omega) (nall _ (by omega)), f8.old p (by omega) (by simp; omega)]
  · rintro A ⟨w, x', l, LA, RA, hm, hj, fA, bx, sA⟩
    refine .inl ⟨bx.head, fun H15 hH15 => ?_⟩
    have f15 : Fr [lp] A H15 := by rw [hH15]; exact Fr.set
    have bx15 := bx.tail.fr f15 (fun q hq => by simp at hq; rcases hq with rfl | rfl | rfl | rfl <;> simp <;> omega)
    refine ⟨w, by rw [hat_blk (bx15.nth 2 rfl)]; rfl, ?_⟩
    obtain ⟨c16, p16⟩ := box_set (vs := [.int .u64 w]) (bx15.nth 2 rfl) rfl rfl
    refine ⟨c16, fun H16 hH16 => ?_⟩
    obtain ⟨g16, f16⟩ := p16 H16 hH16
    obtain ⟨c17, p17⟩ := box_set (vs := [.int .i64 0]) (f16.get (by simp; omega) (bx15.nth 3 rfl)) rfl rfl
    refine ⟨c17, fun H17 hH17 => ?_⟩
    obtain ⟨g17, f17⟩ := p17 H17 hH17
    refine ⟨f17.get (by simp; omega) (f16.get (by simp; omega) (bx15.nth 0 rfl)), ?_⟩
    have fd : Fr [H5.size] H17 (H17.setIfInBounds H5.size (.deferred none)) := Fr.set
    have F : Fr [lp, b2, b3, H5.size] A (H17.setIfInBounds H5.size (.deferred none)) :=
      (((f15.mono (fun i hi _ => by simp at hi; simp [hi])).trans (f16.mono (fun i hi _ => by simp at hi; simp [hi]))).trans (f17.mono (fun i hi _ => by simp at hi; simp [hi]))).trans (fd.mono (fun i hi _ => by simp at hi; simp [hi]))
    have s04 := e04.size
    have nall : ∀ i, H.size ≤ i → i ∉ k.all := fun i hi h => by have := all_lt _ h; omega
    refine ⟨w, by rw [hat_blk (fd.get (by simp; omega) (f17.get (by simp; omega) g16))]; rfl, 0, by rw [hat_blk (fd.get (by simp; omega) g17)]; rfl, hR _ _ ⟨w, x', l, rfl, LA.keep F (fun i hi => by have := L.ext.size; simp at hi; omega) (fun i hi => nall _ (by simp at hi; omega)), RA, by rw [hm]; simp, ?_⟩⟩
    exact fA.trans' F (fun i hi _ => hi) (fun i hi hlt => by simp at hi; omega)
theorem texts_words_c {H0 H : Array Obj} {k : Blk} {x : Hp} {w more : Int} {ws : List Int} (L : Live H0 H k x) (t : Thing x.sp.mem w 1 more ws) :
    texts_words.C (some ⟨k.h, 0, none⟩) w H (fun v H' => ∃ B c, v = .slice B ws.length c ∧ Own H' 35 1 B ws.length c (wvs ws) ∧ (∀ i ∈ blks B, H.size ≤ i) ∧ Ext H H') := by
  have h62 := t.le62
  refine HC.via fun R hR => texts_words.link ?_
  unfold texts_words.pt
  refine HC.mono (obj_Len_c L.view t.word) ?_
  rintro _ H1 ⟨rfl, e1⟩
  rw [show (mof (some (k, x))).len w = (ws.length : Int) from t.len]
  refine ⟨_, rfl, fun B n c i A => ∃ q : Nat, i = q ∧ n = q ∧ q ≤ ws.length ∧ Own A 35 1 B q c (wvs (ws.take q)) ∧ (∀ i ∈ blks B, H.size ≤ i) ∧ Ext H A, fun _ _ _ i _ => (ws.length - i).toNat,
    ⟨0, rfl, rfl, by omega, by simpa [wvs] using own_nil, by simp, e1⟩, ?_⟩
  rintro B n c i A ⟨q, rfl, rfl, hk, how, hy, eA⟩
  by_cases hlt : (n : Int) < (ws.length : Int)
  · rw [if_pos hlt]
    have hlt' : n < ws.length := by omega
    refine HC.mono (live_Get (L.grow eA) t (i := (n : Int)) ⟨by omega, hlt⟩) ?_
    rw [Int.toNat_natCast, getD_at hlt']
    rintro _ H2 ⟨rfl, e2⟩
    refine ⟨_, _, rfl, fun b H3 hb hH3 => ?_⟩
    have e3 : Ext H2 H3 := Ext.push' hH3
    refine own_append (ys := wvs [ws[n]]) (how.ext (e2.trans e3)) (rowAt_blk (push_get hb hH3) _ 0 0 (fun j hj => by simp [wvs])) (by simp [wvs]) (allOne_wvs _) rfl (by omega) ?_
    intro p' c' H4 how4 f4 hnew
    rw [w64 (by omega)]
    have s3 := (e2.trans e3).size
    have sA := eA.size
    refine ⟨⟨n + 1, by omega, rfl, by omega, ?_, fun i hi => ?_, (eA.trans (e2.trans e3)).fr_trans f4 (fun i hi => hy i hi)⟩, by show ((ws.length : Int) - (n + 1)).toNat < ((ws.length : Int) - n).toNat; omega⟩
    · rw [List.take_succ_eq_append_getElem hlt', show wvs (ws.take n ++ [ws[n]]) = wvs (ws.take n) ++ wvs [ws[n]] from List.map_append]
      exact how4
    · rcases hnew i hi with h | h
      · exact hy i h
      · omega
  · rw [if_neg hlt]
    obtain rfl : n = ws.length := by omega
    refine hR _ _ ⟨B, c, rfl, ?_, hy, eA⟩
    rw [List.take_of_length_le (by simp)] at how
    exact how
theorem ofList_vec {H0 H : Array Obj} {k : Blk} {x : Hp} {B : Option Addr} {n c : Nat} {ws : List Int} (L : Live H0 H k x) (he : x.sp.mem.Even) (hsrc : SrcAt H B (wvs ws)) (hn : n = ws.length) (hw : ∀ w ∈ ws, IsWord w) (hl : ws.length ≤ 62) (hf : 1 ≤ x.sp.mem.free) (hc : x.sp.mem.count < 4611686018427387904) :
    texts_ofList.C (some ⟨k.h, 0, none⟩) 31 B n c H (fun v H' => ∃ (w : Int) (x' : Hp), v = .tuple #[.int .u64 w, .int .i64 0] ∧ Live H0 H' k x' ∧ MadeOn x x' w 1 0 ws ∧ Fr k.all H H') := by
  refine HC.via fun R hR => texts_ofList.link ?_
  unfold texts_ofList.pt
  rw [if_pos rfl]
  refine HC.mono (live_Make L he (kind := 1) (more := 0) (by decide) (by decide) hsrc hn hw hl hf hc) ?_
  rintro _ H1 ⟨w, x', rfl, h⟩
  exact ⟨_, _, rfl, hR _ _ ⟨w, x', rfl, h⟩⟩
theorem ofList_str {H0 H : Array Obj} {k : Blk} {x : Hp} {B : Option Addr} {n c : Nat} {rs : List Int} (L : Live H0 H k x) (he : x.sp.mem.Even) (hsrc : SrcAt H B (wvs (rs.map chrW))) (hn : n = rs.length) (hlet : ∀ r ∈ rs, Letter r) (hl : rs.length ≤ 62) (hf : 1 ≤ x.sp.mem.free) (hc : x.sp.mem.count < 4611686018427387904) :
    texts_ofList.C (some ⟨k.h, 0, none⟩) 27 B n c H (fun v H' => ∃ (w : Int) (x' : Hp), v = .tuple #[.int .u64 w, .int .i64 0] ∧ Live H0 H' k x' ∧ MadeOn x x' w 2 0 rs ∧ Fr k.all H H') := by
  subst hn
  refine HC.via fun R hR => texts_ofList.link ?_
  unfold texts_ofList.pt
  rw [if_neg (by decide)]
  refine ⟨fun i A => (0 ≤ i ∧ i ≤ rs.length) ∧ Ext H A, fun i _ => (rs.length - i).toNat, ⟨by omega, Ext.refl _⟩, ?_⟩
  rintro i A ⟨hi, eA⟩
  by_cases hlt : i < (rs.length : Int)
  · rw [if_pos hlt]
    have hlt' : i.toNat < rs.length := by omega
    obtain ⟨a, rfl, hat'⟩ := src_at (hsrc.ext eA) (k := i.toNat) (v := .int .u64 (chrW rs[i.toNat])) (by simp [wvs, hlt'])
    rw [show ((i.toNat : Nat) : Int) = i by omega] at hat'
    obtain ⟨w1, w2, _⟩ := chrW_word (hlet _ (List.getElem_mem hlt'))
    refine ⟨a, rfl, ⟨hi.1, hlt⟩, _, hat', HC.mono (texts_is_chr w1) ?_⟩
    rintro _ A' ⟨rfl, e⟩
    refine ⟨_, rfl, ?_⟩
    rw [if_pos (decide_eq_true w2), w64 (by omega)]
    exact ⟨⟨by omega, eA.trans e⟩, by show ((rs.length : Int) - (i + 1)).toNat < ((rs.length : Int) - i).toNat; omega⟩
  · rw [if_neg hlt]
    refine HC.mono (texts_letters_c (ws := rs.map chrW) (hsrc.ext eA) (by simp) (chrW_words hlet) (by simp; omega)) ?_
    rw [chrW_runes hlet]
    rintro _ A2 ⟨B2, c2, rfl, how, hy, e2⟩
    refine ⟨_, _, _, rfl, HC.mono (live_text (L.grow (eA.trans e2)) he how.src (fun _ => by simp) hlet hl hf hc) ?_⟩
    rintro _ A3 ⟨w, x', rfl, L3, M3, f3⟩
    exact ⟨_, _, rfl, hR _ _ ⟨w, x', rfl, L3, M3, ((eA.trans e2).fr (S := k.all)).trans f3⟩⟩
end Go.Proofs.YthlohokmnajpoaaGreatDoor
