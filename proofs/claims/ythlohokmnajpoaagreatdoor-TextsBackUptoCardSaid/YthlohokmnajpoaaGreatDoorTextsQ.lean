/-
  Texts and lists: what Apply answers for primitives 3, 4, 18, 23, 26, 27, 29, 30, 31. Proves nothing of any one statement.
-/
import Derived.Test.YthlohokmnajpoaaGreatDoorTextsP
set_option linter.unusedVariables false
set_option linter.unusedSimpArgs false
namespace Go.Proofs.YthlohokmnajpoaaGreatDoor
open Go
theorem fix8 {n : Int} (h : 0 ≤ n ∧ n ≤ 1114111) : fixW n = n * 8 := by unfold fixW; omega
set_option maxRecDepth 100000 in
theorem apply_chrInt {H0 H : Array Obj} {k : Blk} {x : Hp} {b : Nat} {r : Int} (L : Live H0 H k x) (hb : H[b]? = some (.cells #[.int .u64 (chrW r)] 35 (0, 0))) (hr : Letter r) :
    texts_Apply.C (some ⟨k.h, 0, none⟩) 3 (some ⟨b, 0, none⟩) 1 1 H (fun v H' => v = .tuple #[.int .u64 (r * 8), .int .i64 0] ∧ Ext H H') := by
  obtain ⟨w1, w2, w3⟩ := chrW_word hr
  obtain ⟨_, b2, b3⟩ := letter_B hr
  refine HC.via fun R hR => texts_Apply.link ?_
  unfold texts_Apply.pt
  rw [onPtr_some]
  refine ⟨_, L.at'.hPtr, ?_⟩
  rw [onPtr_some, if_neg (by decide)]
  refine texts_pre 3 (by decide) rfl rfl (arg1_src hb) rfl (by simp) (fun _ => true) (fun i hi A eA => ?_) no_false fun _ H5 e5 => ?_
  · obtain rfl : i = 0 := by simpa using hi
    refine HC.mono (texts_is_chr w1) ?_
    rintro _ A' ⟨rfl, e⟩
    exact ⟨by rw [decide_eq_true (show isChr [chrW r][0] from w2)], e⟩
  rw [if_neg (by decide), if_neg (by decide), if_pos (by decide)]
  refine ⟨_, rfl, ⟨by decide, by decide⟩, _, arg1_at (e5.get hb), fun b2' H6 hb2 hH6 => ?_⟩
  have e6 : Ext H5 H6 := Ext.push' hH6
  refine HC.mono (texts_letters_c (ws := [chrW r]) (arg1_src (push_get hb2 hH6)) rfl (by simpa using w1) (by simp)) ?_
  rintro _ H7 ⟨B, c, rfl, how, hy, e7⟩
  refine ⟨_, _, _, rfl, ?_⟩
  obtain ⟨a, rfl, ha⟩ := how.at (j := 0) (v := .int .i32 r) (by simp [i32s, w3])
  refine ⟨a, rfl, ⟨by decide, by simp⟩, _, ha, texts_ofChar.link ?_⟩
  unfold texts_ofChar.pt
  rw [if_pos rfl, w64 (n := r) (by omega)]
  refine HC.mono (word_Fix_c (by omega)) ?_
  rw [if_pos (by omega), fix8 (by omega)]
  rintro _ H8 ⟨rfl, e8⟩
  exact ⟨_, _, rfl, _, _, rfl, hR _ _ ⟨rfl, ((e5.trans e6).trans e7).trans e8⟩⟩
set_option maxRecDepth 100000 in
theorem apply_intChr {H0 H : Array Obj} {k : Blk} {x : Hp} {b : Nat} {r : Int} (L : Live H0 H k x) (hb : H[b]? = some (.cells #[.int .u64 (r * 8)] 35 (0, 0))) (hr : Letter r) :
    texts_Apply.C (some ⟨k.h, 0, none⟩) 4 (some ⟨b, 0, none⟩) 1 1 H (fun v H' => v = .tuple #[.int .u64 (chrW r), .int .i64 0] ∧ Ext H H') := by
  obtain ⟨b1, b2, b3⟩ := letter_B hr
  have w1 : IsWord (r * 8) := ⟨by omega, by omega⟩
  refine HC.via fun R hR => texts_Apply.link ?_
  unfold texts_Apply.pt
  rw [onPtr_some]
  refine ⟨_, L.at'.hPtr, ?_⟩
  rw [onPtr_some, if_neg (by decide)]
  refine texts_pre 4 (by decide) rfl rfl (arg1_src hb) rfl (by simp) (fun _ => true) (fun i hi A eA => ?_) no_false fun _ H5 e5 => ?_
  · obtain rfl : i = 0 := by simpa using hi
    refine HC.mono (texts_is_num w1) ?_
    rintro _ A' ⟨rfl, e⟩
    exact ⟨by rw [decide_eq_true (show [r * 8][0] % 8 = 0 by show r * 8 % 8 = 0; omega)], e⟩
  rw [if_neg (by decide), if_pos rfl]
  refine ⟨_, rfl, ⟨by decide, by decide⟩, _, arg1_at (e5.get hb), HC.mono (word_Int_c w1) ?_⟩
  rw [if_pos (by omega)]
  rintro _ H6 ⟨rfl, e6⟩
  refine ⟨_, _, rfl, ?_⟩
  have es : signed (r * 8) / 8 = r := by unfold signed; rw [if_neg (by omega)]; omega
  rw [es, if_neg (show ¬ (1073741824 : Int) < r by omega), if_pos (show (-1 : Int) < r by omega), wi32 (n := r) (by omega)]
  refine HC.mono (word_Char_c (by omega)) ?_
  rw [if_pos ⟨b2, b1⟩]
  rintro _ H7 ⟨rfl, e7⟩
  exact ⟨_, _, rfl, hR _ _ ⟨rfl, (e5.trans e6).trans e7⟩⟩
theorem own_cap {H : Array Obj} {T : TypeId} {sz : Nat} {p : Option Addr} {n c : Nat} {xs : List Value} (h : Own H T sz p n c xs) : n ≤ c := by
  cases p with
  | none => obtain ⟨h1, h2, _⟩ := h; omega
  | some a => obtain ⟨_, cs, _, _, h, _⟩ := h; exact h
set_option maxRecDepth 100000 in
theorem apply_ref {H0 H : Array Obj} {k : Blk} {x : Hp} {b c : Nat} {w more i r : Int} {rs : List Int} (L : Live H0 H k x) (hb : H[b]? = some (.cells #[.int .u64 w, .int .u64 (i * 8)] 35 (0, 0))) (t : Thing x.sp.mem w 2 more rs) (hlet : ∀ r ∈ rs, Letter r)
    (hi : 0 ≤ i) (hr : rs[i.toNat]? = some r) :
    texts_Apply.C (some ⟨k.h, 0, none⟩) 18 (some ⟨b, 0, none⟩) 2 c H (fun v H' => v = .tuple #[.int .u64 (chrW r), .int .i64 0] ∧ Ext H H') := by
  have h62 := t.le62
  have hil : i.toNat < rs.length := by
    rcases Nat.lt_or_ge i.toNat rs.length with h | h
    · exact h
    · rw [List.getElem?_eq_none h] at hr; cases hr
  have hs : strs x.sp.mem [w, i * 8] = [rs] := by rw [strs_cons, if_pos t.typ, t.runes hlet, strs_cons, if_neg num_typ, strs_nil]
  have hsrc : ∀ {A}, Ext H A → SrcAt A (some ⟨b, 0, none⟩) (wvs [w, i * 8]) := fun e => rowAt_blk (e.get hb) _ 0 0 (fun q hq => by simp [wvs])
  have hww := t.word
  have hwi : IsWord (i * 8) := ⟨by omega, by omega⟩
  refine apply_ofText (ws := [w, i * 8]) (by omega) L (hsrc (Ext.refl _)) (by simp) rfl (fun q hq A eA => ?_) (fun A eA => ?_) (fun v A h => ⟨_, _, h.1⟩)
  · have h3 : q = 0 ∨ q = 1 := by simp at hq; omega
    rcases h3 with rfl | rfl
    · refine HC.mono (texts_is_str (L.grow eA).view t.word) ?_
      rintro _ A' ⟨rfl, e⟩
      have : (mof (some (k, x))).typ w = 2 := t.typ
      exact ⟨by rw [show [w, i * 8][0] = w from rfl, this]; rfl, e⟩
    · refine HC.mono (texts_is_num hwi) ?_
      rintro _ A' ⟨rfl, e⟩
      exact okTrue (decide_eq_true (show i * 8 % 8 = 0 by omega)) e
  refine HC.via fun R hR => texts_ofText.link ?_
  unfold texts_ofText.pt
  refine ofText_pre (o := some (k, x)) (L.grow eA).view (hsrc eA) rfl (fun u hu => by simp at hu; rcases hu with rfl | rfl <;> assumption) (by simp) (by rw [show mof (some (k, x)) = x.sp.mem from rfl, hs]; simp; omega) fun allB allC A1 ss how hea hy e1 => ?_
  rw [show mof (some (k, x)) = x.sp.mem from rfl, hs] at how hea ⊢
  rw [if_neg (by decide), if_pos rfl]
  obtain ⟨s, h1, ho, hn, _⟩ := hea.get 0 rfl
  obtain ⟨a, rfl, ha⟩ := how.at (j := 0) (v := slV s) (by rw [List.getElem?_map, h1]; rfl)
  have eb := eA.trans e1
  refine ⟨_, rfl, ⟨by decide, by simp⟩, i * 8, by rw [show Int.toNat 1 * 1 = 1 from rfl, box_get (eb.get hb) 1]; rfl, ?_⟩
  refine HC.mono (texts_number_c (by omega)) ?_
  rintro _ A2 ⟨rfl, e2⟩
  refine ⟨_, rfl, ?_⟩
  have o2 := how.ext e2
  have ha2 : hat A2 (a.add (Int.toNat 0 * 1)) = some (.slice s.1 s.2.1 s.2.2) := by rw [show Int.toNat 0 * 1 = 0 from rfl]; exact own_at0 o2 h1
  rw [if_pos (by omega)]
  refine ⟨a, rfl, ⟨by decide, by simp⟩, _, _, _, ha2, ?_⟩
  rw [hn, if_pos (by omega)]
  obtain ⟨a3, h3, hat3⟩ := src_at (ho.ext e2).src (k := i.toNat) (v := .int .i32 r) (by rw [i32s, List.getElem?_map, hr]; rfl)
  rw [show ((i.toNat : Nat) : Int) = i by omega] at hat3
  have hl := hlet r (List.mem_of_getElem? hr)
  obtain ⟨b1, b2, b3⟩ := letter_B hl
  refine ⟨⟨by decide, by simp⟩, _, _, _, ha2, a3, h3, ⟨hi, by rw [hn]; omega⟩, r, hat3, HC.mono (word_Char_c (by omega)) ?_⟩
  rw [if_pos ⟨b2, b1⟩]
  rintro _ A3 ⟨rfl, e3⟩
  exact ⟨_, _, rfl, hR _ _ ⟨rfl, (eb.trans e2).trans e3⟩⟩
set_option maxRecDepth 100000 in
theorem apply_cut {H0 H : Array Obj} {k : Blk} {x : Hp} {b c : Nat} {w more i j : Int} {rs : List Int} (L : Live H0 H k x) (he : x.sp.mem.Even) (hb : H[b]? = some (.cells #[.int .u64 w, .int .u64 (i * 8), .int .u64 (j * 8)] 35 (0, 0))) (t : Thing x.sp.mem w 2 more rs) (hlet : ∀ r ∈ rs, Letter r)
    (hij : 0 ≤ i ∧ i ≤ j ∧ j ≤ rs.length) (hf : 1 ≤ x.sp.mem.free) (hc : x.sp.mem.count < 4611686018427387904) :
    texts_Apply.C (some ⟨k.h, 0, none⟩) 23 (some ⟨b, 0, none⟩) 3 c H (fun v H' => ∃ (w' : Int) (x' : Hp), v = .tuple #[.int .u64 w', .int .i64 0] ∧ Live H0 H' k x' ∧ MadeOn x x' w' 2 0 ((rs.drop i.toNat).take (j - i).toNat) ∧ Fr k.all H H') := by
  have h62 := t.le62
  have hs : strs x.sp.mem [w, i * 8, j * 8] = [rs] := by rw [strs_cons, if_pos t.typ, t.runes hlet, strs_cons, if_neg num_typ, strs_cons, if_neg num_typ, strs_nil]
  have hsrc : ∀ {A}, Ext H A → SrcAt A (some ⟨b, 0, none⟩) (wvs [w, i * 8, j * 8]) := fun e => rowAt_blk (e.get hb) _ 0 0 (fun q hq => by simp [wvs])
  have hww := t.word
  have hwi : IsWord (i * 8) := ⟨by omega, by omega⟩
  have hwj : IsWord (j * 8) := ⟨by omega, by omega⟩
  refine apply_ofText (ws := [w, i * 8, j * 8]) (by omega) L (hsrc (Ext.refl _)) (by simp) rfl (fun q hq A eA => ?_) (fun A eA => ?_) (fun v A h => by obtain ⟨w', x', h, _⟩ := h; exact ⟨_, _, h⟩)
  · have h3 : q = 0 ∨ q = 1 ∨ q = 2 := by simp at hq; omega
    rcases h3 with rfl | rfl | rfl
    · refine HC.mono (texts_is_str (L.grow eA).view t.word) ?_
      rintro _ A' ⟨rfl, e⟩
      have : (mof (some (k, x))).typ w = 2 := t.typ
      exact ⟨by rw [show [w, i * 8, j * 8][0] = w from rfl, this]; rfl, e⟩
    · refine HC.mono (texts_is_num hwi) ?_
      rintro _ A' ⟨rfl, e⟩
      exact okTrue (decide_eq_true (show i * 8 % 8 = 0 by omega)) e
    · refine HC.mono (texts_is_num hwj) ?_
      rintro _ A' ⟨rfl, e⟩
      exact okTrue (decide_eq_true (show j * 8 % 8 = 0 by omega)) e
  refine HC.via fun R hR => texts_ofText.link ?_
  unfold texts_ofText.pt
  refine ofText_pre (o := some (k, x)) (L.grow eA).view (hsrc eA) rfl (fun u hu => by simp at hu; rcases hu with rfl | rfl | rfl <;> assumption) (by simp) (by rw [show mof (some (k, x)) = x.sp.mem from rfl, hs]; simp; omega) fun allB allC A1 ss how hea hy e1 => ?_
  rw [show mof (some (k, x)) = x.sp.mem from rfl, hs] at how hea ⊢
  rw [if_neg (by decide), if_neg (by decide), if_neg (by decide)]
  refine ⟨fun q A => q = false ∧ A1 = A, by rw [if_neg (by decide), if_neg (by decide)]; exact ⟨rfl, rfl⟩, ?_⟩
  rintro _ A1' ⟨rfl, hA1⟩
  subst hA1
  rw [if_neg (by decide), if_pos rfl]
  obtain ⟨s, h1, ho, hn, _⟩ := hea.get 0 rfl
  obtain ⟨a, rfl, ha⟩ := how.at (j := 0) (v := slV s) (by rw [List.getElem?_map, h1]; rfl)
  have eb := eA.trans e1
  refine ⟨a, rfl, ⟨by decide, by simp⟩, s.1, s.2.1, s.2.2, ha, _, rfl, ⟨by decide, by simp⟩, i * 8, by rw [show Int.toNat 1 * 1 = 1 from rfl, box_get (eb.get hb) 1]; rfl, ⟨by decide, by simp⟩, j * 8, by rw [show Int.toNat 2 * 1 = 2 from rfl, box_get (eb.get hb) 2]; rfl, ?_⟩
  refine HC.mono (texts_number_c (by omega)) ?_
  rintro _ A2 ⟨rfl, e2⟩
  have o2 := how.ext e2
  refine ⟨_, rfl, row1 (by rw [show Int.toNat 0 * 1 = 0 from rfl]; exact own_at0 o2 h1), row1 (by rw [show Int.toNat 2 * 1 = 2 from rfl, box_get ((eb.trans e2).get hb) 2]; rfl), ?_⟩
  refine HC.mono (texts_number_c (by omega)) ?_
  rintro _ A3 ⟨rfl, e3⟩
  refine ⟨_, rfl, row1 (by rw [show Int.toNat 0 * 1 = 0 from rfl]; exact own_at0 (o2.ext e3) h1), ?_⟩
  have e03 := (eb.trans e2).trans e3
  have ho3 := ho.ext (e2.trans e3)
  have hcap : s.2.1 ≤ s.2.2 := by rw [hn]; exact own_cap ho
  have hus : ∀ r ∈ (rs.drop i.toNat).take (j - i).toNat, Letter r := fun r hr => hlet r (List.mem_of_mem_drop (List.mem_of_mem_take hr))
  have hul : ((rs.drop i.toNat).take (j - i).toNat).length = (j - i).toNat := by rw [List.length_take, List.length_drop]; omega
  refine HC.mono (R := fun v H' => ∃ (w' : Int) (x' : Hp), v = .tuple #[.int .u64 w', .int .i64 0] ∧ Live H0 H' k x' ∧ MadeOn x x' w' 2 0 ((rs.drop i.toNat).take (j - i).toNat) ∧ Fr k.all A3 H') (HC.via fun R2 hR2 => texts_cut.link ?_) ?_
  · unfold texts_cut.pt
    rw [if_neg (by rw [hn, Bool.or_eq_true, Bool.or_eq_true, decide_eq_true_eq, decide_eq_true_eq, decide_eq_true_eq]; omega)]
    refine ⟨i.toNat, j.toNat, by omega, by omega, by omega, by omega, fun sl hsl => ?_⟩
    have hsrc3 : SrcAt A3 sl (i32s ((rs.drop i.toNat).take (j - i).toNat)) := by
      have h3 := ho3.src
      have he' : ((i32s rs).drop i.toNat).take (i32s ((rs.drop i.toNat).take (j - i).toNat)).length = i32s ((rs.drop i.toNat).take (j - i).toNat) := by
        unfold i32s
        rw [List.length_map, hul, ← List.map_drop, ← List.map_take]
      subst hsl
      by_cases hcl : s.2.2 = i.toNat
      · rw [if_pos hcl]
        have h0 : (j - i).toNat = 0 := by omega
        rw [h0, List.take_zero]
        cases hs1 : s.1 with
        | none => rfl
        | some a1 => exact trivial
      · rw [if_neg hcl]
        cases hs1 : s.1 with
        | none =>
          rw [hs1] at h3
          have h4 : i32s rs = [] := h3
          show i32s _ = []
          rw [← he', h4]; simp
        | some a1 =>
          rw [hs1] at h3
          have h5 := RowAt.sub (us := i32s ((rs.drop i.toNat).take (j - i).toNat)) i.toNat h3 he'
          show RowAt A3 (a1.add (i.toNat * 1)) 0 _
          rw [Nat.mul_one]; exact h5
    refine HC.mono (live_text (L.grow e03) he hsrc3 (fun _ => by rw [hul]; omega) hus (by rw [hul]; omega) hf hc) ?_
    rintro _ A4 ⟨w', x', rfl, h⟩
    exact ⟨_, _, rfl, hR2 _ _ ⟨w', x', rfl, h⟩⟩
  rintro _ A4 ⟨w', x', rfl, L4, M4, f4⟩
  exact ⟨_, _, rfl, hR _ _ ⟨w', x', rfl, L4, M4, (e03.fr (S := k.all)).trans f4⟩⟩
set_option maxRecDepth 100000 in
theorem apply_toList {H0 H : Array Obj} {k : Blk} {x : Hp} {b c : Nat} {w more : Int} {rs : List Int} (L : Live H0 H k x) (he : x.sp.mem.Even) (hb : H[b]? = some (.cells #[.int .u64 w] 35 (0, 0))) (t : Thing x.sp.mem w 2 more rs) (hlet : ∀ r ∈ rs, Letter r)
    (hr : rs.length ≤ x.sp.room) (hc : x.sp.mem.count < 1000000000) :
    texts_Apply.C (some ⟨k.h, 0, none⟩) 26 (some ⟨b, 0, none⟩) 1 c H (fun v H' => ∃ (w' : Int) (x' : Hp) (l : List (Int × Int)), v = .tuple #[.int .u64 w', .int .i64 0] ∧ Live H0 H' k x' ∧ RowAs x x' w' 20 l ∧ l.map (·.2) = rs.map chrW ∧ Fr k.all H H') := by
  have h62 := t.le62
  have hs : strs x.sp.mem [w] = [rs] := by rw [strs_cons, if_pos t.typ, t.runes hlet, strs_nil]
  refine apply_ofText (ws := [w]) (by omega) L (arg1_src hb) (by simp) rfl (fun i hi A eA => ?_) (fun A eA => ?_) (fun v A h => by obtain ⟨w', x', l, h, _⟩ := h; exact ⟨_, _, h⟩)
  · obtain rfl : i = 0 := by simpa using hi
    refine HC.mono (texts_is_str (L.grow eA).view t.word) ?_
    rintro _ A' ⟨rfl, e⟩
    have : (mof (some (k, x))).typ w = 2 := t.typ
    exact ⟨by rw [show [w][0] = w from rfl, this]; rfl, e⟩
  refine HC.via fun R hR => texts_ofText.link ?_
  unfold texts_ofText.pt
  refine ofText_pre (o := some (k, x)) (L.grow eA).view ((arg1_src hb).ext eA) rfl (by simpa using t.word) (by simp) (by rw [show mof (some (k, x)) = x.sp.mem from rfl, hs]; simp; omega) fun allB allC A1 ss how hea hy e1 => ?_
  rw [show mof (some (k, x)) = x.sp.mem from rfl, hs] at how hea ⊢
  rw [if_neg (by decide), if_neg (by decide), if_neg (by decide)]
  refine ⟨fun q A => q = false ∧ A1 = A, by rw [if_neg (by decide), if_neg (by decide)]; exact ⟨rfl, rfl⟩, ?_⟩
  rintro _ A1' ⟨rfl, hA1⟩
  subst hA1
  rw [if_neg (by decide), if_neg (by decide), if_pos rfl]
  obtain ⟨s, h1, ho, hn, _⟩ := hea.get 0 rfl
  obtain ⟨a, rfl, ha⟩ := how.at (j := 0) (v := slV s) (by rw [List.getElem?_map, h1]; rfl)
  refine ⟨a, rfl, ⟨by decide, by simp⟩, s.1, s.2.1, s.2.2, ha, HC.mono (texts_chars_c ho.src hn hlet (by omega)) ?_⟩
  rintro _ A2 ⟨B, c2, rfl, how2, hy2, e2⟩
  have e02 := (eA.trans e1).trans e2
  have L2 := L.grow e02
  refine ⟨_, _, _, rfl, HC.mono (texts_row_c L2 he how2.src (by simp) (fun i hi h => by have := hy2 i hi; have := L.at'.lt i h; have := (eA.trans e1).size; omega) (chrW_words hlet) (by simpa using hr) (by simp; omega) (by simp; omega)) ?_⟩
  rintro _ A3 ⟨w', x', l, rfl, L3, R3, hm, f3⟩
  exact ⟨_, _, rfl, hR _ _ ⟨w', x', l, rfl, L3, R3, hm, (e02.fr (S := k.all)).trans f3⟩⟩
theorem rowAs_chain {x x' : Hp} {m : Mem} {w : Int} {l : List (Int × Int)} (h : RowAs x x' w 20 l) (k : Keep x'.sp.mem m) : Chain m w l 20 := by
  have := (h.links.keep k).chain (chain_nil m)
  rwa [List.append_nil] at this
set_option maxRecDepth 100000 in
theorem apply_list {H0 H : Array Obj} {k : Blk} {x : Hp} {b c : Nat} {n w : Int} {l : List (Int × Int)} {Q : Value → Array Obj → Prop} (hn : n = 27 ∨ n = 31) (L : Live H0 H k x) (hb : H[b]? = some (.cells #[.int .u64 w] 35 (0, 0))) (hch : Chain x.sp.mem w l 20) (hl : l.length ≤ 30000)
    (h : ∀ A B cB, Ext H A → Own A 35 1 B l.length cB (wvs (l.map (·.2))) → texts_ofList.C (some ⟨k.h, 0, none⟩) n B l.length cB A Q) (hQ : ∀ v A, Q v A → ∃ (ra rb : Int), v = .tuple #[.int .u64 ra, .int .i64 rb]) :
    texts_Apply.C (some ⟨k.h, 0, none⟩) n (some ⟨b, 0, none⟩) 1 c H Q := by
  have hw := hch.word
  have hn' : n = ((n.toNat : Nat) : Int) := by omega
  have hn3 : n.toNat = 27 ∨ n.toNat = 31 := by omega
  have hbad : bad23 n.toNat 1 = false := by rcases hn3 with h | h <;> rw [h] <;> rfl
  have hkd : kind23 n.toNat 0 = 6 := by rcases hn3 with h | h <;> rw [h] <;> rfl
  refine HC.via fun R hR => texts_Apply.link ?_
  unfold texts_Apply.pt
  rw [onPtr_some]
  refine ⟨_, L.at'.hPtr, ?_⟩
  have hrange : ((decide (n < 0)) || (decide (n ≥ 32))) = false := by rw [decide_eq_false (by omega), decide_eq_false (by omega)]; rfl
  rw [onPtr_some, hrange, if_neg (by decide)]
  refine texts_pre n.toNat (by omega) hn' hbad (arg1_src hb) rfl (by simp) (fun _ => true) (fun i hi A eA => ?_) no_false fun _ H5 e5 => ?_
  · obtain rfl : i = 0 := by simpa using hi
    rw [hkd]
    refine HC.mono (texts_is_list (o := some (k, x)) (w := w) (L.grow eA).view hch hl) ?_
    rintro _ A' ⟨rfl, e⟩
    exact ⟨by rw [decide_eq_true rfl], e⟩
  have h27 : ((n == 27) || (n == 31)) = true := by rw [Bool.or_eq_true, beq_iff_eq, beq_iff_eq]; exact hn
  rw [if_neg (by omega), if_neg (by omega), if_neg (by omega), if_neg (by omega), if_neg (by omega), if_neg (by omega), if_neg (by omega), if_pos h27]
  refine ⟨_, rfl, ⟨by decide, by decide⟩, _, arg1_at (e5.get hb), HC.mono (lists_List_c (o := some (k, x)) (L.grow e5).view hch hl) ?_⟩
  rintro _ H6 ⟨e6, ⟨hno, _⟩ | ⟨_, B, cB, rfl, how, hy⟩⟩
  · exact absurd rfl hno
  refine ⟨_, _, _, _, rfl, HC.mono (h H6 B cB (e5.trans e6) how) ?_⟩
  intro v A hv
  obtain ⟨ra, rb, rfl⟩ := hQ v A hv
  exact ⟨ra, rb, rfl, hR _ _ hv⟩
theorem apply_ofChars {H0 H : Array Obj} {k : Blk} {x : Hp} {b c : Nat} {w : Int} {l : List (Int × Int)} {rs : List Int} (L : Live H0 H k x) (he : x.sp.mem.Even) (hb : H[b]? = some (.cells #[.int .u64 w] 35 (0, 0))) (hch : Chain x.sp.mem w l 20) (hm : l.map (·.2) = rs.map chrW) (hlet : ∀ r ∈ rs, Letter r) (hl : rs.length ≤ 62) (hf : 1 ≤ x.sp.mem.free) (hc : x.sp.mem.count < 4611686018427387904) :
    texts_Apply.C (some ⟨k.h, 0, none⟩) 27 (some ⟨b, 0, none⟩) 1 c H (fun v H' => ∃ (w : Int) (x' : Hp), v = .tuple #[.int .u64 w, .int .i64 0] ∧ Live H0 H' k x' ∧ MadeOn x x' w 2 0 rs ∧ Fr k.all H H') := by
  have hll : l.length = rs.length := by have := congrArg List.length hm; simpa using this
  refine apply_list (.inl rfl) L hb hch (by omega) (fun A B cB eA how => ?_) (fun v A h => by obtain ⟨w', x', h, _⟩ := h; exact ⟨_, _, h⟩)
  rw [hm] at how
  refine HC.mono (ofList_str (L.grow eA) he how.src hll hlet hl hf hc) ?_
  rintro v A' ⟨w', x', h1, h2, h3, h4⟩
  exact ⟨w', x', h1, h2, h3, (eA.fr (S := k.all)).trans h4⟩
theorem apply_toVec {H0 H : Array Obj} {k : Blk} {x : Hp} {b c : Nat} {w : Int} {l : List (Int × Int)} {ws : List Int} (L : Live H0 H k x) (he : x.sp.mem.Even) (hb : H[b]? = some (.cells #[.int .u64 w] 35 (0, 0))) (hch : Chain x.sp.mem w l 20) (hm : l.map (·.2) = ws) (hw : ∀ w ∈ ws, IsWord w) (hl : ws.length ≤ 62) (hf : 1 ≤ x.sp.mem.free) (hc : x.sp.mem.count < 4611686018427387904) :
    texts_Apply.C (some ⟨k.h, 0, none⟩) 31 (some ⟨b, 0, none⟩) 1 c H (fun v H' => ∃ (w : Int) (x' : Hp), v = .tuple #[.int .u64 w, .int .i64 0] ∧ Live H0 H' k x' ∧ MadeOn x x' w 1 0 ws ∧ Fr k.all H H') := by
  have hll : l.length = ws.length := by have := congrArg List.length hm; simpa using this
  refine apply_list (.inr rfl) L hb hch (by omega) (fun A B cB eA how => ?_) (fun v A h => by obtain ⟨w', x', h, _⟩ := h; exact ⟨_, _, h⟩)
  rw [hm] at how
  refine HC.mono (ofList_vec (L.grow eA) he how.src hll hw hl hf hc) ?_
  rintro v A' ⟨w', x', h1, h2, h3, h4⟩
  exact ⟨w', x', h1, h2, h3, (eA.fr (S := k.all)).trans h4⟩
set_option maxRecDepth 100000 in
theorem apply_fromVec {H0 H : Array Obj} {k : Blk} {x : Hp} {b c : Nat} {w more : Int} {ws : List Int} (L : Live H0 H k x) (he : x.sp.mem.Even) (hb : H[b]? = some (.cells #[.int .u64 w] 35 (0, 0))) (t : Thing x.sp.mem w 1 more ws) (hw : ∀ w ∈ ws, IsWord w) (hr : ws.length ≤ x.sp.room) (hc : x.sp.mem.count < 1000000000) :
    texts_Apply.C (some ⟨k.h, 0, none⟩) 30 (some ⟨b, 0, none⟩) 1 c H (fun v H' => ∃ (w' : Int) (x' : Hp) (l : List (Int × Int)), v = .tuple #[.int .u64 w', .int .i64 0] ∧ Live H0 H' k x' ∧ RowAs x x' w' 20 l ∧ l.map (·.2) = ws ∧ Fr k.all H H') := by
  have h62 := t.le62
  refine HC.via fun R hR => texts_Apply.link ?_
  unfold texts_Apply.pt
  rw [onPtr_some]
  refine ⟨_, L.at'.hPtr, ?_⟩
  rw [onPtr_some, if_neg (by decide)]
  refine texts_pre 30 (by decide) rfl rfl (arg1_src hb) rfl (by simp) (fun _ => true) (fun i hi A eA => ?_) no_false fun _ H5 e5 => ?_
  · obtain rfl : i = 0 := by simpa using hi
    refine HC.mono (texts_is_vec (L.grow eA).view t.word) ?_
    rintro _ A' ⟨rfl, e⟩
    have : (mof (some (k, x))).typ w = 1 := t.typ
    exact ⟨by rw [show [w][0] = w from rfl, this]; rfl, e⟩
  rw [if_neg (by decide), if_neg (by decide), if_neg (by decide), if_neg (by decide), if_neg (by decide), if_neg (by decide), if_neg (by decide), if_neg (by decide), if_pos rfl]
  refine ⟨_, rfl, ⟨by decide, by decide⟩, _, arg1_at (e5.get hb), HC.mono (texts_words_c (L.grow e5) t) ?_⟩
  rintro _ H6 ⟨B, cB, rfl, how, hy, e6⟩
  have e56 := e5.trans e6
  refine ⟨_, _, _, rfl, HC.mono (texts_row_c (L.grow e56) he how.src rfl (fun i hi h => by have := hy i hi; have := L.at'.lt i h; have := e5.size; omega) hw hr (by omega) (by omega)) ?_⟩
  rintro _ H7 ⟨w', x', l, rfl, L7, R7, hm, f7⟩
  exact ⟨_, _, rfl, hR _ _ ⟨w', x', l, rfl, L7, R7, hm, (e56.fr (S := k.all)).trans f7⟩⟩
theorem texts_is_sym {H : Array Obj} {hvA : Addr} {o : Option (Blk × Hp)} {w : Int} (V : View H (some hvA) o) (hw : IsWord w) : texts_is.C (some hvA) w 5 H (fun v H' => v = .bool ((nameR (mof o) w).2 == 0) ∧ Ext H H') := by
  refine HC.via fun R hR => texts_is.link ?_
  unfold texts_is.pt
  rw [if_neg (by decide), if_neg (by decide), if_neg (by decide), if_neg (by decide), if_pos rfl]
  refine HC.mono (syms_Name_c V hw) ?_
  rintro _ H1 ⟨rfl, e1⟩
  exact ⟨_, _, rfl, hR _ _ ⟨rfl, e1⟩⟩
set_option maxRecDepth 100000 in
theorem apply_name {H0 H : Array Obj} {k : Blk} {x : Hp} {b c : Nat} {w : Int} {rs : List Int} (L : Live H0 H k x) (he : x.sp.mem.Even) (hb : H[b]? = some (.cells #[.int .u64 w] 35 (0, 0))) (hw : IsWord w) (hnm : nameR x.sp.mem w = (runesStr rs, 0)) (hlet : ∀ r ∈ rs, Letter r) (hl : rs.length ≤ 62) (hf : 1 ≤ x.sp.mem.free) (hc : x.sp.mem.count < 4611686018427387904) :
    texts_Apply.C (some ⟨k.h, 0, none⟩) 29 (some ⟨b, 0, none⟩) 1 c H (fun v H' => ∃ (w : Int) (x' : Hp), v = .tuple #[.int .u64 w, .int .i64 0] ∧ Live H0 H' k x' ∧ MadeOn x x' w 2 0 rs ∧ Fr k.all H H') := by
  have hm : mof (some (k, x)) = x.sp.mem := rfl
  have hrr := runesOf_runesStr hlet
  refine HC.via fun R hR => texts_Apply.link ?_
  unfold texts_Apply.pt
  rw [onPtr_some]
  refine ⟨_, L.at'.hPtr, ?_⟩
  rw [onPtr_some, if_neg (by decide)]
  refine texts_pre 29 (by decide) rfl rfl (arg1_src hb) rfl (by simp) (fun _ => true) (fun i hi A eA => ?_) no_false fun _ H5 e5 => ?_
  · obtain rfl : i = 0 := by simpa using hi
    refine HC.mono (texts_is_sym (L.grow eA).view hw) ?_
    rw [show [w][0] = w from rfl, hm, hnm]
    rintro _ A' ⟨rfl, e⟩
    exact ⟨rfl, e⟩
  rw [if_neg (by decide), if_neg (by decide), if_neg (by decide), if_neg (by decide), if_neg (by decide), if_neg (by decide), if_pos rfl]
  refine ⟨_, rfl, ⟨by decide, by decide⟩, _, arg1_at (e5.get hb), HC.mono (syms_Name_c (L.grow e5).view hw) ?_⟩
  rw [hm, hnm]
  rintro _ H6 ⟨rfl, e6⟩
  have e56 := e5.trans e6
  refine ⟨_, _, rfl, HC.mono (live_String (L.grow e56) he (s := runesStr rs) (by rw [hrr]; exact hl) hf hc) ?_⟩
  rw [hrr]
  rintro _ H7 ⟨w', x', rfl, L7, M7, f7⟩
  exact ⟨_, _, rfl, hR _ _ ⟨w', x', rfl, L7, M7, (e56.fr (S := k.all)).trans f7⟩⟩
end Go.Proofs.YthlohokmnajpoaaGreatDoor
