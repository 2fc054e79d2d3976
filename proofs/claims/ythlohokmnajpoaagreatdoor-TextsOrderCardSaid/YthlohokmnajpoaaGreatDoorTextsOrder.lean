/-
  TextsOrder: of any two strings just one of the three is so; a string is the same as its copy, and stands ahead of itself with one more character. No condition.
-/
import Derived.Test.YthlohokmnajpoaaGreatDoorTextsO
import Derived.Test.YthlohokmnajpoaaGreatDoorLaws23
import Derived.Test.YthlohokmnajpoaaGreatDoorLaw
import Derived.Test.YthlohokmnajpoaaGreatDoorRead
import Derived.Test.YthlohokmnajpoaaGreatDoorL23text
import Derived.Test.YthlohokmnajpoaaGreatDoorL23TextsOrder
import Derived.Test.YthlohokmnajpoaaGreatDoorLawL
import Derived.Test.YthlohokmnajpoaaGreatDoorTie
import Derived.Test.YthlohokmnajpoaaGreatDoorCards
set_option linter.unusedVariables false
set_option linter.unusedSimpArgs false
namespace Go.Proofs.YthlohokmnajpoaaGreatDoor.textsOrder
open Go Go.Proofs.YthlohokmnajpoaaGreatDoor
open Go.ChangeShapes Go.WideShapes Go.ChangeAt Go.RowKit

theorem does_order {H0 H : Array Obj} {k : Blk} {x : Hp} {b N c : Nat} {n : Int} {ws : List Int} {rss : List (List Int)} (hn : n = 20 ∨ n = 21 ∨ n = 22) (L : Live H0 H k x) (hb : H[b]? = some (.cells (wvs ws).toArray 35 (0, 0))) (hN : N = ws.length) (hl0 : 0 < ws.length) (hl : ws.length ≤ 1000) (hw : ∀ w ∈ ws, IsWord w ∧ x.sp.mem.typ w = 2)
    (hs : strs x.sp.mem ws = rss) (hrl : ∀ r ∈ rss, r.length ≤ 1000000) :
    morainelaw23_does.C (some ⟨k.h, 0, none⟩) n (some ⟨b, 0, none⟩) N c H (fun v H' => v = .tuple #[.int .u64 (truthW (risesB n rss)), .bool true] ∧ Ext H H') := by
  subst hN
  have hsrc : SrcAt H (some ⟨b, 0, none⟩) (wvs ws) := rowAt_blk hb _ 0 0 (fun j hj => by simp)
  refine HC.mono (does23_c (Q := fun ra rb H' => ra = truthW (risesB n rss) ∧ rb = 0 ∧ Ext H H') (HC.mono (apply_order hn L hsrc hl0 hl hw hs hrl) (fun v A h => ⟨_, _, h.1, rfl, rfl, h.2⟩))) ?_
  rintro _ A ⟨ra, rb, rfl, rfl, rfl, e⟩
  exact ⟨rfl, e⟩
theorem text23_c {H : Array Obj} {hv : Option Addr} {o : Option (Blk × Hp)} {w more : Int} {rs : List Int} (V : View H hv o) (t : Thing (mof o) w 2 more rs) :
    morainelaw23_text.C hv w H (fun v H' => v = .string (wordsText rs) ∧ Ext H H') := by
  refine HC.via fun R hR => morainelaw23_text.link ?_
  unfold morainelaw23_text.pt
  refine HC.mono (obj_Text_c V t.word) ?_
  rw [if_pos ⟨t.obj, t.typ⟩, t.words]
  rintro _ H1 ⟨rfl, e⟩
  exact ⟨_, _, rfl, hR _ _ ⟨rfl, e⟩⟩
theorem truthW_12 (b : Bool) : (truthW b == 12) = b := by cases b <;> rfl
theorem truthW_inj {a b : Bool} (h : a = b) : (truthW a != truthW b) = false := by subst h; simp
def cntB (l : List Bool) : Int := ((l.filter id).length : Int)
theorem cntB_snoc (l : List Bool) (b : Bool) : cntB (l ++ [b]) = cntB l + (if b = true then 1 else 0) := by unfold cntB; cases b <;> simp
theorem just_one (a b : List Int) : cntB [risesB 20 [a, b], risesB 21 [a, b], risesB 22 [a, b]] = 1 := by
  simp only [risesB, standsB, Bool.and_true]
  generalize cmpL a b = o
  show cntB [(o == 0), decide (o < 0), decide (o > 0)] = 1
  rcases Int.lt_trichotomy o 0 with h | h | h
  · rw [beq_eq_false_iff_ne.2 (by omega), decide_eq_true h, decide_eq_false (by omega)]; rfl
  · subst h; rfl
  · rw [beq_eq_false_iff_ne.2 (by omega), decide_eq_false (by omega), decide_eq_true h]; rfl
theorem rises_turned (a b : List Int) : risesB 22 [b, a] = risesB 21 [a, b] := by
  simp only [risesB, standsB, Bool.and_true]
  rw [cmpL_anti a b]
  show decide (-cmpL a b > 0) = decide (cmpL a b < 0)
  exact decide_eq_decide.2 (by omega)
theorem rises_self (a : List Int) : risesB 20 [a, a, a] = true := by
  simp only [risesB, standsB, Bool.and_true, cmpL_self]; rfl
theorem rises_ahead (a : List Int) (r : Int) : risesB 21 [a, a ++ [r]] = true := by
  simp only [risesB, standsB, Bool.and_true, cmpL_snoc]; rfl
theorem rises_same (a b : List Int) : risesB 20 [a, b] = decide (a = b) := by
  simp only [risesB, standsB, Bool.and_true]
  show (cmpL a b == 0) = _
  by_cases h : a = b
  · subst h; rw [cmpL_self, decide_eq_true rfl]; rfl
  · rw [decide_eq_false h, beq_eq_false_iff_ne.2 (fun h0 => h (cmpL_eq a b h0))]
theorem strs2 {m : Mem} {a b ka kb : Int} {ra rb : List Int} (ta : Thing m a 2 ka ra) (tb : Thing m b 2 kb rb) (ha : ∀ r ∈ ra, Letter r) (hb : ∀ r ∈ rb, Letter r) : strs m [a, b] = [ra, rb] := by
  rw [strs_cons, if_pos ta.typ, ta.runes ha, strs_cons, if_pos tb.typ, tb.runes hb, strs_nil]
theorem strs3 {m : Mem} {a b c ka kb kc : Int} {ra rb rc : List Int} (ta : Thing m a 2 ka ra) (tb : Thing m b 2 kb rb) (tc : Thing m c 2 kc rc) (ha : ∀ r ∈ ra, Letter r) (hb : ∀ r ∈ rb, Letter r) (hc : ∀ r ∈ rc, Letter r) : strs m [a, b, c] = [ra, rb, rc] := by
  rw [strs_cons, if_pos ta.typ, ta.runes ha, strs2 tb tc hb hc]

set_option maxRecDepth 100000 in
theorem law (s tv : ByteArray) (more : Int) (H : Array Obj) : morainelaw23_TextsOrder.C s tv more H (fun v H' => v = .bool true ∧ Ext H H') := by
  refine HC.via fun R hR => morainelaw23_TextsOrder.link ?_
  unfold morainelaw23_TextsOrder.pt
  refine HC.mono (obj_New_c ⟨by decide, by decide⟩) ?_
  rintro _ H1 (⟨hno, _⟩ | ⟨_, k, x, rfl, V1, hx, e1, hy⟩)
  · exact absurd ⟨by decide, by decide⟩ hno
  have L1 : Live H H1 k x := ⟨V1.inv.2.1, V1.inv.2.2, e1, hy⟩
  have hc : x.sp.mem.count = 0 := by subst hx; rfl
  have hv : x.sp.mem.Even := by subst hx; exact even_fresh _
  have hf : x.sp.mem.free = 60 := by subst hx; rfl
  clear hx V1
  refine ⟨_, _, rfl, ?_⟩
  rw [if_pos rfl]
  have aw : ∀ A, Ext H A → ∀ (R2 : Array Obj → Prop), (∀ A', Ext H A' → R2 A') → morainelaw23_awake.C A (fun v A' => ∃ q : Bool, v = .bool q ∧ q = true ∧ R2 A') := fun A eA R2 h2 => by
    refine HC.mono awake23_c ?_
    rintro _ A' ⟨rfl, e⟩
    exact ⟨_, rfl, rfl, h2 _ (eA.trans e)⟩
  by_cases h1 : (s.size : Int) > 1000
  · rw [if_pos h1]
    refine ⟨fun q A => q = true ∧ Ext H A, by rw [if_pos rfl]; exact aw H1 e1 _ (fun _ e => e), ?_⟩
    rintro _ A ⟨rfl, e⟩
    exact hR _ _ ⟨rfl, e⟩
  rw [if_neg h1]
  by_cases h2 : (tv.size : Int) > 1000
  · rw [if_pos h2]
    refine ⟨fun q A => q = true ∧ Ext H A, by rw [if_pos rfl]; exact aw H1 e1 _ (fun _ e => e), ?_⟩
    rintro _ A ⟨rfl, e⟩
    exact hR _ _ ⟨rfl, e⟩
  rw [if_neg h2]
  refine torunes_in (by omega) fun c6 b6 H6 hb6 o6 e6 => ?_
  by_cases h3 : ((runesOf s).length : Int) ≥ 62
  · rw [if_pos h3]
    refine ⟨fun q A => q = true ∧ Ext H A, by rw [if_pos rfl]; exact aw H6 (e1.trans e6) _ (fun _ e => e), ?_⟩
    rintro _ A ⟨rfl, e⟩
    exact hR _ _ ⟨rfl, e⟩
  rw [if_neg h3]
  refine torunes_in (by omega) fun c9 b9 H9 hb9 o9 e9 => ?_
  by_cases h4 : ((runesOf tv).length : Int) ≥ 62
  · rw [if_pos h4]
    refine ⟨fun q A => q = true ∧ Ext H A, by rw [if_pos rfl]; exact aw H9 ((e1.trans e6).trans e9) _ (fun _ e => e), ?_⟩
    rintro _ A ⟨rfl, e⟩
    exact hR _ _ ⟨rfl, e⟩
  rw [if_neg h4]
  have L9 := L1.grow (e6.trans e9)
  have la := runesOf_letter s
  have lb := runesOf_letter tv
  refine HC.mono (live_String L9 hv (s := s) (by omega) (by omega) (by omega)) ?_
  rintro _ H12 ⟨wa, x2, rfl, L2, M2, f2⟩
  have c2 := M2.made.count
  have r2 := M2.made.free
  refine ⟨_, _, rfl, ?_⟩
  refine HC.mono (live_String L2 M2.even (s := tv) (by omega) (by omega) (by omega)) ?_
  rintro _ H13 ⟨wb, x3, rfl, L3, M3, f3⟩
  have c3 := M3.made.count
  have r3 := M3.made.free
  have ta := M2.thing.keep L2.n64 M3.made.keep
  have tb := M3.thing
  refine ⟨_, _, rfl, fun b14 H14 hb14 hH14 => ?_⟩
  have L14 := L3.grow (Ext.push' hH14)
  have hab : ∀ w ∈ [wa, wb], IsWord w ∧ x3.sp.mem.typ w = 2 := fun w hw => by
    simp at hw; rcases hw with rfl | rfl
    · exact ⟨ta.word, ta.typ⟩
    · exact ⟨tb.word, tb.typ⟩
  have hba : ∀ w ∈ [wb, wa], IsWord w ∧ x3.sp.mem.typ w = 2 := fun w hw => hab w (by simp at hw ⊢; omega)
  have hsab := strs2 ta tb la lb
  have hsba := strs2 tb ta lb la
  have hr2 : ∀ r ∈ [runesOf s, runesOf tv], r.length ≤ 1000000 := fun r hr => by simp at hr; rcases hr with rfl | rfl <;> omega
  have hr2' : ∀ r ∈ [runesOf tv, runesOf s], r.length ≤ 1000000 := fun r hr => by simp at hr; rcases hr with rfl | rfl <;> omega
  refine HC.mono (does_order (ws := [wa, wb]) (.inl rfl) L14 (push_get hb14 hH14) rfl (by simp) (by simp) hab hsab hr2) ?_
  rintro _ H15 ⟨rfl, e15⟩
  refine ⟨_, _, rfl, fun b16 H16 hb16 hH16 => ?_⟩
  have L16 := (L14.grow e15).grow (Ext.push' hH16)
  refine HC.mono (does_order (ws := [wa, wb]) (.inr (.inl rfl)) L16 (push_get hb16 hH16) rfl (by simp) (by simp) hab hsab hr2) ?_
  rintro _ H17 ⟨rfl, e17⟩
  refine ⟨_, _, rfl, fun b18 H18 hb18 hH18 => ?_⟩
  have L18 := (L16.grow e17).grow (Ext.push' hH18)
  refine HC.mono (does_order (ws := [wa, wb]) (.inr (.inr rfl)) L18 (push_get hb18 hH18) rfl (by simp) (by simp) hab hsab hr2) ?_
  rintro _ H19 ⟨rfl, e19⟩
  refine ⟨_, _, rfl, ?_⟩
  rw [if_neg (by decide)]
  intro b20 H20 hb20 hH20
  have g20 := push_get hb20 hH20
  have hone := just_one (runesOf s) (runesOf tv)
  have htur := rises_turned (runesOf s) (runesOf tv)
  have hsam := rises_same (runesOf s) (runesOf tv)
  generalize hq0 : risesB 20 [runesOf s, runesOf tv] = q0 at *
  generalize hq1 : risesB 21 [runesOf s, runesOf tv] = q1 at *
  generalize hq2 : risesB 22 [runesOf s, runesOf tv] = q2 at *
  have L20 := (L18.grow e19).grow (Ext.push' hH20)
  refine ⟨fun nv i A => ∃ j : Nat, i = j ∧ j ≤ 3 ∧ nv = cntB ([q0, q1, q2].take j) ∧ H20 = A, fun _ i _ => (3 - i).toNat, ⟨0, rfl, by omega, rfl, rfl⟩, ?_⟩
  rintro nv i A ⟨j, rfl, hj, rfl, hA⟩
  subst hA
  by_cases hlt : (j : Int) < 3
  · rw [if_pos hlt]
    have hj3 : j < [q0, q1, q2].length := by simp; omega
    have hsrc : SrcAt H20 (some ⟨b20, 0, none⟩) (wvs ([q0, q1, q2].map truthW)) := rowAt_blk g20 _ 0 0 (fun j hj => by simp [wvs])
    obtain ⟨a, ha, hat'⟩ := src_at hsrc (k := j) (v := .int .u64 (truthW [q0, q1, q2][j])) (by rw [wvs, List.getElem?_map, List.getElem?_map, List.getElem?_eq_getElem hj3]; rfl)
    obtain rfl := Option.some.inj ha
    have hst : cntB ([q0, q1, q2].take (j + 1)) = cntB ([q0, q1, q2].take j) + (if [q0, q1, q2][j] = true then 1 else 0) := by rw [List.take_succ_eq_append_getElem hj3, cntB_snoc]
    have hcb : 0 ≤ cntB ([q0, q1, q2].take j) ∧ cntB ([q0, q1, q2].take j) ≤ 3 := by
      unfold cntB
      have h1 := List.length_filter_le id ([q0, q1, q2].take j)
      have h2 : ([q0, q1, q2].take j).length ≤ 3 := by rw [List.length_take]; simp; omega
      omega
    have hm : ((3 : Int) - IntKind.wrap .i64 ((j : Int) + 1)).toNat < ((3 : Int) - j).toNat := by rw [w64 (by omega)]; omega
    refine ⟨⟨by omega, hlt⟩, _, hat', ?_⟩
    cases hq : [q0, q1, q2][j] with
    | true =>
      rw [if_pos (show truthW true = 12 from rfl)]
      rw [hq, if_pos rfl] at hst
      exact ⟨⟨j + 1, by rw [w64 (by omega)]; omega, by omega, by rw [w64 (by omega), hst], rfl⟩, hm⟩
    | false =>
      rw [if_neg (by decide)]
      rw [hq, if_neg (by decide), Int.add_zero] at hst
      refine ⟨⟨by omega, hlt⟩, _, hat', ?_⟩
      rw [hq, if_pos (show truthW false = 4 from rfl)]
      exact ⟨⟨j + 1, by rw [w64 (by omega)]; omega, by omega, hst.symm, rfl⟩, hm⟩
  rw [if_neg hlt]
  obtain rfl : j = 3 := by omega
  rw [show [q0, q1, q2].take 3 = [q0, q1, q2] from rfl, hone]
  intro b22 H22 hb22 hH22
  have L22 := L20.grow (Ext.push' hH22)
  refine HC.mono (does_order (ws := [wb, wa]) (.inr (.inr rfl)) L22 (push_get hb22 hH22) rfl (by simp) (by simp) hba hsba hr2') ?_
  rintro _ H23 ⟨rfl, e23⟩
  rw [htur]
  refine ⟨_, _, rfl, fun b24 H24 hb24 hH24 => ?_⟩
  have L24 := (L22.grow e23).grow (Ext.push' hH24)
  refine HC.mono (does23_c (Q := fun ra rb H' => rb = 0 ∧ ∃ x' : Hp, Live H H' k x' ∧ MadeOn x3 x' ra 2 0 (runesOf s)) (HC.mono (apply_copy (c := 1) L24 M3.even (push_get hb24 hH24) ta la (by omega) (by omega)) (fun v A h => by
    obtain ⟨w', x', rfl, hL, hM, _⟩ := h
    exact ⟨_, _, rfl, rfl, x', hL, hM⟩))) ?_
  rintro _ H25 ⟨wc, _, rfl, rfl, x4, L25, M4⟩
  have c4 := M4.made.count
  have r4 := M4.made.free
  have hne : wc ≠ wa := fun h => by
    have := M4.made.sep L24.n64 ta 0 0 (by omega) (by omega)
    rw [h] at this; exact this rfl
  have ta4 := ta.keep L24.n64 M4.made.keep
  have tb4 := tb.keep L24.n64 M4.made.keep
  have tc4 := M4.thing
  refine ⟨_, _, rfl, fun b26 H26 hb26 hH26 => ?_⟩
  have L26 := L25.grow (Ext.push' hH26)
  refine HC.mono (does_order (ws := [wa, wc, wa]) (.inl rfl) L26 (push_get hb26 hH26) rfl (by simp) (by simp) (fun w hw => by
    simp at hw; rcases hw with rfl | rfl | rfl
    · exact ⟨ta4.word, ta4.typ⟩
    · exact ⟨tc4.word, tc4.typ⟩
    · exact ⟨ta4.word, ta4.typ⟩) (strs3 ta4 tc4 ta4 la la la) (fun r hr => by simp at hr; subst hr; omega)) ?_
  rw [rises_self]
  rintro _ H27 ⟨rfl, e27⟩
  refine ⟨_, _, rfl, ?_⟩
  rw [if_neg (by
    rw [truthW_inj rfl]
    have : (wc == wa) = false := beq_eq_false_iff_ne.2 hne
    rw [this]; decide)]
  have L27 := L26.grow e27
  refine torunes_in (by omega) fun c28 b28 H28 hb28 o28 e28 => ?_
  have L28 := L27.grow e28
  refine ⟨runesOf s, ⟨o28.src, fun _ => rfl⟩, ?_, ?_⟩
  · have h5 := enc_size more
    have h6 := catR_size (runesOf s)
    rw [runesStr_cat]; omega
  rw [runes_snoc]
  have ld : ∀ r ∈ runesOf s ++ [fixR more], Letter r := fun r hr => by
    rcases List.mem_append.1 hr with h | h
    · exact la r h
    · simp at h; subst h; exact fixR_letter more
  have hrd : runesOf (runesStr (runesOf s ++ [fixR more])) = runesOf s ++ [fixR more] := runesOf_runesStr ld
  refine HC.mono (live_String L28 M4.even (s := runesStr (runesOf s ++ [fixR more])) (by rw [hrd]; simp; omega) (by omega) (by omega)) ?_
  rw [hrd]
  rintro _ H29 ⟨wd, x5, rfl, L29, M5, f5⟩
  have ta5 := ta4.keep L28.n64 M5.made.keep
  have tb5 := tb4.keep L28.n64 M5.made.keep
  have td5 := M5.thing
  refine ⟨_, _, rfl, fun b30 H30 hb30 hH30 => ?_⟩
  have L30 := L29.grow (Ext.push' hH30)
  refine HC.mono (does_order (ws := [wa, wd]) (.inr (.inl rfl)) L30 (push_get hb30 hH30) rfl (by simp) (by simp) (fun w hw => by
    simp at hw; rcases hw with rfl | rfl
    · exact ⟨ta5.word, ta5.typ⟩
    · exact ⟨td5.word, td5.typ⟩) (strs2 ta5 td5 la ld) (fun r hr => by
    simp at hr; rcases hr with rfl | rfl
    · omega
    · rw [List.length_append, List.length_singleton]; omega)) ?_
  rw [rises_ahead]
  rintro _ H31 ⟨rfl, e31⟩
  refine ⟨_, _, rfl, ?_⟩
  rw [if_pos rfl, if_pos (by decide)]
  have L31 := L30.grow e31
  refine HC.mono (text23_c L31.view ta5) ?_
  rintro _ H32 ⟨rfl, e32⟩
  refine ⟨_, rfl, ?_⟩
  have L32 := L31.grow e32
  refine HC.mono (text23_c L32.view tb5) ?_
  rintro _ H33 ⟨rfl, e33⟩
  refine ⟨_, rfl, ?_⟩
  rw [if_pos (by
    rw [truthW_12, hsam, wordsText_letters la, wordsText_letters lb]
    by_cases h : runesOf s = runesOf tv
    · rw [h]; simp
    · rw [decide_eq_false h]
      refine (beq_eq_false_iff_ne.2 fun h2 => h ?_).symm
      have h3 : runesStr (runesOf s) = runesStr (runesOf tv) := by
        apply ByteArray.ext; apply Array.toList_inj.1
        rw [Lib.toList_data, Lib.toList_data] at h2; exact h2
      rw [← runesOf_runesStr la, ← runesOf_runesStr lb, h3])]
  refine HC.mono awake23_c ?_
  rintro _ H34 ⟨rfl, e34⟩
  exact ⟨_, rfl, hR _ _ ⟨rfl, (L32.grow e33).ext.trans e34⟩⟩

set_option maxRecDepth 100000 in
theorem lifted (os : Os) (started : os.Started) (H : Type) (enc : TypeId × Value → H) :
    ReturnsInHanded {} Tryz.checked os 6 .any (fun w args => (Rows.textsOrderSpec.pre enc Tryz.prog Tryz.f6 Rows.textsOrderRow.domain false w args ∧ laidMetH Tryz.prog Rows.textsOrderRow.laid w) ∧ sizedMet enc Tryz.prog Tryz.f6 (OpenSpec.ofChange Rows.textsOrderSpec) false w args)
      (Rows.textsOrderSpec.post enc Tryz.prog Tryz.f6 false true false false) := by
  refine law_lifted_laid (tb := 4) started (by kernel_rfl) Tryz.func6
    (ChangeSpec.witness_shaped (enc := enc) (C := Tryz.checked) (os := os) (X := fun w _ => laidMetH Tryz.prog Rows.textsOrderRow.laid w) false (World.laidAll Tryz.prog os Rows.textsOrderRow.laid) #[.string (ByteArray.mk #[]), .string (ByteArray.mk #[]), .int .i32 0] 8 (World.laidAll_os _ _ _)
      (World.shaped_of_ZipB (by kernel_rfl) (by kernel_rfl)) (by kernel_rfl) (by kernel_rfl) (by kernel_rfl)
      (by rw [MakeChecks.laidMetH_plain _ _ _ (by kernel_rfl)]; exact laidMet_laidAll _ (by kernel_rfl) (by kernel_rfl)))
    rfl (by kernel_rfl) rfl Tryz.underlying4 (fun ds hds => ?_) ?_
  · match ds, hds with
    | [d0, d1, d2], _ => rfl
  intro W base args ds p _ hval hA _
  rw [Tryz.params6] at hA hval
  obtain ⟨v0, vs0, d0, ds0, p0, q0, hargs, rfl, rfl, h0, r0⟩ := trodAll_cons hA
  obtain ⟨v1, vs1, d1, ds1, p1, q1, rfl, rfl, rfl, h1, r1⟩ := trodAll_cons r0
  obtain ⟨v2, vs2, d2, ds2, p2, q2, rfl, rfl, rfl, h2, r2⟩ := trodAll_cons r1
  obtain ⟨rfl, rfl, rfl⟩ := trodAll_nil r2
  obtain rfl : args = #[v0, v1, v2] := by cases args; simp_all
  obtain ⟨a0, rfl, w0⟩ := open_str Tryz.underlying9 (hval 0 9 v0 rfl rfl) h0
  obtain ⟨a1, rfl, w1⟩ := open_str Tryz.underlying9 (hval 1 9 v1 rfl rfl) h1
  obtain ⟨a2, rfl, rfl, rfl, w2⟩ := open_int Tryz.underlying21 (hval 2 21 v2 rfl rfl) h2
  exact law a0 a1 a2 W.heap

theorem over : Rows.TextsOrderSaid :=
  OpenClaim.holds_of_wide 6 Tryz.f6 rfl rfl rfl rfl rfl rfl rfl ⟨rfl, rfl, rfl, rfl, rfl⟩ rfl rfl rfl rfl rfl (by kernel_rfl) Tryz.func6 (by kernel_rfl)
    (of_decide_eq_true (by kernel_rfl)) (by unfold Func.isWrapper; first | (rw [if_pos (by decide +kernel)]; kernel_rfl) | (rw [if_neg (by decide +kernel)]; exact ⟨rfl, rfl⟩))
    (fun os started H enc _ => lifted os started H enc)
theorem proved : Rows.TextsOrderCardSaid :=
  Claim7.holds_tied_plain_at .later [] [.data, .pinned] true (true, "7894965f36cbce92406310930e64986d2ea7bf966cf13c5e6d826dd7bc3f29f6") false over (fun _ h => by cases h) (by kernel_rfl) (fun _ h => by cases h) textsOrder_row_tie rfl ⟨rfl, rfl⟩ (by kernel_rfl) rfl
    (fun f fn hf hfn => by
      obtain rfl : f = 6 := Option.some.inj ((show Tryz.prog.funcNamed "moraine/morainelaw23.TextsOrder" = some 6 by kernel_rfl).symm.trans hf) |>.symm
      obtain rfl : fn = Tryz.f6 := (Option.some.inj (Tryz.func6.symm.trans hfn)).symm
      exact ⟨by kernel_rfl, fun j t ht => by
        rw [Tryz.params6] at ht
        have hm : t ∈ [9, 9, 21] := by simpa using Array.mem_of_getElem? ht
        have hall : ([9, 9, 21].all fun u => !Tryz.prog.wantsStandIn u) = true := by kernel_rfl
        exact (show Tryz.prog.wantsStandIn t = false by simpa using List.all_eq_true.1 hall t hm)⟩)
    (by kernel_rfl)
#print axioms proved
end Go.Proofs.YthlohokmnajpoaaGreatDoor.textsOrder
