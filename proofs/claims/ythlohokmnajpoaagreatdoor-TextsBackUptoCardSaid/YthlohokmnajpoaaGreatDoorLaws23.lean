/-
  morainelaw23: does, awake. Proves nothing of any one statement.
-/
import Derived.Lib.Strings
import Derived.Test.YthlohokmnajpoaaGreatDoorTexts
import Derived.Test.YthlohokmnajpoaaGreatDoorSyms
import Derived.Test.YthlohokmnajpoaaGreatDoorLx
set_option linter.unusedVariables false
set_option linter.unusedSimpArgs false
namespace Go.Proofs.YthlohokmnajpoaaGreatDoor
open Go

set_option maxRecDepth 100000 in
theorem apply_sym {H0 H : Array Obj} {k : Blk} {x : Hp} {b c : Nat} {w more : Int} {rs : List Int} {Q : Value → Array Obj → Prop} (L : Live H0 H k x) (hb : H[b]? = some (.cells #[.int .u64 w] 35 (0, 0))) (t : Thing x.sp.mem w 2 more rs) (hlet : ∀ r ∈ rs, Letter r)
    (hQ : ∀ v A, Q v A → ∃ (ra rb : Int), v = .tuple #[.int .u64 ra, .int .i64 rb]) (hI : ∀ A, Ext H A → syms_Intern.C (some ⟨k.h, 0, none⟩) (runesStr rs) A Q) :
    texts_Apply.C (some ⟨k.h, 0, none⟩) 28 (some ⟨b, 0, none⟩) 1 c H Q := by
  have h62 := t.le62
  have hs : strs x.sp.mem [w] = [rs] := by rw [strs_cons, if_pos t.typ, t.runes hlet, strs_nil]
  refine apply_ofText (ws := [w]) (by omega) L (arg1_src hb) (by simp) rfl (fun i hi A eA => ?_) (fun A eA => ?_) hQ
  · obtain rfl : i = 0 := by simpa using hi
    refine HC.mono (texts_is_str (L.grow eA).view t.word) ?_
    rintro _ A' ⟨rfl, e⟩
    have : (mof (some (k, x))).typ w = 2 := t.typ
    exact ⟨by rw [show [w][0] = w from rfl, this]; rfl, e⟩
  refine HC.via fun R hR => texts_ofText.link ?_
  unfold texts_ofText.pt
  refine ofText_pre (o := some (k, x)) (L.grow eA).view ((arg1_src hb).ext eA) rfl (by simpa using t.word) (by simp) (by rw [show mof (some (k, x)) = x.sp.mem from rfl, hs]; simp; omega) fun allB allC A1 ss how hea hy e1 => ?_
  rw [show mof (some (k, x)) = x.sp.mem from rfl, hs] at how hea ⊢
  rw [if_neg (by decide), if_neg (by decide), if_neg (by decide)]
  refine ⟨fun q A => q = false ∧ A1 = A, by rw [if_neg (by decide), if_neg (by decide)]; exact ⟨rfl, rfl⟩, ?_⟩
  rintro _ A1' ⟨rfl, hA1⟩
  subst hA1
  rw [if_neg (by decide), if_neg (by decide), if_neg (by decide), if_pos rfl]
  obtain ⟨s, h1, ho, hn, _⟩ := hea.get 0 rfl
  obtain ⟨a, rfl, ha⟩ := how.at (j := 0) (v := slV s) (by rw [List.getElem?_map, h1]; rfl)
  refine ⟨a, rfl, ⟨by decide, by simp⟩, s.1, s.2.1, s.2.2, ha, rs, ⟨ho.src, fun _ => hn.symm⟩, HC.mono (hI A1 (eA.trans e1)) ?_⟩
  intro v A2 hv
  obtain ⟨ra, rb, rfl⟩ := hQ v A2 hv
  exact ⟨ra, rb, rfl, hR _ _ hv⟩

theorem does23_c {H : Array Obj} {hv B : Option Addr} {nv : Int} {n c : Nat} {Q : Int → Int → Array Obj → Prop} (h : texts_Apply.C hv nv B n c H (fun v H' => ∃ ra rb, v = .tuple #[.int .u64 ra, .int .i64 rb] ∧ Q ra rb H')) :
    morainelaw23_does.C hv nv B n c H (fun v H' => ∃ ra rb, v = .tuple #[.int .u64 ra, .bool (rb == 0)] ∧ Q ra rb H') := by
  refine HC.via fun R hR => morainelaw23_does.link ?_
  unfold morainelaw23_does.pt
  refine HC.mono h ?_
  rintro _ H1 ⟨ra, rb, rfl, hq⟩
  exact ⟨_, _, rfl, hR _ _ ⟨ra, rb, rfl, hq⟩⟩
def ab23 : ByteArray := ByteArray.mk #[97, 98]
theorem runes_ab : runesOf ab23 = [97, 98] := by kernel_rfl
theorem runes_n : runesOf (ByteArray.mk #[195, 177]) = [241] := by kernel_rfl
theorem runesStr_ab : runesStr [97, 98] = ab23 := by kernel_rfl
theorem wordsText_abn : wordsText [97, 98, 241] = ByteArray.mk #[97, 98, 195, 177] := by kernel_rfl
theorem ascii_ab : asciiS ab23 := fun i c h => by
  rcases Nat.lt_or_ge i 2 with hi | hi
  · have : i = 0 ∨ i = 1 := by omega
    rcases this with rfl | rfl
    · obtain rfl : 97 = c := Option.some.inj h; decide
    · obtain rfl : 98 = c := Option.some.inj h; decide
  · rw [getElem?_neg ab23 i (by show ¬ i < 2; omega)] at h; cases h
theorem letters_ab : ∀ r ∈ [(97 : Int), 98], Letter r := fun r h => by simp at h; rcases h with rfl | rfl <;> rfl
theorem letters_n : ∀ r ∈ [(241 : Int)], Letter r := fun r h => by simp at h; rcases h with rfl; rfl
theorem letters_abn : ∀ r ∈ [(97 : Int), 98, 241], Letter r := fun r h => by simp at h; rcases h with rfl | rfl | rfl <;> rfl
theorem not_chr_fix : ¬ isChr 40 := by unfold isChr; omega
theorem name_new {m : Mem} {w s : Int} {rs : List Int} (tw : Thing m w 4 0 [s]) (ts : Thing m s 2 0 rs) : nameR m w = (wordsText rs, 0) := by
  unfold nameR
  have hg : m.get (w / 8 + 1 + 0) = s := by have := tw.get 0 (by simp); simpa using this
  rw [if_pos (tw.field_in ⟨by omega, by simp⟩), hg, if_pos ⟨ts.obj, ts.typ⟩, ts.words]
set_option maxRecDepth 100000 in
theorem awake23_c {H : Array Obj} : morainelaw23_awake.C H (fun v H' => v = .bool true ∧ Ext H H') := by
  refine HC.via fun R hR => morainelaw23_awake.link ?_
  unfold morainelaw23_awake.pt
  refine HC.mono (obj_New_c ⟨by decide, by decide⟩) ?_
  rintro _ H1 (⟨hn, _⟩ | ⟨_, k, x, rfl, V1, hx, e1, hy⟩)
  · exact absurd ⟨by decide, by decide⟩ hn
  have L1 : Live H H1 k x := ⟨V1.inv.2.1, V1.inv.2.2, e1, hy⟩
  have hc : x.sp.mem.count = 0 := by subst hx; rfl
  have hv : x.sp.mem.Even := by subst hx; exact even_fresh _
  have hf : x.sp.mem.free = 8 := by subst hx; rfl
  have hsy : x.sy = .slice none 0 0 := by subst hx; rfl
  clear hx V1
  refine ⟨_, _, rfl, ?_⟩
  rw [if_pos rfl, onPtr_some]
  refine HC.mono (live_String L1 hv (s := ByteArray.mk #[97, 98]) (by rw [show ByteArray.mk #[97, 98] = ab23 from rfl, runes_ab]; decide) (by omega) (by omega)) ?_
  rintro _ H2 ⟨w1, x2, rfl, L2, M2, f2⟩
  rw [show ByteArray.mk #[97, 98] = ab23 from rfl, runes_ab] at M2
  have c2 := M2.made.count
  have r2 := M2.made.free
  refine ⟨_, _, rfl, ?_⟩
  refine HC.mono (live_String L2 M2.even (s := ByteArray.mk #[195, 177]) (by rw [runes_n]; decide) (by omega) (by omega)) ?_
  rintro _ H3 ⟨w2, x3, rfl, L3, M3, f3⟩
  rw [runes_n] at M3
  have c3 := M3.made.count
  have r3 := M3.made.free
  have t1 := M2.thing.keep L2.n64 M3.made.keep
  have t2 := M3.thing
  refine ⟨_, _, rfl, fun b H4 hb hH4 => ?_⟩
  have L4 := L3.grow (Ext.push' hH4)
  have hss : strs x3.sp.mem [w1, w2] = [[97, 98], [241]] := by rw [strs_cons, if_pos t1.typ, t1.runes letters_ab, strs_cons, if_pos t2.typ, t2.runes letters_n, strs_nil]
  refine HC.mono (apply_join (ws := [w1, w2]) L4 M3.even (rowAt_blk (push_get hb hH4) _ 0 0 (fun j hj => by simp [wvs])) (by simp) (fun w hw => by
    simp at hw; rcases hw with rfl | rfl
    · exact ⟨t1.word, t1.typ⟩
    · exact ⟨t2.word, t2.typ⟩) hss letters_abn (by decide) (by decide) (by omega) (by omega)) ?_
  rintro _ H5 ⟨w3, x5, rfl, L5, M5, f5⟩
  have c5 := M5.made.count
  have r5 := M5.made.free
  have t1 := t1.keep L4.n64 M5.made.keep
  have t3 : Thing x5.sp.mem w3 2 0 [97, 98, 241] := M5.thing
  refine ⟨_, _, rfl, ?_⟩
  refine HC.mono (obj_Text_c L5.view t3.word) ?_
  rw [if_pos ⟨t3.obj, t3.typ⟩, show (mof (some (k, x5))).objWords w3 = [97, 98, 241] from t3.words, wordsText_abn]
  rintro _ H6 ⟨rfl, e6⟩
  refine ⟨_, _, rfl, fun b2 H7 hb2 hH7 => ?_⟩
  have L7 := (L5.grow e6).grow (Ext.push' hH7)
  refine HC.mono (apply_textlen L7 (push_get hb2 hH7) t3 letters_abn) ?_
  rintro _ H8 ⟨rfl, e8⟩
  refine ⟨_, _, rfl, fun b3 H9 hb3 hH9 => ?_⟩
  have L9 := (L7.grow e8).grow (Ext.push' hH9)
  refine HC.mono (apply_cut_no (i := 2) (j := 1) L9 (push_get hb3 hH9) t3 letters_abn (by decide) (by decide) (by decide)) ?_
  rintro _ H10 ⟨rfl, e10⟩
  refine ⟨_, _, rfl, fun b4 H11 hb4 hH11 => ?_⟩
  have L11 := (L9.grow e10).grow (Ext.push' hH11)
  have S11 : SyAt H H11 k x5 [] := .nil (by rw [M5.rest.1, M3.rest.1, M2.rest.1, hsy])
  have hva : ∀ A, unicode_utf8_ValidString.C (runesStr [97, 98]) A (fun v A' => v = .bool true ∧ Ext A A') := fun A => by rw [runesStr_ab]; exact ValidString_short (by decide) ascii_ab
  have hra : runesOf (runesStr [97, 98]) = [97, 98] := by rw [runesStr_ab, runes_ab]
  have hne : (runesStr [97, 98]).toList ≠ (ByteArray.mk #[]).toList := by rw [runesStr_ab, Lib.toList_data, Lib.toList_data]; decide
  refine HC.mono (apply_sym (Q := fun v H' => ∃ (w s : Int) (x' x1 x2 : Hp), v = .tuple #[.int .u64 w, .int .i64 0] ∧ Live H H' k x' ∧ MadeOn x5 x1 s 2 0 (runesOf (runesStr [97, 98])) ∧ MadeOn x1 x2 w 4 0 [s] ∧ x'.sp = x2.sp ∧ SyAt H H' k x' ([] ++ [w]) ∧ ∀ q, (x1.sp.mem.seg q).n ≤ 64)
    L11 (push_get hb4 hH11) t1 letters_ab (fun v A h => by obtain ⟨w, s, x', y1, y2, h, _⟩ := h; exact ⟨_, _, h⟩) (fun A eA => (live_Intern_new (L11.grow eA) M5.even (S11.keep (S := []) rfl eA.fr (by simp)) (by simp) hne (hva _) (by rw [hra]; decide) rfl (by omega) (by omega)).mono (fun v A' h => by
      obtain ⟨w, s, x', x1, x2, h1, h2, h3, h4, h5, _, _, h6, h7, _⟩ := h
      exact ⟨w, s, x', x1, x2, h1, h2, h3, h4, h5, h6, h7⟩))) ?_
  rintro _ H12 ⟨w, s, x', y1, y2, rfl, L12, N1, N2, hsp, S12, ly1⟩
  refine ⟨_, _, rfl, fun b5 H13 hb5 hH13 => ?_⟩
  have e13 : Ext H12 H13 := Ext.push' hH13
  have L13 := L12.grow e13
  have tw : Thing x'.sp.mem w 4 0 [s] := by rw [hsp]; exact N2.thing
  have ts : Thing x'.sp.mem s 2 0 [97, 98] := by rw [hsp, ← hra]; exact N1.thing.keep ly1 N2.made.keep
  have t1' : Thing x'.sp.mem w1 2 0 [97, 98] := by rw [hsp]; exact (t1.keep L11.n64 N1.made.keep).keep ly1 N2.made.keep
  have hfind : findR x'.sp.mem ([] ++ [w]) (runesStr [97, 98]) = some w := by
    rw [findR_snoc rfl, if_pos]
    unfold symIs
    rw [name_new tw ts, wordsText_letters letters_ab]
    simp
  refine HC.mono (apply_sym (Q := fun v A => v = .tuple #[.int .u64 w, .int .i64 0] ∧ Ext H13 A) L13 (push_get hb5 hH13) t1' letters_ab (fun v A h => ⟨_, _, h.1⟩) (fun A eA => (live_Intern_old (L13.grow eA) ((S12.keep (S := []) rfl e13.fr (by simp)).keep (S := []) rfl eA.fr (by simp)) (by simp) hne (hva _) (by rw [hra]; decide) hfind).mono (fun v A' h => ⟨h.1, eA.trans h.2⟩))) ?_
  rintro _ H14 ⟨rfl, e14⟩
  refine ⟨_, _, rfl, fun b6 H15 hb6 hH15 => ?_⟩
  have L15 := (L13.grow e14).grow (Ext.push' hH15)
  refine HC.mono (apply_text_no L15 (push_get hb6 hH15) (by decide) not_chr_fix) ?_
  rintro _ H16 ⟨rfl, e16⟩
  refine ⟨_, _, rfl, hR _ _ ⟨?_, (L15.grow e16).ext⟩⟩
  simp
end Go.Proofs.YthlohokmnajpoaaGreatDoor
