/- The law ObjBack of morainelaw10 holds: called with any arguments it answers true and leaves what it was handed as it was. No condition. -/
import Derived.Test.YtfohlkiikppefaaNumH
import Derived.Test.YtfohlkiikppefaaLiveT
import Derived.Test.YtfohlkiikppefaaLaws10
import Derived.Test.YtfohlkiikppefaaAct10
import Derived.Test.YtfohlkiikppefaaL10ObjBack
set_option linter.unusedVariables false
set_option linter.unusedSimpArgs false
namespace Go.Proofs.Ytfohlkiikppefaa.objBack
open Go Go.Proofs.Ytfohlkiikppefaa
open Go.ChangeShapes Go.WideShapes Go.ChangeAt Go.RowKit

theorem decode_top (s : ByteArray) (pos : Nat) : (Utf8.decode s pos).1 ≤ 1114111 := by
  have hb : ∀ k, (s.get! (pos + k)).toNat < 256 := fun k => (s.get! (pos + k)).toNat_lt
  have h0 := hb 0; have h1 := hb 1; have h2 := hb 2; have h3 := hb 3
  simp only [Utf8.decode]
  repeat' split
  all_goals simp_all [Utf8.runeError, Utf8.valid]
  all_goals omega
theorem runesFrom_top (s : ByteArray) : ∀ (f pos : Nat), ∀ r ∈ runesFrom s f pos, 0 ≤ r ∧ r ≤ 1114111
  | 0, _, r, h => by simp [runesFrom] at h
  | f + 1, pos, r, h => by
    simp only [runesFrom] at h
    by_cases hp : pos < s.size
    · rw [if_pos hp] at h
      rcases List.mem_cons.1 h with rfl | h
      · have := decode_top s pos; omega
      · exact runesFrom_top s f _ r h
    · rw [if_neg hp] at h; simp at h
theorem wordsText_runes (s : ByteArray) : wordsText (runesOf s) = runesStr (runesOf s) := by
  unfold wordsText
  congr 1
  rw [List.map_congr_left (g := id) (fun x hx => by have := runesFrom_top s _ _ x hx; rw [if_neg (by omega)]; rfl), List.map_id]
theorem conv_runes (s : ByteArray) : ∀ (k i : Nat) (acc : Array Value), (Conv.runesFrom s k i acc).toList = acc.toList ++ (runesFrom s k i).map (Value.int .i32)
  | 0, _, acc => by simp [Conv.runesFrom, runesFrom]
  | k + 1, i, acc => by
    unfold Conv.runesFrom runesFrom
    by_cases h : i < s.size
    · rw [if_pos h, if_pos h]
      show (Conv.runesFrom s k (i + (Utf8.decode s i).2) (acc.push (.int .i32 (Int.ofNat (Utf8.decode s i).1)))).toList = _
      rw [conv_runes s k]; simp
    · rw [if_neg h, if_neg h]; simp
theorem runes_inj {k : IntKind} : ∀ {us vs : List Int}, us.map (Value.int k) = vs.map (Value.int k) → us = vs
  | [], [], _ => rfl
  | [], b :: vs, h => by simp at h
  | a :: us, [], h => by simp at h
  | a :: us, b :: vs, h => by
    simp only [List.map_cons, List.cons.injEq, Value.int.injEq, true_and] at h
    rw [h.1, runes_inj h.2]

/-! what is told of a small number is it -/
theorem ofL_back {ls : List Int} (hlm : ∀ x ∈ ls, IsLimb x) (ht : top ls ≤ 2) : trim [fixX ls % 4294967296, fixX ls / 4294967296] = trim ls := by
  have hl0 := limb_at hlm 0
  have hl1 := limb_at hlm 1
  have hX : fixX ls = ls.getD 0 0 + 4294967296 * ls.getD 1 0 := rfl
  refine trim_congr fun i => ?_
  match i with
  | 0 => show fixX ls % 4294967296 = _; omega
  | 1 => show fixX ls / 4294967296 = _; omega
  | i + 2 => rw [top_zero ls (i + 2) (by omega), getD_past _ _ (by simp)]
theorem fixX_zero {ls : List Int} (hlm : ∀ x ∈ ls, IsLimb x) (h : fixX ls = 0) (ht : top ls ≤ 2) : top ls = 0 := by
  have hl0 := limb_at hlm 0
  have hl1 := limb_at hlm 1
  have hX : fixX ls = ls.getD 0 0 + 4294967296 * ls.getD 1 0 := rfl
  rcases (show top ls = 0 ∨ top ls = 1 ∨ top ls = 2 by omega) with h0 | h0 | h0
  · exact h0
  · exact absurd (show ls.getD (top ls - 1) 0 = 0 by rw [h0]; show ls.getD 0 0 = 0; omega) (topN_last ls _ (by show top ls ≠ 0; omega))
  · exact absurd (show ls.getD (top ls - 1) 0 = 0 by rw [h0]; show ls.getD 1 0 = 0; omega) (topN_last ls _ (by show top ls ≠ 0; omega))
theorem norm_idem {neg : Bool} {ls : List Int} (h : ¬ 48 < top ls) : normR (normR neg ls).1 (trim ls) = normR neg ls := by
  unfold normR
  rw [if_neg h, top_trim, if_neg h, trim_trim]
  simp [Bool.and_assoc]
theorem fix_back {neg : Bool} {ls : List Int} (hlm : ∀ x ∈ ls, IsLimb x) (h48 : ¬ 48 < top ls) (h : (fixR (normR neg ls).1 (trim ls)).2 = true) :
    normR (decide ((fixR (normR neg ls).1 (trim ls)).1 < 0)) (ofL (fixR (normR neg ls).1 (trim ls)).1) = normR neg ls := by
  have hlt := limbs_trim hlm
  have hl0 := limb_at hlt 0
  have hl1 := limb_at hlt 1
  have hX : fixX (trim ls) = (trim ls).getD 0 0 + 4294967296 * (trim ls).getD 1 0 := rfl
  have ht2 : top ls ≤ 2 := by
    rcases Nat.lt_or_ge 2 (top ls) with h2 | h2
    · unfold fixR at h; rw [top_trim, if_pos h2] at h; exact absurd h (by decide)
    · exact h2
  have hn1 : (normR neg ls).1 = (neg && decide (0 < top ls)) := by unfold normR; rw [if_neg h48]
  have hmag : ∀ x : Int, (x = fixX (trim ls) ∨ x = -fixX (trim ls)) → trim (ofL x) = trim ls := fun x hx => by
    have hm : mag x = fixX (trim ls) := by unfold mag; split <;> omega
    unfold ofL; rw [hm, ofL_back hlt (by rw [top_trim]; exact ht2), trim_trim]
  have htop : ∀ x : Int, (x = fixX (trim ls) ∨ x = -fixX (trim ls)) → top (ofL x) = top ls := fun x hx => by rw [← trim_len, hmag x hx, trim_len]
  have fin : ∀ x : Int, (x = fixX (trim ls) ∨ x = -fixX (trim ls)) → (decide (x < 0) && decide (0 < top ls)) = (neg && decide (0 < top ls)) → normR (decide (x < 0)) (ofL x) = normR neg ls := fun x hx hs => by
    unfold normR
    rw [htop x hx, if_neg h48, if_neg h48, hmag x hx, hs]
  have hz : top ls ≠ 0 → 0 < fixX (trim ls) := fun hne => by
    have : fixX (trim ls) ≠ 0 := fun e => hne (by have := fixX_zero hlt e (by rw [top_trim]; exact ht2); rw [top_trim] at this; exact this)
    omega
  unfold fixR at h ⊢
  rw [top_trim, if_neg (by omega)] at h ⊢
  by_cases h2 : fixX (trim ls) > 1152921504606846976
  · rw [if_pos h2] at h; exact absurd h (by decide)
  rw [if_neg h2] at h ⊢
  by_cases h3 : fixX (trim ls) = 1152921504606846976 ∧ (normR neg ls).1 = false
  · rw [if_pos h3] at h; exact absurd h (by decide)
  rw [if_neg h3] at h ⊢
  by_cases h4 : (normR neg ls).1 = true
  · rw [if_pos h4]
    rw [hn1] at h4
    simp at h4
    refine fin _ (.inr rfl) ?_
    have := hz (by omega)
    rw [h4.1, decide_eq_true (p := -fixX (trim ls) < 0) (by omega)]
  · rw [if_neg h4]
    rw [hn1] at h4
    refine fin _ (.inl rfl) ?_
    rw [decide_eq_false (p := fixX (trim ls) < 0) (by omega)]
    simp at h4 ⊢
    intro hh; have := h4 hh; omega
theorem signed_fix {x : Int} (h : -1152921504606846976 ≤ x ∧ x < 1152921504606846976) : fixW x % 8 = 0 ∧ signed (fixW x) / 8 = x ∧ IsWord (fixW x) := by
  unfold fixW signed
  refine ⟨by omega, ?_, by omega, by omega⟩
  split <;> omega
theorem norm_may {neg : Bool} {ls : List Int} (h : ¬ 48 < top ls) : mayR (normR neg ls).1 (trim ls) = true := by
  unfold mayR normR
  rw [if_neg h, trim_len, top_trim]
  simp
  refine ⟨by omega, ?_⟩
  cases neg <;> simp <;> omega

set_option maxHeartbeats 1000000 in
theorem law (s : ByteArray) (y : NumOf) (H : Array Obj) (hs : s.size ≤ maxLen) (hy : y.OK maxLen H) : morainelaw10_ObjBack.C s y.neg y.mag.p y.mag.n y.mag.c H (fun v H' => v = .bool true ∧ Ext H H') := by
  refine HC.via fun R hR => morainelaw10_ObjBack.link ?_
  unfold morainelaw10_ObjBack.pt
  intro b H1 hb hH1
  have e1 : Ext H H1 := Ext.push' hH1
  have hg := push_get hb hH1
  have hbs := lt_size hg
  have hsrc : SrcAt H y.mag.p (lvs y.mag.xs) := hy.mag.nums.src
  have hln : y.mag.n = y.mag.xs.length := hy.mag.len.symm
  have hlm : ∀ x ∈ y.mag.xs, IsLimb x := fun x hx => by
    have := wf_u32 (hy.mag.each x hx)
    exact ⟨this.1, by have := this.2; omega⟩
  have aw : ∀ H2, Ext H H2 → morainelaw10_awake.C H2 (fun v H' => ∃ x : Bool, v = .bool x ∧ R (.bool x) H') := fun H2 e => by
    refine HC.mono awake10_c ?_
    rintro _ H3 ⟨rfl, e3⟩
    exact ⟨true, rfl, hR _ _ ⟨rfl, e.trans e3⟩⟩
  have awj : ∀ H2, Ext H H2 → morainelaw10_awake.C H2 (fun v H' => ∃ x : Bool, v = .bool x ∧ (x = true ∧ Ext H H')) := fun H2 e => by
    refine HC.mono awake10_c ?_
    rintro _ H3 ⟨rfl, e3⟩
    exact ⟨true, rfl, rfl, e.trans e3⟩
  refine HC.mono (obj_New_c (by decide)) ?_
  rintro _ H2 (⟨hno, -⟩ | ⟨-, bl, x, rfl, V, hx, e2, hyg⟩)
  · exact absurd (by decide) hno
  refine ⟨_, _, rfl, ?_⟩
  have hyg' : ∀ i, i ∈ bl.all → H1.size ≤ i := hyg
  have L2 : Live H H2 bl x := ⟨V.inv.2.1, V.inv.2.2, e1.trans e2, fun i hi => Nat.le_trans e1.size (hyg i hi)⟩
  have f2 : x.sp.mem.free = 8 := by subst hx; rfl
  have c2 : x.sp.mem.count = 0 := by subst hx; rfl
  have v2 : x.sp.mem.Even := by subst hx; exact even_fresh _
  clear hx V
  by_cases h1 : (s.size : Int) > 1000
  · rw [if_pos h1]
    refine ⟨fun x H' => x = true ∧ Ext H H', ?_, fun s4 H3 h => hR _ _ ⟨by rw [h.1], h.2⟩⟩
    rw [if_pos (by rfl)]
    exact awj H2 (e1.trans e2)
  rw [if_neg h1]
  refine ⟨_, _, _, by rw [box_get (e2.get hg)]; rfl, ?_⟩
  by_cases h60 : (y.mag.n : Int) > 60
  · rw [if_pos (by simp; omega)]
    refine ⟨fun x H' => x = true ∧ Ext H H', ?_, fun s4 H3 h => hR _ _ ⟨by rw [h.1], h.2⟩⟩
    rw [if_pos (by rfl)]
    exact awj H2 (e1.trans e2)
  rw [if_neg (by simp; omega)]
  intro rs hrs
  have hrs' : rs = runesOf s := by
    have h := congrArg Array.toList hrs
    rw [conv_runes] at h
    simp at h
    exact (runes_inj h).symm
  clear hrs
  subst hrs'
  have hrl : (runesOf s).length ≤ 1000 := by have := runesFrom_len s (s.size - 0) 0; show (runesFrom s (s.size - 0) 0).length ≤ 1000; omega
  refine ⟨by omega, ?_⟩
  intro c7 b7 H7 hc7 hb7 hH7
  have e7 : Ext H2 H7 := Ext.push' hH7
  have g7 := push_get hb7 hH7
  have L7 := L2.grow e7
  have hg7 := e7.get (e2.get hg)
  have hb7l : b7 < H7.size := lt_size g7
  have hnb : b ∉ bl.all := fun h => by have := hyg' b h; omega
  have hlt2 := L2.at'.lt
  have hs7 := e7.size
  have hnb7 : b7 ∉ bl.all := fun h => by have := hlt2 b7 h; omega
  have hcap := hy.mag.cap
  -- the string
  have hstr : (62 < (runesOf s).length ∧ strR (some (bl, x)) s = (0, 6) ∧ strO (some (bl, x)) s = some (bl, x)) ∨
      ((runesOf s).length ≤ 62 ∧ ∃ (w : Int) (x8 : Hp), strR (some (bl, x)) s = (w, 0) ∧ strO (some (bl, x)) s = some (bl, x8) ∧ MadeOn x x8 w 2 0 (runesOf s)) := by
    unfold strR strO
    by_cases h62 : 62 < (runesOf s).length
    · exact .inl ⟨h62, by rw [if_pos h62], by rw [if_pos h62]⟩
    · obtain ⟨w, x8, q1, q2, q3⟩ := live_made L7 v2 (kind := 2) (more := 0) (by decide) (by decide) (Nat.le_of_not_lt h62) (runesOf_word s) (by omega)
      exact .inr ⟨by omega, w, x8, by rw [if_neg h62, q1], by rw [if_neg h62, q2], q3⟩
  refine HC.mono (obj_String_c (s := s) L7.view (show x.sp.mem.count < _ by omega)) ?_
  rintro _ H8 ⟨rfl, V8, f8⟩
  refine ⟨_, _, rfl, ?_⟩
  rw [if_pos (by
    rcases hstr with ⟨h, q, -⟩ | ⟨h, w, x8, q, -⟩
    · rw [q, decide_eq_true (by omega)]; rfl
    · rw [q, decide_eq_false (by omega)]; rfl)]
  refine ⟨fun H9 => ∃ x9 : Hp, Live H H9 bl x9 ∧ x9.sp.mem.Even ∧ 7 ≤ x9.sp.mem.free ∧ x9.sp.mem.count ≤ 1 ∧ H9[b]? = some (.cells #[.bool y.neg, .slice y.mag.p y.mag.n y.mag.c] 70 (0, 0)), ?_, ?_⟩
  · rcases hstr with ⟨h, q, q'⟩ | ⟨h, w, x8, q, q', m8⟩
    · rw [q'] at V8
      rw [q, if_neg (by decide)]
      exact ⟨x, L7.step V8 f8, v2, by omega, by omega, (Live.others f8).get hnb hg7⟩
    · rw [q'] at V8
      have L8 := L7.step V8 f8
      have hf := m8.made.free
      have hc := m8.made.count
      rw [q, if_pos (by rfl)]
      refine HC.mono (obj_Text_c L8.view m8.thing.word) ?_
      rintro _ H23 ⟨rfl, e23⟩
      have hm : mof (some (bl, x8)) = x8.sp.mem := rfl
      rw [hm, if_pos ⟨m8.thing.obj, m8.thing.typ⟩, m8.thing.words, wordsText_runes]
      refine ⟨_, _, rfl, ?_⟩
      rw [if_pos (by rfl)]
      have g23 := e23.get ((Live.others f8).get hnb7 g7)
      refine ⟨runesOf s, ⟨rowAt_blk g23 _ 0 0 (fun j hj => by rw [show 0 + 0 + j = j by omega, Array.getElem?_append_left (by simpa using hj)]; simp), fun _ => rfl⟩, ?_⟩
      rw [if_pos (by rfl)]
      refine HC.mono (obj_Len_c (L8.grow e23).view m8.thing.word) ?_
      rintro _ H24 ⟨rfl, e24⟩
      refine ⟨_, rfl, ?_⟩
      rw [hm, m8.thing.len, if_pos (by rfl)]
      exact ⟨x8, (L8.grow e23).grow e24, m8.even, by omega, by omega, (e23.trans e24).get ((Live.others f8).get hnb hg7)⟩
  rintro H9 ⟨x9, L9, v9, f9, c9, g9⟩
  refine ⟨_, _, _, _, box_row g9, ?_⟩
  have hlt9 := L9.at'.lt
  refine HC.mono (num_Norm_c (hsrc.ext L9.ext) hln hcap (by omega)) ?_
  rintro _ H10 ⟨B, n, c, rfl, hr, e10⟩
  refine ⟨_, _, _, _, _, rfl, ?_⟩
  intro b11 H11 hb11 hH11
  obtain ⟨hcp11, hpu11⟩ := box_new (vs := [.bool (normR y.neg y.mag.xs).1, .slice B n c]) hb11 hH11 rfl rfl
  refine ⟨hcp11, fun H12 hH12 => ?_⟩
  obtain ⟨g12, e12⟩ := hpu11 H12 hH12
  have hs10 := e10.size
  have hs12 := e12.size
  have L12 := L9.grow (e10.trans e12)
  have hnb11 : b11 ∉ bl.all := fun h => by have := hlt9 b11 h; omega
  refine ⟨_, _, _, _, box_row ((e10.trans e12).get g9), ?_⟩
  refine HC.mono (obj_Int_c L12.view (show x9.sp.mem.count < _ by omega) (hsrc.ext L12.ext) hln hcap (by omega) hlm) ?_
  rintro _ H13 ⟨rfl, V13, f13⟩
  refine ⟨_, _, rfl, ?_⟩
  have e13 : Ext H H13 := L12.ext.fr_trans (Live.others f13) (fun i hi => L12.young i hi)
  by_cases h48 : 48 < top y.mag.xs
  · rw [show (bigR (some (bl, x9)) y.neg y.mag.xs).2 = 6 by unfold bigR; rw [if_pos h48], show (normR y.neg y.mag.xs).2.2 = 6 by unfold normR; rw [if_pos h48], if_pos (by rfl), if_neg (by decide)]
    exact aw H13 e13
  have hn0 : (normR y.neg y.mag.xs).2.2 = 0 := by unfold normR; rw [if_neg h48]
  have hnt : (normR y.neg y.mag.xs).2.1 = trim y.mag.xs := by unfold normR; rw [if_neg h48]
  rw [hnt] at hr
  have htl := trim_len y.mag.xs
  have hidem := norm_idem (neg := y.neg) h48
  have hback := @fix_back y.neg y.mag.xs hlm h48
  have hmay := norm_may (neg := y.neg) h48
  have hlt := limbs_trim hlm
  have hin := @fixR_in (normR y.neg y.mag.xs).1 (trim y.mag.xs) hlt
  have hwds := limbs_word hlt
  have hmod : (trim y.mag.xs).map (· % 4294967296) = trim y.mag.xs := by
    rw [List.map_congr_left (g := id) (fun x hx => by have := hlt x hx; show x % 4294967296 = x; omega), List.map_id]
  -- a big number that is made
  have big : ∀ (HH : Array Obj) (xx : Hp), Live H HH bl xx → xx.sp.mem.Even → 1 ≤ xx.sp.mem.free → ∃ (w : Int) (x' : Hp), makeR (some (bl, xx)) 3 (if (normR y.neg y.mag.xs).1 = true then 1 else 0) (trim y.mag.xs) = (w, 0) ∧ makeO (some (bl, xx)) 3 (if (normR y.neg y.mag.xs).1 = true then 1 else 0) (trim y.mag.xs) = some (bl, x') ∧
      MadeOn xx x' w 3 (if (normR y.neg y.mag.xs).1 = true then 1 else 0) (trim y.mag.xs) := fun HH xx L he hf =>
    live_made L he (by decide) (by split <;> exact ⟨by decide, by decide⟩) (by omega) hwds hf
  generalize hN : normR y.neg y.mag.xs = N at *
  obtain ⟨sg, ml, er⟩ := N
  simp only at hn0 hnt hidem hback hmay hin big
  subst hn0 hnt
  have htt : trim (trim y.mag.xs) = trim y.mag.xs := trim_trim _
  have key1 : ∃ (w : Int) (x13 : Hp), bigR (some (bl, x9)) y.neg y.mag.xs = (w, 0) ∧ bigO (some (bl, x9)) y.neg y.mag.xs = some (bl, x13) ∧ IsWord w ∧ numW x13.sp.mem w = (sg, trim y.mag.xs, 0) ∧ x13.sp.mem.Even ∧ 6 ≤ x13.sp.mem.free ∧ x13.sp.mem.count ≤ 2 ∧
      ((fixR sg (trim y.mag.xs)).2 = true → w = fixW (fixR sg (trim y.mag.xs)).1) ∧ ((fixR sg (trim y.mag.xs)).2 = false → Thing x13.sp.mem w 3 (if sg = true then 1 else 0) (trim y.mag.xs)) := by
    unfold bigR bigO
    rw [hN, if_neg h48, if_neg h48]
    by_cases hfx : (fixR sg (trim y.mag.xs)).2 = true
    · obtain ⟨w8, wsg, ww⟩ := signed_fix (hin hfx)
      refine ⟨_, x9, by rw [if_pos hfx], by rw [if_pos hfx], ww, ?_, v9, by omega, by omega, fun _ => rfl, fun h => by rw [hfx] at h; cases h⟩
      unfold numW; rw [if_pos w8, wsg, hback hfx]
    · obtain ⟨w, x', q1, q2, m⟩ := big H12 x9 L12 v9 (by omega)
      have hf := m.made.free
      have hc := m.made.count
      refine ⟨w, x', by rw [if_neg hfx, q1], by rw [if_neg hfx, q2], m.thing.word, ?_, m.even, by omega, by omega, fun h => absurd h hfx, fun _ => m.thing⟩
      have hw3 : w % 8 = 3 := m.thing.obj.1.2.1
      have hmo : (x'.sp.mem.more w == 1) = sg := by rw [m.thing.more']; cases sg <;> rfl
      have hgt : ¬ x'.sp.mem.more w > 1 := by rw [m.thing.more']; split <;> decide
      unfold numW
      rw [if_neg (by omega), if_pos ⟨m.thing.obj, m.thing.typ⟩, m.thing.words, hmo, hmod, if_pos ⟨hmay, hgt⟩]
  obtain ⟨w, x13, q1, q2, hww, hnum, v13, f13', c13, hsm, hbg⟩ := key1
  rw [q2] at V13
  have L13 := L12.step V13 f13
  rw [q1, if_pos (by rfl), if_pos (by rfl)]
  have hm13 : mof (some (bl, x13)) = x13.sp.mem := rfl
  refine HC.mono (obj_Num_c L13.view hww) ?_
  rintro _ H14 ⟨B2, n2, c2, rfl, hr2, e14⟩
  rw [hm13, hnum] at hr2
  rw [hm13, hnum]
  refine ⟨_, _, _, _, _, rfl, ?_⟩
  intro b15 H15 hb15 hH15
  obtain ⟨hcp15, hpu15⟩ := box_new (vs := [.bool sg, .slice B2 n2 c2]) hb15 hH15 rfl rfl
  refine ⟨hcp15, fun H16 hH16 => ?_⟩
  obtain ⟨g16, e16⟩ := hpu15 H16 hH16
  have L16 := L13.grow (e14.trans e16)
  have g12' := (e14.trans e16).get ((Live.others f13).get hnb11 g12)
  have hs13 := f13.size
  have hs14 := e14.size
  have hnb15 : b15 ∉ bl.all := fun h => by have := hlt9 b15 h; omega
  refine ⟨_, _, _, _, box_row g12', ?_⟩
  have hr16 : NumRow H9.size H16 B n c (trim y.mag.xs) := ((hr.ext e12).keep (Live.others f13) (fun i hi => hlt9 i hi)).ext (e14.trans e16)
  have hln16 := hr.len
  have key2 : ∃ (u : Int) (x17 : Hp), bigR (some (bl, x13)) sg (trim y.mag.xs) = (u, 0) ∧ bigO (some (bl, x13)) sg (trim y.mag.xs) = some (bl, x17) ∧ (u == w) = (fixR sg (trim y.mag.xs)).2 ∧ (x17.sp.mem.typ w == 0) = (fixR sg (trim y.mag.xs)).2 := by
    unfold bigR bigO
    rw [hidem, top_trim, if_neg h48, if_neg h48, htt]
    by_cases hfx : (fixR sg (trim y.mag.xs)).2 = true
    · obtain ⟨w8, wsg, ww⟩ := signed_fix (hin hfx)
      refine ⟨_, x13, by rw [if_pos hfx], by rw [if_pos hfx], ?_, ?_⟩
      · rw [hsm hfx, hfx]; simp
      · rw [hfx, nothing_typ (noAddr (by rw [hsm hfx]; omega))]; rfl
    · obtain ⟨u, x', p1, p2, m⟩ := big H16 x13 L16 v13 (by omega)
      have hfx' : (fixR sg (trim y.mag.xs)).2 = false := by simpa using hfx
      have t := hbg hfx'
      have hn64 := L16.n64
      have hne : w ≠ u := fun e => m.made.sep hn64 t 0 0 (Nat.zero_le _) (Nat.zero_le _) (by rw [e])
      refine ⟨u, x', by rw [if_neg hfx, p1], by rw [if_neg hfx, p2], ?_, ?_⟩
      · rw [hfx']; simpa using fun h : u = w => hne h.symm
      · rw [hfx', (t.keep hn64 m.made.keep).typ]; rfl
  obtain ⟨u, x17, p1, p2, hu, hty⟩ := key2
  refine HC.mono (obj_Int_c L16.view (show x13.sp.mem.count < _ by omega) hr16.own.src hln16 hr.le (by omega) hlt) ?_
  rintro _ H17 ⟨rfl, V17, f17⟩
  rw [p2] at V17
  have L17 := L16.step V17 f17
  rw [p1]
  refine ⟨_, _, rfl, ?_⟩
  have o17 := Live.others f17
  have hr17 := hr16.keep o17 (fun i hi => hlt9 i hi)
  have hr2' : NumRow H13.size H17 B2 n2 c2 (trim y.mag.xs) := (hr2.ext e16).keep o17 (fun i hi => by have := hlt9 i hi; omega)
  refine ⟨_, _, _, _, box_row (o17.get hnb11 g12'), ?_⟩
  refine HC.mono (num_Fix_c hr17.own.src hln16 hr.le (by omega) hlt) ?_
  rintro _ H18 ⟨rfl, e18⟩
  refine ⟨_, _, rfl, ?_⟩
  rw [if_pos (by rfl)]
  refine ⟨_, _, _, _, box_row (e18.get (o17.get hnb15 g16)), _, _, _, _, box_row (e18.get (o17.get hnb11 g12')), ?_⟩
  refine HC.mono (ref_Same_c (hr2'.ext e18).own.src hr2.len (hr17.ext e18).own.src hln16 (by have : n2 = (trim y.mag.xs).length := hr2.len; omega)) ?_
  rintro _ H19 ⟨rfl, e19⟩
  refine ⟨_, rfl, ?_⟩
  rw [if_pos (decide_eq_true ⟨rfl, rfl⟩), if_pos (by rfl), if_pos hu]
  have L19 := (L17.grow e18).grow e19
  refine HC.mono (obj_Type_c L19.view hww) ?_
  rintro _ H20 ⟨rfl, e20⟩
  refine ⟨_, rfl, ?_⟩
  rw [if_pos (show ((mof (some (bl, x17))).typ (w, (0 : Int)).fst == 0) = (fixR (sg, trim y.mag.xs, (0 : Int)).fst (trim y.mag.xs)).snd from hty)]
  exact aw H20 (L19.grow e20).ext

set_option maxRecDepth 100000 in
theorem lifted (os : Os) (started : os.Started) (H : Type) (enc : TypeId × Value → H) :
    ReturnsInHanded {} Try.checked os 8 .any (Rows.objBackSpec.pre6 enc Try.prog Try.f8 Rows.objBackRow.domain false) (Rows.objBackSpec.post enc Try.prog Try.f8 false true false false) := by
  refine law_lifted (tb := 4) started (by kernel_rfl) Try.func8
    (ChangeSpec.witness6 (enc := enc) (C := Try.checked) false ⟨#[], #[.string ⟨#[]⟩, .agg #[.bool false, .slice none 0 0]], []⟩ 8 (by kernel_rfl) (by kernel_rfl) (by kernel_rfl) (by kernel_rfl))
    rfl (by kernel_rfl) rfl Try.underlying4 (fun ds hds => ?_) ?_
  · match ds, hds with
    | [d0, d1], _ => rfl
  intro W base args ds p hval hA _
  rw [Try.params8] at hA hval
  obtain ⟨v0, vs0, d0, ds0, p0, q0, hargs, rfl, rfl, h0, r0⟩ := trodAll_cons hA
  obtain ⟨v1, vs1, d1, ds1, p1, q1, rfl, rfl, rfl, h1, r1⟩ := trodAll_cons r0
  obtain ⟨rfl, rfl, rfl⟩ := trodAll_nil r1
  obtain rfl : args = #[v0, v1] := by cases args; simp_all
  obtain ⟨a0, rfl, w0⟩ := open_str Try.underlying9 (hval 0 9 v0 rfl rfl) h0
  obtain ⟨s1, rfl, w1⟩ := open_struct Try.underlying70 reads_NumOf (B := maxLen) (.inl rfl) (hval 1 70 v1 rfl rfl) h1
  exact law a0 s1 W.heap w0 w1

theorem over : Rows.objBackRow.holds Try.pinned (OpenSpec.ofChange Rows.objBackSpec) :=
  OpenClaim.holds_of_wide 8 Try.f8 rfl rfl rfl rfl rfl rfl rfl ⟨rfl, rfl, rfl, rfl, rfl⟩ rfl rfl rfl rfl rfl (by kernel_rfl) Try.func8 (by kernel_rfl)
    (of_decide_eq_true (by kernel_rfl)) (by unfold Func.isWrapper; first | (rw [if_pos (by decide +kernel)]; kernel_rfl) | (rw [if_neg (by decide +kernel)]; exact ⟨rfl, rfl⟩))
    (fun os started H enc _ => lifted os started H enc)

theorem proved : Rows.ObjBackSaid :=
  over
#print axioms proved
end Go.Proofs.Ytfohlkiikppefaa.objBack
