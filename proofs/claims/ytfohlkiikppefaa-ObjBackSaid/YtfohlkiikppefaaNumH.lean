/-
  Numbers on a heap: Int, Num. Proves nothing of any one statement.
-/
import Derived.Test.YtfohlkiikppefaaNum
set_option linter.unusedVariables false
set_option linter.unusedSimpArgs false
namespace Go.Proofs.Ytfohlkiikppefaa
open Go

theorem fixR_in {neg : Bool} {ls : List Int} (hlm : ∀ x ∈ ls, IsLimb x) (h : (fixR neg ls).2 = true) : -1152921504606846976 ≤ (fixR neg ls).1 ∧ (fixR neg ls).1 < 1152921504606846976 := by
  have hl0 := limb_at hlm 0
  have hl1 := limb_at hlm 1
  have hX : fixX ls = ls.getD 0 0 + 4294967296 * ls.getD 1 0 := rfl
  unfold fixR at h ⊢
  by_cases h1 : 2 < top ls
  · rw [if_pos h1] at h; exact absurd h (by decide)
  rw [if_neg h1] at h ⊢
  by_cases h2 : fixX ls > 1152921504606846976
  · rw [if_pos h2] at h; exact absurd h (by decide)
  rw [if_neg h2] at h ⊢
  by_cases h3 : fixX ls = 1152921504606846976 ∧ neg = false
  · rw [if_pos h3] at h; exact absurd h (by decide)
  rw [if_neg h3] at h ⊢
  by_cases h4 : neg = true
  · rw [if_pos h4]; exact ⟨by show _ ≤ -fixX ls; omega, by show -fixX ls < _; omega⟩
  · rw [if_neg h4]
    have : fixX ls ≠ 1152921504606846976 := fun e => h3 ⟨e, by simpa using h4⟩
    exact ⟨by show _ ≤ fixX ls; omega, by show fixX ls < _; omega⟩
theorem limbs_word {ls : List Int} (h : ∀ x ∈ ls, IsLimb x) : ∀ x ∈ ls, IsWord x := fun x hx => by have := h x hx; exact ⟨this.1, by omega⟩
theorem limbs_trim {ls : List Int} (h : ∀ x ∈ ls, IsLimb x) : ∀ x ∈ trim ls, IsLimb x := fun x hx => h x (trim_mem hx)

/-- what Int answers -/
def bigR (o : Option (Blk × Hp)) (neg : Bool) (ls : List Int) : Int × Int :=
  if 48 < top ls then (0, 6) else if (fixR (normR neg ls).1 (trim ls)).2 = true then (fixW (fixR (normR neg ls).1 (trim ls)).1, 0) else makeR o 3 (if (normR neg ls).1 = true then 1 else 0) (trim ls)
def bigO (o : Option (Blk × Hp)) (neg : Bool) (ls : List Int) : Option (Blk × Hp) :=
  if 48 < top ls then o else if (fixR (normR neg ls).1 (trim ls)).2 = true then o else makeO o 3 (if (normR neg ls).1 = true then 1 else 0) (trim ls)
theorem obj_Int_c {H : Array Obj} {hv : Option Addr} {o : Option (Blk × Hp)} {neg : Bool} {mB : Option Addr} {mN mC : Nat} {ls : List Int} (V : View H hv o) (hcn : cntOK o)
    (hs : SrcAt H mB (lvs ls)) (hn : mN = ls.length) (hc : mN ≤ mC) (h62 : mN ≤ 1000000) (hlm : ∀ x ∈ ls, IsLimb x) :
    obj_Heap_Int.C hv neg mB mN mC H (fun v H' => v = .tuple #[.int .u64 (bigR o neg ls).1, .int .i64 (bigR o neg ls).2] ∧ View H' hv (bigO o neg ls) ∧ Fr (own o) H H') := by
  refine HC.via fun R hR => obj_Heap_Int.link ?_
  unfold obj_Heap_Int.pt
  intro b H1 hb hH1
  have e1 : Ext H H1 := Ext.push' hH1
  refine ⟨_, _, _, _, box_row (push_get hb hH1), ?_⟩
  refine HC.mono (num_Norm_c (hs.ext e1) hn hc h62) ?_
  rintro _ H2 ⟨B, n, c, rfl, hr, e2⟩
  refine ⟨_, _, _, _, _, rfl, ?_⟩
  intro b2 H3 hb2 hH3
  obtain ⟨hcp, hpu⟩ := box_new (vs := [.bool (normR neg ls).1, .slice B n c]) hb2 hH3 rfl rfl
  refine ⟨hcp, fun H4 hH4 => ?_⟩
  obtain ⟨g4, e4⟩ := hpu H4 hH4
  have e14 := (e1.trans e2).trans e4
  by_cases h48 : 48 < top ls
  · have h6 : (normR neg ls).2.2 = 6 := by unfold normR; rw [if_pos h48]
    rw [h6, if_neg (by decide)]
    refine hR _ _ ⟨?_, ?_, e14.fr⟩
    · unfold bigR; rw [if_pos h48]
    · unfold bigO; rw [if_pos h48]; exact V.ext e14
  have h0 : (normR neg ls).2.2 = 0 := by unfold normR; rw [if_neg h48]
  have ht : (normR neg ls).2.1 = trim ls := by unfold normR; rw [if_neg h48]
  rw [ht] at hr
  rw [h0, if_pos rfl]
  refine ⟨_, _, _, _, box_row g4, ?_⟩
  have hr4 := hr.ext e4
  have htl := trim_len ls
  have hln := hr.len
  refine HC.mono (num_Fix_c hr4.own.src hr.len hr.le (by omega) (limbs_trim hlm)) ?_
  rintro _ H5 ⟨rfl, e5⟩
  refine ⟨_, _, rfl, ?_⟩
  have e15 := e14.trans e5
  by_cases hfx : (fixR (normR neg ls).1 (trim ls)).2 = true
  · rw [if_pos hfx]
    have hin := fixR_in (limbs_trim hlm) hfx
    refine HC.mono (word_Fix_c ⟨by omega, by omega⟩) ?_
    rintro _ H6 ⟨rfl, e6⟩
    rw [if_pos hin]
    refine ⟨_, _, rfl, hR _ _ ⟨?_, ?_, (e15.trans e6).fr⟩⟩
    · unfold bigR; rw [if_neg h48, if_pos hfx]
    · unfold bigO; rw [if_neg h48, if_pos hfx]; exact V.ext (e15.trans e6)
  rw [if_neg hfx]
  have g5 := e5.get g4
  have hr5 := hr4.ext e5
  refine ⟨B, n, c, by rw [box_get g5]; rfl, ?_⟩
  refine ⟨fun p m d i H' => ∃ k : Nat, i = k ∧ k ≤ (trim ls).length ∧ Ext H5 H' ∧ Own H' 29 1 p m d (wvs ((trim ls).take k)) ∧ m = k ∧ (∀ j, j ∈ blks p → H5.size ≤ j), fun _ _ _ i _ => ((trim ls).length - i).toNat, ⟨0, rfl, by omega, Ext.refl _, by simpa using own_nil, rfl, by simp⟩, ?_⟩
  rintro p m d i H7 ⟨k, rfl, hk, e7, how, hmk, hbk⟩
  obtain rfl := hmk.symm
  by_cases hlt : (k : Int) < (n : Int)
  · rw [if_pos hlt]
    obtain ⟨a, rfl, hrow⟩ := src_some (hr5.ext e7).own.src (by omega)
    refine ⟨a, rfl, ⟨by omega, hlt⟩, (trim ls).getD k 0, by rw [show Int.toNat (k : Int) * 1 = k by omega]; exact rowD hrow (by omega), ?_⟩
    have hlb := limb_at (limbs_trim hlm) k
    intro b3 H8 hb3 hH8
    rw [wu64 (n := (trim ls).getD k 0) ⟨hlb.1, by omega⟩] at hH8
    have e8 : Ext H7 H8 := Ext.push' hH8
    refine own_append (ys := wvs [(trim ls).getD k 0]) (how.ext e8) (rowAt_blk (push_get hb3 hH8) _ 0 0 (fun j hj => by simp)) (by simp) (allOne_wvs _) rfl (by omega) ?_
    intro p' c' H9 how9 f9 hnew
    refine ⟨⟨k + 1, by rw [w64 (by omega)]; omega, by omega, (e7.trans e8).fr_trans f9 hbk, ?_, rfl, fun j hj => ?_⟩, by show (((trim ls).length : Int) - IntKind.wrap .i64 ((k : Int) + 1)).toNat < (((trim ls).length : Int) - (k : Int)).toNat; rw [w64 (by omega)]; omega⟩
    · rw [List.take_succ_eq_append_getElem (by omega), ← getD_at (by omega) 0]
      simpa [wvs] using how9
    · rcases hnew j hj with h | h
      · exact hbk j h
      · have := (e7.trans e8).size; omega
  rw [if_neg hlt]
  have hkn : k = (trim ls).length := by omega
  rw [hkn, List.take_length] at how
  refine ⟨_, by rw [hat_blk (e7.get g5)]; rfl, ?_⟩
  have e17 := e15.trans e7
  have key : ∀ mo : Int, mo = (if (normR neg ls).1 = true then 1 else 0) → obj_Heap_Make.C hv 3 mo p k d H7 (fun v_4 H10 => ∃ ra_3 : Int, ∃ rb_4 : Int, v_4 = .tuple #[.int .u64 ra_3, .int .i64 rb_4] ∧ R (.tuple #[.int .u64 ra_3, .int .i64 rb_4]) H10) := by
    intro mo hmo
    have hmw : IsWord mo := by rw [hmo]; split <;> exact ⟨by decide, by decide⟩
    refine HC.mono (obj_Make_c (ws := trim ls) (V.ext e17) how.src (by omega) (limbs_word (limbs_trim hlm)) (by decide) hmw hcn (by omega)) ?_
    rintro _ H10 ⟨rfl, V10, f10⟩
    refine ⟨_, _, rfl, hR _ _ ⟨?_, ?_, e17.fr.trans f10⟩⟩
    · unfold bigR; rw [if_neg h48, if_neg hfx, hmo]
    · unfold bigO; rw [if_neg h48, if_neg hfx, ← hmo]; exact V10
  by_cases hsg : (normR neg ls).1 = true
  · rw [if_pos hsg]; exact key 1 (by rw [if_pos hsg])
  · rw [if_neg hsg]; exact key 0 (by rw [if_neg hsg])

/-- what Num answers of a word -/
def numW (m : Mem) (w : Int) : Bool × List Int × Int :=
  if w % 8 = 0 then ((normR (decide (signed w / 8 < 0)) (ofL (signed w / 8))).1, (normR (decide (signed w / 8 < 0)) (ofL (signed w / 8))).2.1, 0)
  else if m.isObj w ∧ m.typ w = 3 then
    (if mayR (m.more w == 1) ((m.objWords w).map (· % 4294967296)) = true ∧ ¬ m.more w > 1 then (m.more w == 1, (m.objWords w).map (· % 4294967296), 0) else (false, [], 3))
  else (false, [], 3)
theorem obj_Num_c {H : Array Obj} {hv : Option Addr} {o : Option (Blk × Hp)} {w : Int} (V : View H hv o) (hw : IsWord w) :
    obj_Heap_Num.C hv w H (fun v H' => ∃ B n c, v = .tuple #[.agg #[.bool (numW (mof o) w).1, .slice B n c], .int .i64 (numW (mof o) w).2.2] ∧ NumRow H.size H' B n c (numW (mof o) w).2.1 ∧ Ext H H') := by
  refine HC.via fun R hR => obj_Heap_Num.link ?_
  unfold obj_Heap_Num.pt
  intro b H1 hb hH1
  have e1 : Ext H H1 := Ext.push' hH1
  have hg := push_get hb hH1
  have hbs := lt_size hg
  refine HC.mono (word_Int_c hw) ?_
  rintro _ H2 ⟨rfl, e2⟩
  have e12 := e1.trans e2
  have hg2 := e2.get hg
  have none3 : ∀ (H5 : Array Obj), Ext H2 H5 → numW (mof o) w = (false, [], 3) → (CanPuts H5 (Addr.mk b 0 none) 0 2) ∧ ∀ H18 : Array Obj, H18 = hputs H5 (Addr.mk b 0 none) [.bool false, .slice none 0 0] 0 →
      ∃ rNeg_5 : Bool, ∃ rMagB_5 : Option Addr, ∃ rMagN_5 : Nat, ∃ rMagC_5 : Nat, RowAt H18 (Addr.mk b 0 none) 0 [.bool rNeg_5, .slice rMagB_5 rMagN_5 rMagC_5] ∧ R (.tuple #[.agg #[.bool rNeg_5, .slice rMagB_5 rMagN_5 rMagC_5], .int .i64 3]) H18 := by
    intro H5 e5 hno
    obtain ⟨hcp, hpu⟩ := box_set (vs := [.bool false, .slice none 0 0]) (e5.get hg2) rfl rfl
    refine ⟨hcp, fun H6 hH6 => ?_⟩
    obtain ⟨g6, f6⟩ := hpu H6 hH6
    refine ⟨_, _, _, _, box_row g6, hR _ _ ⟨none, 0, 0, by rw [hno], by rw [hno]; exact numRow_nil, (e12.trans e5).fr_trans f6 (fun i hi => by simp at hi; omega)⟩⟩
  by_cases hf : w % 8 = 0
  · rw [if_pos hf]
    refine ⟨_, _, rfl, ?_⟩
    rw [if_pos rfl]
    have hsg : I64 (signed w / 8) := by unfold signed; split <;> exact ⟨by omega, by omega⟩
    refine HC.mono (num_Of_c hsg) ?_
    rintro _ H3 ⟨B, n, c, rfl, hr, e3⟩
    refine ⟨_, _, _, _, rfl, ?_⟩
    obtain ⟨hcp, hpu⟩ := box_set (vs := [.bool (normR (decide (signed w / 8 < 0)) (ofL (signed w / 8))).1, .slice B n c]) (e3.get hg2) rfl rfl
    refine ⟨hcp, fun H4 hH4 => ?_⟩
    obtain ⟨g4, f4⟩ := hpu H4 hH4
    have hs2 := e2.size
    refine ⟨_, _, _, _, box_row g4, hR _ _ ⟨B, n, c, ?_, ?_, (e12.trans e3).fr_trans f4 (fun i hi => by simp at hi; omega)⟩⟩
    · unfold numW; rw [if_pos hf]
    · unfold numW; rw [if_pos hf]
      exact (hr.keep f4 (fun i hi => by simp at hi; omega)).low (by have := e12.size; omega)
  rw [if_neg hf]
  refine ⟨_, _, rfl, ?_⟩
  rw [if_neg (by decide)]
  refine HC.mono (obj_words_c (V.ext e12) hw) ?_
  rintro _ H5 ⟨e5, ⟨hno, rfl⟩ | ⟨hO, hty, bw, hbw, rfl, how⟩⟩
  · refine ⟨_, _, _, _, rfl, ?_⟩
    rw [if_neg (by decide)]
    exact none3 H5 e5 (by unfold numW; rw [if_neg hf, if_neg hno])
  refine ⟨_, _, _, _, rfl, ?_⟩
  rw [if_pos rfl]
  have hwd := V.objWord w
  have hl62 : ((mof o).objWords w).length ≤ 62 := by rw [Mem.objWords_len]; have := V.len_bd w; omega
  have hnum : numW (mof o) w = (if mayR ((mof o).more w == 1) (((mof o).objWords w).map (· % 4294967296)) = true ∧ ¬ (mof o).more w > 1 then ((mof o).more w == 1, ((mof o).objWords w).map (· % 4294967296), 0) else (false, [], 3)) := by
    unfold numW; rw [if_neg hf, if_pos ⟨hO, hty⟩]
  refine HC.mono (obj_More_c (V.ext (e12.trans e5)) hw) ?_
  rintro _ H6 ⟨rfl, e6⟩
  refine ⟨_, rfl, ?_⟩
  intro b2 H7 hb2 hH7
  obtain ⟨hcp7, hpu7⟩ := box_new (vs := [.bool ((mof o).more w == 1), .slice none 0 0]) hb2 hH7 rfl rfl
  refine ⟨hcp7, fun H8 hH8 => ?_⟩
  obtain ⟨g8, e8⟩ := hpu7 H8 hH8
  have e18 := ((e12.trans e5).trans e6).trans e8
  have how8 := how.ext (e6.trans e8)
  have hbw8 := how8.lt bw (by simp)
  have hbw5 := how.lt bw (by simp)
  have hb2s := lt_size g8
  have h6s := e6.size
  generalize hwsd : (mof o).objWords w = ws at *
  generalize hmo : (mof o).more w = mo at *
  refine ⟨fun s H' => ∃ (k : Nat) (p : Option Addr) (d : Nat), s = k ∧ k ≤ ws.length ∧ H'[b2]? = some (.cells #[.bool (mo == 1), .slice p k d] 70 (0, 0)) ∧ Own H' 41 1 p k d (lvs ((ws.map (· % 4294967296)).take k)) ∧ (∀ j, j ∈ blks p → H8.size ≤ j) ∧ Fr [b2] H8 H', fun s _ => (ws.length - s).toNat, ⟨0, none, 0, rfl, by omega, g8, by simpa using own_nil, by simp, Fr.refl _ _⟩, ?_⟩
  rintro s H9 ⟨k, p, d, rfl, hk, g9, how9, hbk9, f9⟩
  have hw9 := how8.keep f9 (fun j hj => by simp at hj ⊢; omega)
  have e19 : Ext H H9 := e18.fr_trans f9 (fun i hi => by simp at hi; have := (((e12.trans e5).trans e6)).size; omega)
  by_cases hlt : (k : Int) < (ws.length : Int)
  · rw [if_pos hlt]
    have hx := hwd _ (List.getElem_mem (show k < ws.length by omega))
    obtain ⟨a, ha, hat9⟩ := hw9.at (j := k) (v := .int .u64 ws[k]) (by simp [wvs])
    cases ha
    refine ⟨_, rfl, ⟨by omega, hlt⟩, ws[k], by rw [show Int.toNat (k : Int) * 1 = k by omega]; exact hat9, p, k, d, by rw [box_get g9]; rfl, ?_⟩
    intro b3 H10 hb3 hH10
    rw [wrapU32] at hH10
    have e10 : Ext H9 H10 := Ext.push' hH10
    refine own_append (ys := lvs [ws[k] % 4294967296]) (how9.ext e10) (rowAt_blk (push_get hb3 hH10) _ 0 0 (fun j hj => by simp)) (by simp) (allOne_lvs _) rfl (by omega) ?_
    intro p' c' H11 how11 f11 hnew
    have g11 := f11.get (fun hi => by have := hbk9 _ hi; omega) (e10.get g9)
    obtain ⟨hcp12, hpu12⟩ := box_put g11 1 (.slice p' (k + 1) c') (by show 1 < 2; omega)
    refine ⟨hcp12, fun H12 hH12 => ?_⟩
    obtain ⟨g12, f12⟩ := hpu12 H12 hH12
    have hsz := f9.size
    have hsz10 := e10.size
    have hnew' : ∀ j, j ∈ blks p' → H8.size ≤ j := fun j hj => by
      rcases hnew j hj with h | h
      · exact hbk9 j h
      · omega
    refine ⟨⟨k + 1, p', c', by rw [w64 (by omega)]; omega, by omega, g12, ?_, hnew', ?_⟩, by show ((ws.length : Int) - IntKind.wrap .i64 ((k : Int) + 1)).toNat < ((ws.length : Int) - (k : Int)).toNat; rw [w64 (by omega)]; omega⟩
    · have h12 := how11.keep f12 (fun j hj => by have := hnew' j hj; simp; omega)
      rw [List.take_succ_eq_append_getElem (by simp; omega)]
      simpa [lvs] using h12
    · exact ((f9.trans' e10.fr (S'' := [b2]) (fun i h _ => h) (fun i h _ => h)).trans' f11 (S'' := [b2]) (fun i h _ => h) (fun i h hs => absurd (hbk9 i h) (by omega))).trans f12
  rw [if_neg hlt]
  have hkn : k = ws.length := by omega
  rw [List.take_of_length_le (by simp; omega)] at how9
  refine ⟨_, _, _, _, box_row g9, ?_⟩
  refine HC.mono (num_May_c how9.src (by simp; omega) how9.le (by omega)) ?_
  rintro _ H13 ⟨rfl, e13⟩
  refine ⟨_, rfl, ?_⟩
  have hg9 : H9[b]? = some (.cells #[.bool false, .slice none 0 0] 70 (0, 0)) := f9.get (fun hi => by simp at hi; have := (((e2.trans e5).trans e6)).size; omega) (((e5.trans e6).trans e8).get hg2)
  have e29 : Ext H2 H9 := ((e5.trans e6).trans e8).fr_trans f9 (fun i hi => by simp at hi; have := ((e5.trans e6)).size; omega)
  by_cases hmay : mayR (mo == 1) (ws.map (· % 4294967296)) = true
  case neg =>
    rw [if_neg hmay]
    exact none3 H13 (e29.trans e13) (by rw [hnum, if_neg (fun h => hmay h.1)])
  rw [if_pos hmay]
  refine HC.mono (obj_More_c (V.ext (e19.trans e13)) hw) ?_
  rintro _ H14 ⟨rfl, e14⟩
  refine ⟨_, rfl, ?_⟩
  rw [hmo]
  by_cases hgt : mo > 1
  · rw [if_pos hgt]
    exact none3 H14 ((e29.trans e13).trans e14) (by rw [hnum, if_neg (fun h => h.2 hgt)])
  rw [if_neg hgt]
  have g14 := (e13.trans e14).get g9
  have how14 := how9.ext (e13.trans e14)
  refine ⟨_, _, _, _, box_row g14, ?_⟩
  obtain ⟨hcp, hpu⟩ := box_set (vs := [.bool (mo == 1), .slice p k d]) ((e13.trans e14).get hg9) rfl rfl
  refine ⟨hcp, fun H16 hH16 => ?_⟩
  obtain ⟨g16, f16⟩ := hpu H16 hH16
  have h18s := e18.size
  have h2s := e2.size
  have h28s := ((e5.trans e6).trans e8).size
  refine ⟨_, _, _, _, box_row g16, hR _ _ ⟨p, k, d, by rw [hnum, if_pos ⟨hmay, hgt⟩], ?_, ((e19.trans e13).trans e14).fr_trans f16 (fun i hi => by simp at hi; omega)⟩⟩
  rw [hnum, if_pos ⟨hmay, hgt⟩]
  exact ⟨how14.keep f16 (fun j hj => by have := hbk9 j hj; simp; omega), fun j hj => by have := hbk9 j hj; omega⟩
end Go.Proofs.Ytfohlkiikppefaa
