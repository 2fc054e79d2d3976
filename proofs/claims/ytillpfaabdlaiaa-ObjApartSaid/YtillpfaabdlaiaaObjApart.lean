/- The law ObjApart of morainelaw10 holds: called with any arguments it answers true and leaves what it was handed as it was. No condition. -/
import Derived.Test.YtillpfaabdlaiaaLaid
import Derived.Test.YtillpfaabdlaiaaMap
import Derived.Test.YtillpfaabdlaiaaHelp10
import Derived.Test.YtillpfaabdlaiaaLaws10
import Derived.Test.YtillpfaabdlaiaaLx
set_option linter.unusedVariables false
set_option linter.unusedSimpArgs false
namespace Go.Proofs.Ytillpfaabdlaiaa.objApart
open Go Go.Proofs.Ytillpfaabdlaiaa
open Go.ChangeShapes Go.WideShapes Go.ChangeAt Go.RowKit

def Owner (A : Array Obj) (bm : Nat) (U : Int → Prop) : Prop := ∃ (es : Array MapEntry) (cl : Nat) (ks : List (Int × Value)), A[bm]? = some (.map es cl) ∧ Ents (intKey .i64) es.toList ks ∧ ∀ a v, mget ks a = some v → U a
theorem Owner.get {A A' : Array Obj} {bm : Nat} {U U' : Int → Prop} (h : Owner A bm U) (g : ∀ o, A[bm]? = some o → A'[bm]? = some o) (hU : ∀ a, U a → U' a) : Owner A' bm U' := by
  obtain ⟨es, cl, ks, h1, h2, h3⟩ := h
  exact ⟨es, cl, ks, g _ h1, h2, fun a v hv => hU a (h3 a v hv)⟩
theorem mget_mput (ks : List (Int × Value)) (k a : Int) (v : Value) : mget (mput ks k v) a = if a = k then some v else mget ks a := by
  induction ks with
  | nil =>
    show mget [(k, v)] a = _
    unfold mget
    by_cases h : a = k
    · simp [h]
    · simp [h]
  | cons p r ih =>
    show mget (if k = p.1 then (k, v) :: r else p :: mput r k v) a = _
    by_cases hk : k = p.1
    · rw [if_pos hk]
      unfold mget
      by_cases h : a = k
      · simp [h]
      · rw [if_neg h, List.find?_cons_of_neg (by simpa using h), List.find?_cons_of_neg (by rw [← hk]; simpa using h)]
    · rw [if_neg hk]
      by_cases h : a = p.1
      · have : a ≠ k := fun h2 => hk (by rw [← h2, h])
        rw [if_neg this]
        unfold mget
        simp [h]
      · have e1 : mget (p :: mput r k v) a = mget (mput r k v) a := by unfold mget; rw [List.find?_cons_of_neg (by simpa using h)]
        have e2 : mget (p :: r) a = mget r a := by unfold mget; rw [List.find?_cons_of_neg (by simpa using h)]
        rw [e1, e2]; exact ih
theorem words_bd {m : Mem} (ok : MemOK m) (gs : List Int) : 0 ≤ m.words gs ∧ m.words gs ≤ 65536 := by
  have h1 := sumN_bd ok (m.takenTo gs m.limit)
  have h2 := m.takenTo_len gs m.limit
  have h3 := ok.lim
  unfold Mem.words
  omega
theorem and7 {w : Int} (hw : IsWord w) : iand .u64 w 7 = w % 8 := iand_mask 3 (by decide) ⟨hw.1, by have := hw.2; omega⟩ 7 (by decide)

theorem law (limit : Int) (s : Sl ActOf) (H : Array Obj) (hl : I64 limit) (A : Acts H s) :
    morainelaw10_ObjApart.C limit s.p s.n s.c H (fun v H' => v = .bool true ∧ Ext H H') := by
  refine HC.via fun R hR => morainelaw10_ObjApart.link ?_
  unfold morainelaw10_ObjApart.pt
  refine HC.mono (obj_New_c hl) ?_
  rintro _ H1 (⟨hn, rfl, e1⟩ | ⟨_, b, x, rfl, V1, hx, e1, hy⟩)
  · -- no heap
    refine ⟨_, _, rfl, fun q H' => q = false ∧ H' = H1, ?_, ?_⟩
    · rw [if_neg (by decide)]; exact ⟨rfl, rfl⟩
    rintro _ H2 ⟨rfl, rfl⟩
    rw [if_neg (by decide)]
    refine HC.mono (many10_c (A.ext e1)) ?_
    rintro _ H3 ⟨rfl, q, rfl, _⟩
    refine ⟨_, rfl, ?_⟩
    rw [if_pos (by cases q <;> rfl)]
    refine ⟨fun q H' => q = true ∧ Ext H H', ?_, ?_⟩
    · rw [if_neg (by decide), if_pos rfl]
      refine HC.mono awake10_c ?_
      rintro _ H4 ⟨rfl, e4⟩
      exact ⟨_, rfl, rfl, e1.trans e4⟩
    rintro _ H4 ⟨rfl, e4⟩
    exact hR _ _ ⟨rfl, e4⟩
  refine ⟨_, _, rfl, fun q H' => q = false ∧ H' = H1, ?_, ?_⟩
  · rw [if_pos rfl, onPtr_some]; exact ⟨rfl, rfl⟩
  rintro _ H2 ⟨rfl, rfl⟩
  rw [if_neg (by decide)]
  have L1 : Live H H2 b x := ⟨V1.inv.2.1, V1.inv.2.2, e1, hy⟩
  have c1 : x.sp.mem.count = 0 := by subst hx; rfl
  have v1 : x.sp.mem.Even := by subst hx; exact even_fresh _
  have z1 : x.sp.mem.Gen0 := by subst hx; exact fun i h => absurd rfl h
  have u0 : x.sp.mem.words [] = 0 := by subst hx; exact words_fresh _ _
  have u1 : x.sp.mem.words [0] = 0 := by subst hx; exact words_fresh _ _
  clear hx V1
  refine HC.mono (many10_c (A.ext e1)) ?_
  rintro _ H3 ⟨rfl, q, rfl, hmany⟩
  refine ⟨_, rfl, ?_⟩
  cases q with
  | true =>
    rw [if_pos (by rfl)]
    refine ⟨fun q H' => q = true ∧ Ext H H', ?_, ?_⟩
    · rw [if_pos rfl]
      refine HC.mono awake10_c ?_
      rintro _ H4 ⟨rfl, e4⟩
      exact ⟨_, rfl, rfl, e1.trans e4⟩
    rintro _ H4 ⟨rfl, e4⟩
    exact hR _ _ ⟨rfl, e4⟩
  | false =>
  rw [if_neg (by decide)]
  obtain ⟨h200, hacts⟩ := hmany rfl
  have hlen := A.len
  intro bm H7 hbm hH7
  have e7 : Ext H3 H7 := Ext.push' hH7
  have g7 := push_get hbm hH7
  have hbmA : bm ∉ b.all := fun h => by have := L1.at'.lt bm h; omega
  have hbmH : H.size ≤ bm := by have := e1.size; omega
  refine ⟨fun mp mn mc sum i A' => (0 ≤ i ∧ i ≤ s.n) ∧ ∃ (x : Hp) (mw : List Int), Live H A' b x ∧ x.sp.mem.Even ∧ x.sp.mem.Gen0 ∧ mn = mw.length ∧ Own A' 32 1 mp mn mc (wvs mw) ∧ (∀ j ∈ blks mp, j ∉ b.all ∧ j ≠ bm ∧ H.size ≤ j) ∧ (∀ w ∈ mw, IsWord w) ∧ mw.length ≤ i ∧ x.sp.mem.count ≤ i ∧ sum = x.sp.mem.words [] ∧ sum = x.sp.mem.words [0] ∧ Owner A' bm x.sp.mem.used,
    fun _ _ _ _ i _ => (s.n - i).toNat, ⟨by omega, x, [], L1.grow e7, v1, z1, rfl, own_nil, by simp, by simp, by simp, by omega, u0.symm, u1.symm, ⟨#[], 0, [], g7, rfl, fun a v h => by cases h⟩⟩, ?_⟩
  clear v1 c1 z1 u0 u1 L1
  rintro mp mn mc sum i H8 ⟨hi, x, mw, L8, he, hz, rfl, how, hmp, hmw, hml, hcn, hs0, hs1, hO⟩
  have hbd := words_bd L8.ok.mem []
  by_cases hlt : i < (s.n : Int)
  case neg =>
    rw [if_neg hlt]
    refine ⟨_, rfl, _, L8.at'.hPtr, _, rfl, _, L8.at'.cd.cPtr, HC.mono (space_Words_c (gs := []) L8.at'.cd.sp L8.ok rfl rfl (by decide)) ?_⟩
    rintro _ H30 ⟨rfl, e30⟩
    refine ⟨_, rfl, ?_⟩
    rw [if_pos hs0.symm]
    have L30 := L8.grow e30
    refine ⟨_, L30.at'.hPtr, _, rfl, _, L30.at'.cd.cPtr, fun b4 H31 hb4 hH31 => ?_⟩
    have L31 := L30.grow (Ext.push' hH31)
    refine HC.mono (space_Words_c (gs := [0]) L31.at'.cd.sp L31.ok (rowAt_blk (push_get hb4 hH31) _ 0 0 (fun j hj => by simp [ivs])) rfl (by decide)) ?_
    rintro _ H32 ⟨rfl, e32⟩
    refine ⟨_, rfl, ?_⟩
    rw [if_pos hs1.symm]
    refine HC.mono awake10_c ?_
    rintro _ H33 ⟨rfl, e33⟩
    exact ⟨_, rfl, hR _ _ ⟨rfl, (L31.grow e32).ext.trans e33⟩⟩
  rw [if_pos hlt]
  have hiN : i.toNat < s.xs.length := by omega
  have hact : s.xs[i.toNat] ∈ s.xs := List.getElem_mem _
  obtain ⟨la, hla, hrow⟩ := (A.ext L8.ext).row i.toNat hiN
  have aOK := A.each _ hact
  have hln := hacts _ hact
  generalize hax : s.xs[i.toNat] = act at *
  have hkind := wf_i64 aOK.kind
  have hn := wf_i64 aOK.n
  have hmore := wf_u64 aOK.more
  refine ⟨la, hla, ⟨hi.1, hlt⟩, _, _, _, _, _, _, _, _, _, _, _, _, _, _, _, _, hrow, fun bx H9 hbx hH9 => ?_⟩
  obtain ⟨q8, q9⟩ := box_new (n := 12) (vs := act.cells) hbx hH9 rfl rfl
  refine ⟨q8, fun H10 hH10 => ?_⟩
  obtain ⟨g10, e10⟩ := q9 H10 hH10
  have L10 := L8.grow e10
  have how10 := how.ext e10
  have hcnt : x.sp.mem.count < 4611686018427387904 := by omega
  have hva : IsWord (valWord act.x.w act.x.ofv mw) := valWord_word (wf_u64 aOK.x.w) hmw
  have hvb : IsWord (valWord act.y.w act.y.ofv mw) := valWord_word (wf_u64 aOK.y.w) hmw
  refine ⟨_, box_get g10 0, fun wv f A' => ∃ x' : Hp, Live H A' b x' ∧ Acted x x' wv f ∧ Fr b.all H10 A', ?_, ?_⟩
  · -- the call itself
    by_cases d0 : act.dov = 0
    · rw [if_pos d0]
      refine ⟨_, _, (box_row g10).sub 1 rfl, _, _, (box_row g10).sub 3 rfl, ?_⟩
      refine HC.mono (word10_c (wf_i64 aOK.x.ofv) how10) ?_
      rintro _ H11 ⟨rfl, e11⟩
      refine ⟨_, rfl, (box_row (e11.get g10)).sub 3 rfl, ?_⟩
      refine HC.mono (word10_c (wf_i64 aOK.y.ofv) (how10.ext e11)) ?_
      rintro _ H12 ⟨rfl, e12⟩
      refine ⟨_, rfl, ?_⟩
      have L12 := (L10.grow e11).grow e12
      refine HC.mono (obj_Cons_c L12.view hva hvb hcnt) ?_
      rintro _ H13 ⟨rfl, V, fr⟩
      obtain ⟨w, e, x', q1, q2, ha⟩ := acted_cons L12 he (tag := 1) (.inl rfl) hva hvb
      replace q1 : putR (some (b, x)) 0 1 [valWord act.x.w act.x.ofv mw, valWord act.y.w act.y.ofv mw] = (w, e) := q1
      replace q2 : putO (some (b, x)) 0 1 [valWord act.x.w act.x.ofv mw, valWord act.y.w act.y.ofv mw] = some (b, x') := q2
      rw [q2] at V
      rw [q1]
      exact ⟨w, e, rfl, x', L12.step V fr, ha, ((e11.trans e12).fr (S := b.all)).trans (Live.others fr)⟩
    rw [if_neg d0]
    by_cases d1 : act.dov = 1
    · rw [if_pos d1]
      refine ⟨_, _, (box_row g10).sub 1 rfl, _, _, (box_row g10).sub 3 rfl, ?_⟩
      refine HC.mono (word10_c (wf_i64 aOK.x.ofv) how10) ?_
      rintro _ H11 ⟨rfl, e11⟩
      refine ⟨_, rfl, (box_row (e11.get g10)).sub 3 rfl, ?_⟩
      refine HC.mono (word10_c (wf_i64 aOK.y.ofv) (how10.ext e11)) ?_
      rintro _ H12 ⟨rfl, e12⟩
      refine ⟨_, rfl, ?_⟩
      have L12 := (L10.grow e11).grow e12
      refine HC.mono (obj_Weak_c L12.view hva hvb hcnt) ?_
      rintro _ H13 ⟨rfl, V, fr⟩
      obtain ⟨w, e, x', q1, q2, ha⟩ := acted_cons L12 he (tag := 2) (.inr rfl) hva hvb
      replace q1 : putR (some (b, x)) 1 2 [valWord act.x.w act.x.ofv mw, valWord act.y.w act.y.ofv mw] = (w, e) := q1
      replace q2 : putO (some (b, x)) 1 2 [valWord act.x.w act.x.ofv mw, valWord act.y.w act.y.ofv mw] = some (b, x') := q2
      rw [q2] at V
      rw [q1]
      exact ⟨w, e, rfl, x', L12.step V fr, ha, ((e11.trans e12).fr (S := b.all)).trans (Live.others fr)⟩
    rw [if_neg d1]
    by_cases d2 : act.dov = 2
    · rw [if_pos d2]
      refine ⟨_, box_get g10 5, _, box_get g10 7, _, _, _, box_get g10 8, ?_⟩
      have hll : act.l.n ≤ 200 := hln.1
      refine HC.mono (words10_c (aOK.l.ext L10.ext) (by omega) how10) ?_
      rintro _ H24 ⟨qp, qc, rfl, ho24, e24, hy24⟩
      have g24 := e24.get g10
      refine ⟨_, _, _, rfl, (box_row g24).sub 5 rfl, (box_row g24).sub 7 rfl, ?_⟩
      have L24 := L10.grow e24
      have hws : ∀ w ∈ (act.l.xs.map fun v => valWord v.w v.ofv mw), IsWord w := fun w hw => by
        obtain ⟨v, hv, rfl⟩ := List.mem_map.1 hw
        exact valWord_word (wf_u64 (aOK.l.each v hv).w) hmw
      have hwl : act.l.n = (act.l.xs.map fun v => valWord v.w v.ofv mw).length := by rw [List.length_map, aOK.l.len]
      refine HC.mono (obj_Make_c L24.view ho24.src hwl hws hkind hmore hcnt (by omega)) ?_
      rintro _ H25 ⟨rfl, V, fr⟩
      obtain ⟨w, e, x', q1, q2, ha⟩ := acted_make L24 he hws hmore (kind := act.kind)
      rw [q2] at V
      rw [q1]
      exact ⟨w, e, rfl, x', L24.step V fr, ha, (e24.fr (S := b.all)).trans (Live.others fr)⟩
    rw [if_neg d2]
    by_cases d3 : act.dov = 3
    · rw [if_pos d3]
      refine ⟨_, box_get g10 6, _, _, (box_row g10).sub 1 rfl, ?_⟩
      refine HC.mono (word10_c (wf_i64 aOK.x.ofv) how10) ?_
      rintro _ H11 ⟨rfl, e11⟩
      refine ⟨_, rfl, (box_row (e11.get g10)).sub 6 rfl, ?_⟩
      have L11 := L10.grow e11
      refine HC.mono (obj_Vector_c L11.view hva hcnt) ?_
      rintro _ H13 ⟨rfl, V, fr⟩
      obtain ⟨w, e, x', q1, q2, ha⟩ := acted_vec L11 he (n := act.n) hva
      rw [q2] at V
      rw [q1]
      exact ⟨w, e, rfl, x', L11.step V fr, ha, (e11.fr (S := b.all)).trans (Live.others fr)⟩
    rw [if_neg d3]
    by_cases d4 : act.dov = 4
    · rw [if_pos d4]
      refine ⟨_, box_get g10 9, ?_⟩
      refine HC.mono (obj_String_c L10.view hcnt) ?_
      rintro _ H13 ⟨rfl, V, fr⟩
      obtain ⟨w, e, x', q1, q2, ha⟩ := acted_str L10 he act.s
      rw [q2] at V
      rw [q1]
      exact ⟨w, e, rfl, x', L10.step V fr, ha, Live.others fr⟩
    rw [if_neg d4]
    by_cases d5 : act.dov = 5
    · rw [if_pos d5]
      refine ⟨_, _, _, _, (box_row g10).sub 10 rfl, ?_⟩
      have hnum := aOK.num
      have h60 : act.num.mag.n ≤ 60 := hln.2.2
      have hlm : ∀ z ∈ act.num.mag.xs, IsLimb z := fun z hz => by
        have := wf_u32 (hnum.mag.each z hz)
        exact ⟨this.1, by have := this.2; omega⟩
      have hsrc : SrcAt H10 act.num.mag.p (lvs act.num.mag.xs) := (SlOK.ext hnum.mag L10.ext).nums.src
      refine HC.mono (obj_Int_c L10.view hcnt hsrc hnum.mag.len.symm hnum.mag.cap (by omega) hlm) ?_
      rintro _ H13 ⟨rfl, V, fr⟩
      obtain ⟨w, e, x', q1, q2, ha⟩ := acted_big L10 he (neg := act.num.neg) hlm
      rw [q2] at V
      rw [q1]
      exact ⟨w, e, rfl, x', L10.step V fr, ha, Live.others fr⟩
    rw [if_neg d5]
    exact ⟨x, L10, .inl ⟨rfl, .inl (by decide)⟩, Fr.refl _ _⟩
  rintro wv f H11 ⟨x', L11, ha, f11⟩
  have f811 : Fr b.all H8 H11 := (e10.fr (S := b.all)).trans f11
  have gm11 : ∀ o, H8[bm]? = some o → H11[bm]? = some o := fun o h => f811.get hbmA h
  have how11 := how.keep f811 (fun j hj => (hmp j hj).1)
  have hm1 : ((s.n : Int) - IntKind.wrap .i64 (i + 1)).toNat < ((s.n : Int) - i).toNat := by rw [w64 (by omega)]; omega
  rcases ha with ⟨rfl, hf⟩ | ⟨rfl, n, hl, hn64, hsz, hev, hct, hww⟩
  · rw [if_pos (by
      rcases hf with h | ⟨h, hw⟩
      · rw [Bool.or_eq_true, bne_iff_ne]; exact .inl h
      · rw [Bool.or_eq_true, beq_iff_eq, and7 hw]; exact .inr h)]
    refine ⟨⟨by rw [w64 (by omega)]; omega, x', mw, L11, he, hz, rfl, how11, hmp, hmw, by rw [w64 (by omega)]; omega, by rw [w64 (by omega)]; omega, hs0, hs1, hO.get gm11 (fun a h => h)⟩, hm1⟩
  rw [if_neg (by
    rw [Bool.or_eq_true, bne_iff_ne, beq_iff_eq, and7 hww]
    rintro (h | h)
    · exact h rfl
    · exact hl.addr.2.2 h)]
  intro b3 H12 hb3 hH12
  have e12 : Ext H11 H12 := Ext.push' hH12
  refine own_append (ys := [.int .u64 wv]) (how11.ext e12) (rowAt_blk (push_get hb3 hH12) _ 0 0 (fun j hj => by simp)) (by simp) rfl rfl (by omega) ?_
  intro p' c' H13 how13 f13 hnew
  have s8 := f811.size
  have s12 := e12.size
  have hbm8 : bm < H8.size := by
    obtain ⟨es, cl, ks, h1, _⟩ := hO
    exact lt_size h1
  have hall8 : ∀ j ∈ b.all, j < H8.size := L8.at'.lt
  have hmpb : bm ∉ blks mp := fun h => (hmp bm h).2.1 rfl
  have L12 := L11.grow e12
  have L13 : Live H H13 b x' := ⟨L12.at'.keep f13 (fun j hj h => (hmp j hj).1 h), L12.ok, L12.ext.fr_trans f13 (fun j hj => (hmp j hj).2.2), L12.young⟩
  have gm13 : ∀ o, H8[bm]? = some o → H13[bm]? = some o := fun o h => f13.get hmpb (e12.get (gm11 o h))
  refine HC.mono (obj_Size_c L13.view hww) ?_
  rintro _ H14 ⟨rfl, e14⟩
  have L14 := L13.grow e14
  refine ⟨_, rfl, _, rfl, _, L14.at'.hPtr, HC.mono (card_Gen_c L14.at'.cd hww) ?_⟩
  rintro _ H15 ⟨rfl, e15⟩
  have e1415 := e14.trans e15
  refine ⟨_, _, rfl, ?_⟩
  have hm : mof (some (b, x')) = x'.sp.mem := rfl
  rw [hm, hsz, show x'.sp.mem.genOf wv = (0, true) from hl.gen]
  have hw8 : 0 ≤ wv / 8 ∧ wv / 8 < 65536 := ⟨hl.one.2, hl.addr.1.2⟩
  have esh : IntKind.wrap .i64 (ishr .u64 wv 3) = wv / 8 := by
    rw [ishr_pos 3 3 rfl (by decide)]
    show IntKind.wrap .i64 (wv / 8) = _
    rw [w64 (by omega)]
  rw [esh]
  rw [if_neg (by
    rw [w64 (n := wv / 8 + (n : Int)) (by omega), w64 (n := wv / 8 + (n : Int) - 1) (by omega), Int.tdiv_eq_ediv_of_nonneg hw8.1, Int.tdiv_eq_ediv_of_nonneg (by omega), w64 (n := wv / 8 / 64) (by omega), w64 (n := (wv / 8 + (n : Int) - 1) / 64) (by omega), ← hl.one.1]
    rw [decide_eq_false (show ¬ (n : Int) < 1 by omega)]
    simp)]
  have L15 := L14.grow e15
  have gm15 : ∀ o, H8[bm]? = some o → H15[bm]? = some o := fun o h => e1415.get (gm13 o h)
  refine ⟨fun k A' => (0 ≤ k ∧ k ≤ n) ∧ Owner A' bm (fun a => x.sp.mem.used a ∨ ∃ j : Nat, (j : Int) < k ∧ a = wv / 8 + j) ∧ Fr [bm] H15 A', fun k _ => (n - k).toNat, ⟨by omega, hO.get gm15 (fun a h => .inl h), Fr.refl _ _⟩, ?_⟩
  rintro k H16 ⟨hk, hO16, f16⟩
  by_cases hkl : k < (n : Int)
  · rw [if_pos hkl]
    obtain ⟨es, cl, ks, g16, hE, hU⟩ := hO16
    have hnone : mget ks (IntKind.wrap .i64 (wv / 8 + k)) = none := by
      rw [w64 (by omega)]
      cases hmg : mget ks (wv / 8 + k) with
      | none => rfl
      | some v =>
        exfalso
        rcases hU _ _ hmg with h | ⟨j, h1, h2⟩
        · have := hl.fresh k.toNat (by omega)
          rw [show ((k.toNat : Nat) : Int) = k by omega] at this
          exact this h
        · omega
    refine ⟨es, cl, ks, g16, hE, 0, by rw [hnone]; rfl, ?_⟩
    rw [if_pos rfl]
    refine ⟨es, cl, ks, g16, hE, fun es3 cl3 H17 hH17 hE3 => ?_⟩
    have g17 : H17[bm]? = some (.map es3 cl3) := by rw [hH17]; exact setBlk_get (lt_size g16)
    have f17 : Fr [bm] H16 H17 := by rw [hH17]; exact Fr.set
    refine ⟨⟨by rw [w64 (by omega)]; omega, ⟨es3, cl3, _, g17, hE3, fun a v hv => ?_⟩, f16.trans f17⟩, by show ((n : Int) - IntKind.wrap .i64 (k + 1)).toNat < ((n : Int) - k).toNat; rw [w64 (by omega)]; omega⟩
    rw [w64 (n := wv / 8 + k) (by omega), mget_mput] at hv
    rw [w64 (n := k + 1) (by omega)]
    by_cases hak : a = wv / 8 + k
    · exact .inr ⟨k.toNat, by omega, by omega⟩
    · rw [if_neg hak] at hv
      rcases hU _ _ hv with h | ⟨j, h1, h2⟩
      · exact .inl h
      · exact .inr ⟨j, by omega, h2⟩
  · rw [if_neg hkl]
    have hkn : k = n := by omega
    subst hkn
    have L16 : Live H H16 b x' := ⟨L15.at'.keep f16 (fun j hj h => by simp at hj; subst hj; exact hbmA h), L15.ok, L15.ext.fr_trans f16 (fun j hj => by simp at hj; subst hj; exact hbmH), L15.young⟩
    have hbm' : bm ∉ blks p' := fun h => by
      rcases hnew bm h with h | h
      · exact hmpb h
      · omega
    have how16 := (how13.ext e1415).keep f16 (fun j hj h => by simp at h; subst h; exact hbm' hj)
    have hw0 := hl.words [] (.inl rfl)
    have hw1 := hl.words [0] (.inr rfl)
    refine ⟨⟨by rw [w64 (by omega)]; omega, x', mw ++ [wv], L16, hev, hl.gen0 hz, by simp, by simpa [wvs] using how16, fun j hj => ?_, fun v hv => ?_, by rw [w64 (by omega)]; simp; omega, by rw [w64 (by omega)]; omega, by rw [w64 (by omega)]; omega, by rw [w64 (by omega)]; omega, ?_⟩, hm1⟩
    · rcases hnew j hj with h | h
      · exact hmp j h
      · exact ⟨fun h2 => by have := hall8 j h2; omega, by omega, by have := L8.ext.size; omega⟩
    · rcases List.mem_append.1 hv with h | h
      · exact hmw v h
      · simp at h; subst h; exact hww
    · obtain ⟨es, cl, ks, h1, h2, h3⟩ := hO16
      refine ⟨es, cl, ks, h1, h2, fun a v hv => ?_⟩
      rcases h3 a v hv with h | ⟨j, h4, rfl⟩
      · exact hl.keep a h
      · exact hl.mine j (by omega)
set_option maxRecDepth 100000 in
theorem lifted (os : Os) (started : os.Started) (H : Type) (enc : TypeId × Value → H) :
    ReturnsInHanded {} Try.checked os 3 .any (Rows.objApartSpec.pre6 enc Try.prog Try.f3 Rows.objApartRow.domain false) (Rows.objApartSpec.post enc Try.prog Try.f3 false true false false) := by
  refine law_lifted (tb := 4) started (by kernel_rfl) Try.func3
    (ChangeSpec.witness6 (enc := enc) (C := Try.checked) false ⟨#[], #[.int .i64 0, .slice none 0 0], []⟩ 8 (by kernel_rfl) (by kernel_rfl) (by kernel_rfl) (by kernel_rfl))
    rfl (by kernel_rfl) rfl Try.underlying4 (fun ds hds => ?_) ?_
  · match ds, hds with
    | [d0, d1], _ => rfl
  intro W base args ds p hval hA _
  rw [Try.params3] at hA hval
  obtain ⟨v0, vs0, d0, ds0, p0, q0, hargs, rfl, rfl, h0, r0⟩ := trodAll_cons hA
  obtain ⟨v1, vs1, d1, ds1, p1, q1, rfl, rfl, rfl, h1, r1⟩ := trodAll_cons r0
  obtain ⟨rfl, rfl, rfl⟩ := trodAll_nil r1
  obtain rfl : args = #[v0, v1] := by cases args; simp_all
  obtain ⟨a0, rfl, rfl, rfl, w0⟩ := open_int Try.underlying3 (hval 0 3 v0 rfl rfl) h0
  obtain ⟨s1, rfl, w1⟩ := open_read Try.underlying22 (by kernel_rfl) reads_ActOf (B := maxLen) (.inl rfl) (hval 1 22 v1 rfl rfl) h1
  exact law a0 s1 W.heap (wf_i64 w0) w1

theorem over : Rows.objApartRow.holds Try.pinned (OpenSpec.ofChange Rows.objApartSpec) :=
  OpenClaim.holds_of_wide 3 Try.f3 rfl rfl rfl rfl rfl rfl rfl ⟨rfl, rfl, rfl, rfl, rfl⟩ rfl rfl rfl rfl rfl (by kernel_rfl) Try.func3 (by kernel_rfl)
    (of_decide_eq_true (by kernel_rfl)) (by unfold Func.isWrapper; first | (rw [if_pos (by decide +kernel)]; kernel_rfl) | (rw [if_neg (by decide +kernel)]; exact ⟨rfl, rfl⟩))
    (fun os started H enc _ => lifted os started H enc)

theorem proved : Rows.ObjApartSaid :=
  over
#print axioms proved
end Go.Proofs.Ytillpfaabdlaiaa.objApart
