/- The law ObjKeeps of morainelaw10 holds: called with any arguments it answers true and leaves what it was handed as it was. No condition. -/
import Derived.Test.YtfohlkiikppefaaKeepsA
import Derived.Test.YtfohlkiikppefaaL10ObjKeeps
set_option linter.unusedVariables false
set_option linter.unusedSimpArgs false
namespace Go.Proofs.Ytfohlkiikppefaa.objKeeps
open Go Go.Proofs.Ytfohlkiikppefaa
open Go.ChangeShapes Go.WideShapes Go.ChangeAt Go.RowKit

theorem there10_c {H : Array Obj} {p : Option Addr} {n c : Nat} {ts : List TH} {w : Int} (ho : Own H 75 3 p n c (ts.flatMap TH.cells)) (hn : n = ts.length) (hl : ts.length ≤ 1000) :
    morainelaw10_there.C p n c w H (fun v H' => H' = H ∧ ∃ x : Bool, v = .bool x ∧ (x = true → ∃ k, ∃ h : k < ts.length, ts[k].w = w)) := by
  subst hn
  refine HC.via fun R hR => morainelaw10_there.link ?_
  unfold morainelaw10_there.pt
  refine ⟨fun i H' => H' = H ∧ (0 ≤ i ∧ i ≤ ts.length), fun i _ => (ts.length - i).toNat, ⟨rfl, by omega⟩, ?_⟩
  rintro i H1 ⟨rfl, hi⟩
  by_cases hlt : i < (ts.length : Int)
  case neg => rw [if_neg hlt]; exact hR _ _ ⟨rfl, false, rfl, fun h => by cases h⟩
  rw [if_pos hlt]
  obtain ⟨a, ha, hr, _⟩ := ho.elem TH.cells_len (by decide) (k := i.toNat) (by omega)
  have h0 := hr 0 _ rfl
  rw [addr_add0] at h0
  refine ⟨a, ha, ⟨hi.1, hlt⟩, _, h0, ?_⟩
  by_cases hw : ts[i.toNat].w = w
  · rw [if_pos hw]; exact hR _ _ ⟨rfl, true, rfl, fun _ => ⟨_, _, hw⟩⟩
  · rw [if_neg hw, w64 (n := i + 1) (by omega)]
    exact ⟨⟨rfl, by omega⟩, by show ((ts.length : Int) - (i + 1)).toNat < ((ts.length : Int) - i).toNat; omega⟩

/-- what the calls leave behind: the thing that was made, in a box -/
structure Fresh (H0 H : Array Obj) (b : Blk) (x : Hp) (ts : List TH) (b2 : Nat) (w kind : Int) (p : Option Addr) (n c : Nat) : Prop where
  box : ∃ cs : Array Value, H[b2]? = some (.cells cs 75 (0, 0)) ∧ cs = #[.int .u64 w, .int .i64 kind, .slice p n c]
  ws : ∃ ws : List Int, SrcAt H p (wvs ws) ∧ n = ws.length ∧ n ≤ 1000 ∧ (∀ v ∈ ws, IsWord v) ∧ Holds x.sp.mem ⟨w, kind, p, c, ws⟩ ∧ ∀ t ∈ ts, Sep t.w t.n w (TH.n ⟨w, kind, p, c, ws⟩)

theorem keep_same {x x' : Hp} {ts : List TH} (h : InvH x ts) (hn : ∀ k, (x.sp.mem.seg k).n ≤ 64) (k : Keep x.sp.mem x'.sp.mem) (e : x'.sp.mem.Even) : InvH x' ts :=
  ⟨e, fun t ht => (h.th t ht).keep hn k, h.wds, h.sep⟩
theorem all_w {x : Hp} {ts : List TH} (h : InvH x ts) : ∀ w ∈ ts.map TH.w, IsWord w := fun w hw => by
  obtain ⟨t, ht, rfl⟩ := List.mem_map.1 hw
  exact (h.th t ht).word
/-- two things with one word are one -/
theorem InvH.inj {x : Hp} {ts : List TH} (h : InvH x ts) {j k : Nat} (hj : j < ts.length) (hk : k < ts.length) (e : ts[j].w = ts[k].w) : j = k := by
  have hpw := List.pairwise_iff_getElem.1 h.sep
  rcases Nat.lt_trichotomy j k with h1 | h1 | h1
  · exact absurd e (Sep.ne (hpw j k hj hk h1))
  · exact h1
  · exact absurd e.symm (Sep.ne (hpw k j hk hj h1))


theorem law (limit : Int) (s : Sl ActOf) (H : Array Obj) (hl : I64 limit) (A : Acts H s) :
    morainelaw10_ObjKeeps.C limit s.p s.n s.c H (fun v H' => v = .bool true ∧ Ext H H') := by
  refine HC.via fun R hR => morainelaw10_ObjKeeps.link ?_
  unfold morainelaw10_ObjKeeps.pt
  refine HC.mono (obj_New_c hl) ?_
  rintro _ H1 (⟨hn, rfl, e1⟩ | ⟨_, b, x, rfl, V1, hx, e1, hy⟩)
  · -- no heap
    refine ⟨_, _, rfl, fun q H' => q = false ∧ H' = H1, ?_, ?_⟩
    · rw [if_neg (by decide)]; exact ⟨rfl, rfl⟩
    rintro _ H2 ⟨rfl, rfl⟩
    rw [if_neg (by decide)]
    refine HC.mono (many10_c (A.ext e1)) ?_
    rintro _ H3 ⟨rfl, q, rfl, _⟩
    refine ⟨_, rfl, ?_⟩
    rw [if_pos (by cases q <;> rfl)]
    refine ⟨fun q H' => q = true ∧ Ext H H', ?_, ?_⟩
    · rw [if_neg (by decide), if_pos rfl]
      refine HC.mono awake10_c ?_
      rintro _ H4 ⟨rfl, e4⟩
      exact ⟨_, rfl, rfl, e1.trans e4⟩
    rintro _ H4 ⟨rfl, e4⟩
    exact hR _ _ ⟨rfl, e4⟩
  refine ⟨_, _, rfl, fun q H' => q = false ∧ H' = H1, ?_, ?_⟩
  · rw [if_pos rfl, onPtr_some]; exact ⟨rfl, rfl⟩
  rintro _ H2 ⟨rfl, rfl⟩
  rw [if_neg (by decide)]
  have L1 : Live H H2 b x := ⟨V1.inv.2.1, V1.inv.2.2, e1, hy⟩
  have c1 : x.sp.mem.count = 0 := by subst hx; rfl
  have v1 : x.sp.mem.Even := by subst hx; exact even_fresh _
  clear hx V1
  refine HC.mono (many10_c (A.ext e1)) ?_
  rintro _ H3 ⟨rfl, q, rfl, hmany⟩
  refine ⟨_, rfl, ?_⟩
  cases q with
  | true =>
    rw [if_pos (by rfl)]
    refine ⟨fun q H' => q = true ∧ Ext H H', ?_, ?_⟩
    · rw [if_pos rfl]
      refine HC.mono awake10_c ?_
      rintro _ H4 ⟨rfl, e4⟩
      exact ⟨_, rfl, rfl, e1.trans e4⟩
    rintro _ H4 ⟨rfl, e4⟩
    exact hR _ _ ⟨rfl, e4⟩
  | false =>
  rw [if_neg (by decide)]
  obtain ⟨h200, hacts⟩ := hmany rfl
  have hlen := A.len
  refine ⟨fun mp mn mc ap an ac i H' => (0 ≤ i ∧ i ≤ s.n) ∧ ∃ (x : Hp) (ts : List TH), Live H H' b x ∧ InvH x ts ∧ InvS H H' b mp mn mc ap an ac ts ∧ x.sp.mem.count ≤ i ∧ ts.length ≤ i, fun _ _ _ _ _ _ i _ => (s.n - i).toNat, ⟨by omega, x, [], L1, ⟨v1, by simp, by simp, List.Pairwise.nil⟩, ⟨own_nil, own_nil, by simp, by simp, by simp, by simp, List.Pairwise.nil⟩, by omega, by simp⟩, ?_⟩
  clear v1 c1 L1
  rintro mp mn mc ap an ac i H7 ⟨hi, x, ts, L7, I7, S7, c7, n7⟩
  obtain rfl := S7.an
  obtain rfl := S7.mn
  by_cases hlt : i < (s.n : Int)
  case neg =>
    -- what is told in the end
    rw [if_neg hlt]
    have hm : mof (some (b, x)) = x.sp.mem := rfl
    refine ⟨fun j H' => (0 ≤ j ∧ j ≤ ts.length) ∧ Ext H7 H', fun j _ => (ts.length - j).toNat, ⟨by omega, Ext.refl _⟩, ?_⟩
    rintro j H45 ⟨hj, e45⟩
    have L45 := L7.grow e45
    have S45 := S7.ext e45
    by_cases hjl : j < (ts.length : Int)
    case neg =>
      rw [if_neg hjl]
      refine HC.mono awake10_c ?_
      rintro _ H56 ⟨rfl, e56⟩
      exact ⟨_, rfl, hR _ _ ⟨rfl, L45.ext.trans e56⟩⟩
    rw [if_pos hjl]
    have hjN : j.toNat < ts.length := by omega
    obtain ⟨a, ha, _, hrow⟩ := S45.all.elem TH.cells_len (by decide) (k := j.toNat) hjN
    have hmem : ts[j.toNat] ∈ ts := List.getElem_mem _
    generalize ht : ts[j.toNat] = t at *
    refine ⟨a, ha, ⟨hj.1, hjl⟩, _, _, _, _, _, hrow, fun b8 H46 hb8 hH46 => ?_⟩
    obtain ⟨h46, h47⟩ := box_new (n := 3) (vs := [.int .u64 t.w, .int .i64 t.kind, .slice t.p t.ws.length t.c]) hb8 hH46 rfl rfl
    refine ⟨h46, fun H47 hH47 => ?_⟩
    obtain ⟨g47, e47⟩ := h47 H47 hH47
    have L47 := L45.grow e47
    have S47 := S45.ext e47
    have hT := I7.th t hmem
    have hW := I7.wds t hmem
    have hls := S47.ls t hmem
    refine ⟨_, box_get g47 1, ?_⟩
    have next : ∀ H', Ext H47 H' → ((0 ≤ IntKind.wrap .i64 (j + 1) ∧ IntKind.wrap .i64 (j + 1) ≤ ts.length) ∧ Ext H7 H') ∧ ((ts.length : Int) - IntKind.wrap .i64 (j + 1)).toNat < ((ts.length : Int) - j).toNat := fun H' e' => by
      rw [w64 (n := j + 1) (by omega)]
      exact ⟨⟨by omega, (e45.trans e47).trans e'⟩, by omega⟩
    rcases hT with ⟨hk0, tag, c, d, hws, hp⟩ | ⟨hk0, more, hp⟩
    · rw [if_pos hk0]
      refine ⟨_, box_get g47 0, ?_⟩
      refine HC.mono (live_Car L47 hp) ?_
      rintro _ H48 ⟨rfl, e48⟩
      refine ⟨_, _, rfl, _, box_get (e48.get g47) 0, ?_⟩
      refine HC.mono (live_Cdr (L47.grow e48) hp) ?_
      rintro _ H49 ⟨rfl, e49⟩
      refine ⟨_, _, rfl, ?_⟩
      have e449 := e48.trans e49
      have g49 := e449.get g47
      obtain ⟨a2, ha2, hc0⟩ := (hls.ext e449).at (j := 0) (v := .int .u64 c) (by rw [hws]; rfl)
      obtain ⟨a3, ha3, hc1⟩ := (hls.ext e449).at (j := 1) (v := .int .u64 d) (by rw [hws]; rfl)
      have hl2 : t.ws.length = 2 := by rw [hws]; rfl
      rw [if_pos rfl, if_pos rfl]
      refine ⟨_, _, _, box_get g49 2, a2, ha2, ⟨by omega, by omega⟩, c, hc0, ?_⟩
      rw [if_pos rfl]
      refine ⟨_, _, _, box_get g49 2, a3, ha3, ⟨by omega, by omega⟩, d, hc1, ?_⟩
      rw [if_pos rfl]
      refine ⟨_, box_get g49 0, ?_⟩
      refine HC.mono (obj_Size_c ((L47.grow e449).view) hp.word) ?_
      rintro _ H50 ⟨rfl, e50⟩
      refine ⟨_, rfl, ?_⟩
      rw [hm, hp.size, if_pos rfl]
      exact next _ (e449.trans e50)
    · rw [if_neg hk0]
      refine ⟨_, box_get g47 0, _, box_get g47 1, _, box_get g47 0, _, _, _, box_get g47 2, _, box_get g47 0, _, _, _, box_get g47 2, ?_⟩
      have row1 : ∀ {H'}, Ext H47 H' → RowAt H' ((Addr.mk b8 0 none).add 1) 0 [.int .i64 t.kind] ∧ RowAt H' (Addr.mk b8 0 none) 0 [.int .u64 t.w] ∧ RowAt H' ((Addr.mk b8 0 none).add 2) 0 [.slice t.p t.ws.length t.c] := fun e' =>
        ⟨(box_row (e'.get g47)).sub 1 rfl, (box_row (e'.get g47)).sub 0 rfl, (box_row (e'.get g47)).sub 2 rfl⟩
      refine HC.mono (obj_Type_c L47.view hp.word) ?_
      rintro _ H51 ⟨rfl, e51⟩
      obtain ⟨r1, r2, r3⟩ := row1 e51
      refine ⟨_, rfl, r1, r2, r3, r2, r3, ?_⟩
      rw [hm, hp.typ, if_pos rfl]
      refine HC.mono (obj_Len_c (L47.grow e51).view hp.word) ?_
      rintro _ H52 ⟨rfl, e52⟩
      have e4 := e51.trans e52
      obtain ⟨r1, r2, r3⟩ := row1 e4
      refine ⟨_, rfl, r1, r2, r3, r2, r3, ?_⟩
      rw [hm, hp.len, if_pos rfl]
      refine HC.mono (obj_Size_c (L47.grow e4).view hp.word) ?_
      rintro _ H53 ⟨rfl, e53⟩
      have e5 := e4.trans e53
      obtain ⟨r1, r2, r3⟩ := row1 e5
      refine ⟨_, rfl, r1, r2, r3, r2, r3, ?_⟩
      have h62 := hp.le62
      rw [hm, hp.size, w64 (n := 1 + (t.ws.length : Int)) (by omega), if_pos (by omega)]
      refine ⟨fun k H' => (0 ≤ k ∧ k ≤ t.ws.length) ∧ Ext H47 H', fun k _ => (t.ws.length - k).toNat, ⟨by omega, e5⟩, ?_⟩
      rintro k H54 ⟨hk, e54⟩
      have g54 := e54.get g47
      refine ⟨_, _, _, box_get g54 2, ?_⟩
      by_cases hkl : k < (t.ws.length : Int)
      case neg => rw [if_neg hkl]; exact next _ e54
      rw [if_pos hkl]
      refine ⟨_, box_get g54 0, _, box_get g54 1, ?_⟩
      refine HC.mono (live_Get (L47.grow e54) hp (i := k) ⟨hk.1, hkl⟩) ?_
      rintro _ H55 ⟨rfl, e55⟩
      refine ⟨_, _, rfl, ?_⟩
      rw [if_pos rfl]
      have e55' := e54.trans e55
      have hkN : k.toNat < t.ws.length := by omega
      obtain ⟨a2, ha2, hc0⟩ := (hls.ext e55').at (j := k.toNat) (v := .int .u64 t.ws[k.toNat]) (by simp [wvs, hkN])
      refine ⟨_, _, _, box_get (e55'.get g47) 2, a2, ha2, ⟨hk.1, hkl⟩, _, by rw [Nat.mul_one]; exact hc0, ?_⟩
      rw [getD_at hkN, if_pos rfl, w64 (n := k + 1) (by omega)]
      exact ⟨⟨by omega, e55'⟩, by show ((t.ws.length : Int) - (k + 1)).toNat < ((t.ws.length : Int) - k).toNat; omega⟩
  -- one call
  rw [if_pos hlt]
  have hiN : i.toNat < s.xs.length := by omega
  have hact : s.xs[i.toNat] ∈ s.xs := List.getElem_mem _
  obtain ⟨la, hla, hrow⟩ := (A.ext L7.ext).row i.toNat hiN
  have aOK := A.each _ hact
  have hln := (hacts _ hact).1
  generalize hax : s.xs[i.toNat] = act at *
  have hkind := wf_i64 aOK.kind
  have hn := wf_i64 aOK.n
  have hmore := wf_u64 aOK.more
  refine ⟨la, hla, ⟨hi.1, hlt⟩, _, _, _, _, _, _, _, _, _, _, _, _, _, _, _, _, hrow, fun bx H8 hbx hH8 => ?_⟩
  obtain ⟨q8, q9⟩ := box_new (n := 12) (vs := act.cells) hbx hH8 rfl rfl
  refine ⟨q8, fun H9 hH9 => ?_⟩
  obtain ⟨g9, e9⟩ := q9 H9 hH9
  have S9 := S7.ext e9
  refine ⟨_, _, (box_row g9).sub 1 rfl, _, _, (box_row g9).sub 3 rfl, ?_⟩
  refine HC.mono (word10_c (wf_i64 aOK.x.ofv) S9.made) ?_
  rintro _ H10 ⟨rfl, e10⟩
  refine ⟨_, rfl, (box_row (e10.get g9)).sub 3 rfl, ?_⟩
  refine HC.mono (word10_c (wf_i64 aOK.y.ofv) (S9.ext e10).made) ?_
  rintro _ H11 ⟨rfl, e11⟩
  refine ⟨_, rfl, fun b2 H12 hb2 hH12 => ?_⟩
  have hw1 : IsWord (valWord act.x.w act.x.ofv (ts.map TH.w)) := valWord_word (wf_u64 aOK.x.w) (all_w I7)
  have hw2 : IsWord (valWord act.y.w act.y.ofv (ts.map TH.w)) := valWord_word (wf_u64 aOK.y.w) (all_w I7)
  generalize hva : valWord act.x.w act.x.ofv (ts.map TH.w) = va at *
  generalize hvb : valWord act.y.w act.y.ofv (ts.map TH.w) = vb at *
  obtain ⟨q12, q13⟩ := box_new (n := 3) (vs := [.int .u64 0, .int .i64 0, .slice none 0 0]) hb2 hH12 rfl rfl
  refine ⟨q12, fun H13 hH13 => ?_⟩
  obtain ⟨g13, e13⟩ := q13 H13 hH13
  have e713 : Ext H7 H13 := ((e9.trans e10).trans e11).trans e13
  have gx13 := (e10.trans (e11.trans e13)).get g9
  have L13 := L7.grow e713
  have S13 := S7.ext e713
  have hbx7 : H7.size ≤ bx := by omega
  have hb27 : H7.size ≤ b2 := by have := ((e9.trans e10).trans e11).size; omega
  have hbne : bx ≠ b2 := by have := lt_size ((e10.trans e11).get g9); omega
  have hTl : ∀ t ∈ ts, ∀ i ∈ blks t.p, i < H7.size := fun t ht i hi => (S7.ls t ht).lt i hi
  have hTset : ∀ (k : Nat) (hk : k < ts.length) (l : List Int), ∀ t ∈ ts.set k { ts[k] with ws := l }, ∀ i ∈ blks t.p, i < H7.size := fun k hk l t ht i hi => by
    rcases List.mem_or_eq_of_mem_set ht with ht | rfl
    · exact hTl t ht i hi
    · exact hTl ts[k] (List.getElem_mem _) i hi
  have hbx_all : bx ∉ b.all := fun h => by have := L7.at'.lt bx h; omega
  have hb2_all : b2 ∉ b.all := fun h => by have := L7.at'.lt b2 h; omega
  clear q8 q9 q12 q13 hH9 hH13 hH8 hH12
  refine ⟨fun q H' => H' = H13 ∧ (q = false → act.dov = 6 ∨ act.dov = 7 ∨ act.dov = 8 → ∃ k, ∃ h : k < ts.length, ts[k].w = va), ?_, ?_⟩
  · refine ⟨_, box_get gx13 0, ?_⟩
    by_cases h6 : act.dov ≥ 6
    · rw [if_pos h6]
      refine ⟨_, box_get gx13 0, ?_⟩
      by_cases h8 : act.dov ≤ 8
      · rw [if_pos h8]
        refine HC.mono (there10_c S13.all rfl (by omega)) ?_
        rintro _ H44 ⟨rfl, q, rfl, hq⟩
        refine ⟨_, rfl, rfl, fun h _ => hq (by cases q <;> simp_all)⟩
      · rw [if_neg h8]; exact ⟨rfl, fun _ h => by omega⟩
    · rw [if_neg h6]; exact ⟨rfl, fun _ h => by omega⟩
  rintro q H14 ⟨rfl, hthere⟩
  rw [w64 (n := i + 1) (by omega)]
  by_cases hq : q = true
  · rw [if_pos hq]
    exact ⟨⟨by omega, x, ts, L13, I7, S13, by omega, by omega⟩, by show ((s.n : Int) - (i + 1)).toNat < ((s.n : Int) - i).toNat; omega⟩
  rw [if_neg hq]
  replace hthere := hthere (by cases q <;> simp_all)
  refine ⟨_, box_get gx13 0, ?_⟩
  have hcnt : x.sp.mem.count < 4611686018427387904 := by omega
  have hm : mof (some (b, x)) = x.sp.mem := rfl
  refine ⟨fun f H' => ∃ (x' : Hp) (ts' : List TH), Live H H' b x' ∧ InvH x' ts' ∧ InvS H H' b mp ts.length mc ap ts.length ac ts' ∧ ts'.length = ts.length ∧ (∀ t ∈ ts', ∀ i ∈ blks t.p, i < H7.size) ∧ x'.sp.mem.count ≤ i + 1 ∧
    (f = 0 → ∃ (w kind : Int) (p : Option Addr) (n c : Nat), Fresh H H' b x' ts' b2 w kind p n c), ?_, ?_⟩
  · -- the call itself
    have same : ∀ f : Int, f ≠ 0 → ∃ (x' : Hp) (ts' : List TH), Live H H14 b x' ∧ InvH x' ts' ∧ InvS H H14 b mp ts.length mc ap ts.length ac ts' ∧ ts'.length = ts.length ∧ (∀ t ∈ ts', ∀ i ∈ blks t.p, i < H7.size) ∧ x'.sp.mem.count ≤ i + 1 ∧
        (f = 0 → ∃ (w kind : Int) (p : Option Addr) (n c : Nat), Fresh H H14 b x' ts' b2 w kind p n c) := fun f hf => ⟨x, ts, L13, I7, S13, rfl, hTl, by omega, fun h => absurd h hf⟩
    -- a pair
    have pair : ∀ (tag : Int), tag = 1 ∨ tag = 2 → ∀ (v : Value) (H24 : Array Obj), v = .tuple #[.int .u64 (putR (some (b, x)) (tag - 1) tag [va, vb]).1, .int .i64 (putR (some (b, x)) (tag - 1) tag [va, vb]).2] → View H24 (some ⟨b.h, 0, none⟩) (putO (some (b, x)) (tag - 1) tag [va, vb]) → Fr (own (some (b, x))) H14 H24 →
        ∃ ra_2 : Int, ∃ rb_2 : Int, v = .tuple #[.int .u64 ra_2, .int .i64 rb_2] ∧
         (CanPuts H24 (Addr.mk b2 0 none) 0 1) ∧ ∀ H25 : Array Obj, H25 = hputs H24 (Addr.mk b2 0 none) [.int .u64 ra_2] 0 →
         ∀ (b_6 : Nat) (H26 : Array Obj), b_6 = H25.size → H26 = H25.push (.cells #[.int .u64 va, .int .u64 vb] 29) →
         (CanPuts H26 ((Addr.mk b2 0 none).add 2) 0 1) ∧ ∀ H27 : Array Obj, H27 = hputs H26 ((Addr.mk b2 0 none).add 2) [.slice (some (Addr.mk b_6 0 none)) 2 2] 0 →
         ∃ (x' : Hp) (ts' : List TH), Live H H27 b x' ∧ InvH x' ts' ∧ InvS H H27 b mp ts.length mc ap ts.length ac ts' ∧ ts'.length = ts.length ∧ (∀ t ∈ ts', ∀ i ∈ blks t.p, i < H7.size) ∧ x'.sp.mem.count ≤ i + 1 ∧
           (rb_2 = 0 → ∃ (w kind : Int) (p : Option Addr) (n c : Nat), Fresh H H27 b x' ts' b2 w kind p n c) := by
      rintro tag htag _ H24 rfl V24 f24
      obtain ⟨w, e, x', q1, q2, hd⟩ := live_cons_any L13 I7.even htag hw1 hw2
      rw [q2] at V24
      have L24 := L13.step V24 f24
      have f24' : Fr b.all H14 H24 := Live.others f24
      rw [q1]
      have g24 := f24'.get hb2_all g13
      obtain ⟨p1, p2⟩ := box_put g24 0 (.int .u64 w) (by simp)
      refine ⟨w, e, rfl, p1, fun H25 hH25 b6 H26 hb6 hH26 => ?_⟩
      obtain ⟨g25, f25⟩ := p2 H25 hH25
      have e26 : Ext H25 H26 := Ext.push' hH26
      obtain ⟨p3, p4⟩ := box_put (e26.get g25) 2 (.slice (some (Addr.mk b6 0 none)) 2 2) (by simp)
      refine ⟨p3, fun H27 hH27 => ?_⟩
      obtain ⟨g27, f27⟩ := p4 H27 hH27
      have hb6s : b2 < b6 := by have := lt_size g25; omega
      have fall : Fr (b2 :: b.all) H14 H27 := by
        refine ((f24'.mono (fun i hi _ => List.mem_cons_of_mem _ hi)).trans (f25.mono (fun i hi _ => by simp at hi; simp [hi]))).trans (e26.fr.trans (f27.mono (fun i hi _ => by simp at hi; simp [hi])))
      have L27 : Live H H27 b x' := by
        have k25 : HpAt H25 b x' := L24.at'.keep f25 (fun i hi => by simp at hi; subst hi; exact hb2_all)
        have k27 : HpAt H27 b x' := (k25.ext e26).keep f27 (fun i hi => by simp at hi; subst hi; exact hb2_all)
        refine ⟨k27, L24.ok, ?_, L24.young⟩
        have y25 := L24.ext.fr_trans f25 (fun i hi => by simp at hi; subst hi; have := L7.ext.size; omega)
        exact (y25.trans e26).fr_trans f27 (fun i hi => by simp at hi; subst hi; have := L7.ext.size; omega)
      have S27 : InvS H H27 b mp ts.length mc ap ts.length ac ts := by
        have S24 := S13.fr f24' (fun i hi => .inl hi)
        have S7' := S7
        have : ∀ j ∈ b2 :: b.all, j ∈ b.all ∨ H7.size ≤ j := fun j hj => by
          rcases List.mem_cons.1 hj with rfl | h
          · exact .inr hb27
          · exact .inl h
        exact S7.fr ((e713.fr (S := b2 :: b.all)).trans fall) this
      rcases hd with ⟨he, hc⟩ | ⟨he, rfl⟩
      · subst he
        refine ⟨x', ts, L27, keep_same I7 L7.n64 hc.made.keep hc.even, S27, rfl, hTl, by have := hc.made.count; omega, fun _ => ⟨w, 0, some (Addr.mk b6 0 none), 2, 2, ⟨⟨_, g27, rfl⟩, [va, vb], ?_, rfl, by omega, ?_, ?_, ?_⟩⟩⟩
        · have gb := push_get hb6 hH26
          have gb27 := f27.get (by simp; omega) gb
          exact rowAt_blk gb27 _ 0 0 (fun j hj => by
            have : j = 0 ∨ j = 1 := by simp at hj; omega
            rcases this with rfl | rfl <;> rfl)
        · intro v hv
          simp at hv
          rcases hv with rfl | rfl
          · exact hw1
          · exact hw2
        · exact .inl ⟨rfl, tag, va, vb, rfl, hc.pr⟩
        · intro t ht
          exact (I7.th t ht).sep L7.n64 hc.made
      · exact ⟨x', ts, L27, I7, S27, rfl, hTl, by omega, fun h => absurd h he⟩
    by_cases d0 : act.dov = 0
    · rw [if_pos d0]
      refine HC.mono (obj_Cons_c L13.view hw1 hw2 hcnt) ?_
      rintro v H24 ⟨rfl, V24, f24⟩
      exact pair 1 (.inl rfl) _ H24 rfl V24 f24
    rw [if_neg d0]
    by_cases d1 : act.dov = 1
    · rw [if_pos d1]
      refine HC.mono (obj_Weak_c L13.view hw1 hw2 hcnt) ?_
      rintro v H24 ⟨rfl, V24, f24⟩
      exact pair 2 (.inr rfl) _ H24 rfl V24 f24
    rw [if_neg d1]
    by_cases d2 : act.dov = 2
    · rw [if_pos d2]
      refine ⟨_, box_get gx13 5, _, _, _, box_get gx13 8, ?_⟩
      have hll : act.l.n ≤ 200 := hln
      refine HC.mono (words10_c (aOK.l.ext L13.ext) (by omega) S13.made) ?_
      rintro _ H32 ⟨qp, qc, rfl, ho32, e32, hy32⟩
      have gx32 := e32.get gx13
      have g32 := e32.get g13
      obtain ⟨p1, p2⟩ := box_put g32 1 (.int .i64 act.kind) (by simp)
      refine ⟨_, _, _, rfl, (box_row gx32).sub 5 rfl, p1, fun H33 hH33 => ?_⟩
      obtain ⟨g33, f33⟩ := p2 H33 hH33
      obtain ⟨p3, p4⟩ := box_put g33 2 (.slice qp act.l.n qc) (by simp)
      refine ⟨p3, fun H34 hH34 => ?_⟩
      obtain ⟨g34, f34⟩ := p4 H34 hH34
      have f234 : Fr [b2] H32 H34 := f33.trans f34
      have gx34 := f234.get (by simp; exact hbne) gx32
      have hb2s := lt_size g13
      have ho34 : Own H34 29 1 qp act.l.n qc (wvs (act.l.xs.map fun v => valWord v.w v.ofv (ts.map TH.w))) := ho32.keep f234 (fun j hj => by have := hy32 j hj; simp; omega)
      refine ⟨_, box_get gx34 5, _, box_get gx34 7, _, _, _, box_get g34 2, ?_⟩
      have fa34 : Fr [b2] H14 H34 := e32.fr.trans f234
      have L34 : Live H H34 b x := ⟨(L13.grow e32).at'.keep f234 (fun i hi => by simp at hi; subst hi; exact hb2_all), L13.ok, (L13.grow e32).ext.fr_trans f234 (fun i hi => by simp at hi; subst hi; have := L7.ext.size; omega), L13.young⟩
      have hws : ∀ w ∈ (act.l.xs.map fun v => valWord v.w v.ofv (ts.map TH.w)), IsWord w := fun w hw => by
        obtain ⟨v, hv, rfl⟩ := List.mem_map.1 hw
        exact valWord_word (wf_u64 (aOK.l.each v hv).w) (all_w I7)
      have hwl : act.l.n = (act.l.xs.map fun v => valWord v.w v.ofv (ts.map TH.w)).length := by rw [List.length_map, aOK.l.len]
      have hsrc := ho34.src
      generalize hwsn : (act.l.xs.map fun v => valWord v.w v.ofv (ts.map TH.w)) = ws at *
      refine HC.mono (obj_Make_c (ws := ws) L34.view hsrc hwl hws hkind hmore hcnt (by omega)) ?_
      rintro _ H35 ⟨rfl, V35, f35⟩
      obtain ⟨w, e, x', q1, q2, hd⟩ := live_make_any L34 I7.even hws hmore (kind := act.kind)
      rw [q2] at V35
      rw [q1]
      have L35 := L34.step V35 f35
      have f35' : Fr b.all H34 H35 := Live.others f35
      obtain ⟨p5, p6⟩ := box_put (f35'.get hb2_all g34) 0 (.int .u64 w) (by simp)
      refine ⟨w, e, rfl, p5, fun H36 hH36 => ?_⟩
      obtain ⟨g36, f36⟩ := p6 H36 hH36
      have fall : Fr (b2 :: b.all) H14 H36 := ((fa34.mono (fun i hi _ => by simp at hi; simp [hi])).trans (f35'.mono (fun i hi _ => List.mem_cons_of_mem _ hi))).trans (f36.mono (fun i hi _ => by simp at hi; simp [hi]))
      have L36 : Live H H36 b x' := ⟨L35.at'.keep f36 (fun i hi => by simp at hi; subst hi; exact hb2_all), L35.ok, L35.ext.fr_trans f36 (fun i hi => by simp at hi; subst hi; have := L7.ext.size; omega), L35.young⟩
      have S36 : InvS H H36 b mp ts.length mc ap ts.length ac ts := by
        have : ∀ j ∈ b2 :: b.all, j ∈ b.all ∨ H7.size ≤ j := fun j hj => by
          rcases List.mem_cons.1 hj with rfl | h
          · exact .inr hb27
          · exact .inl h
        exact S7.fr ((e713.fr (S := b2 :: b.all)).trans fall) this
      rcases hd with ⟨he, hk13, hc⟩ | ⟨he, rfl⟩
      · subst he
        have hk0 : act.kind ≠ 0 := by omega
        refine ⟨x', ts, L36, keep_same I7 L7.n64 hc.made.keep hc.even, S36, rfl, hTl, by have := hc.made.count; omega, fun _ => ⟨w, act.kind, qp, act.l.n, qc, ⟨⟨_, g36, rfl⟩, ws, ?_, hwl, by omega, hws, .inr ⟨hk0, act.more, hc.thing⟩, ?_⟩⟩⟩
        · have ho36 := (ho34.keep f35' (fun j hj => by have := hy32 j hj; intro hb; have := L7.at'.lt j hb; have := e713.size; omega)).keep f36 (fun j hj => by have := hy32 j hj; simp; omega)
          exact ho36.src
        · intro t ht
          have hN : TH.n ⟨w, act.kind, qp, qc, ws⟩ = ws.length := by unfold TH.n; rw [if_neg hk0]
          rw [hN]
          exact (I7.th t ht).sep L7.n64 hc.made
      · exact ⟨x', ts, L36, I7, S36, rfl, hTl, by omega, fun h => absurd h he⟩
    rw [if_neg d2]
    refine ⟨fun q H' => H' = H14 ∧ q = decide (act.dov = 6 ∨ act.dov = 7), ?_, ?_⟩
    · by_cases d6 : act.dov = 6
      · rw [if_pos d6]; exact ⟨rfl, by rw [decide_eq_true (.inl d6)]⟩
      · rw [if_neg d6]
        refine ⟨rfl, ?_⟩
        rw [Bool.eq_iff_iff, beq_iff_eq, decide_eq_true_eq]; omega
    rintro q H37 ⟨rfl, rfl⟩
    by_cases d67 : act.dov = 6 ∨ act.dov = 7
    · rw [if_pos (decide_eq_true d67)]
      refine ⟨_, box_get gx13 0, ?_⟩
      refine HC.mono (setHalf10_c L13.view hw1 hw2 d67) ?_
      rintro _ H38 ⟨rfl, V38, f38⟩
      refine ⟨_, rfl, ?_⟩
      obtain ⟨k0, hk0, hkw⟩ := hthere (by omega)
      have hT := I7.th ts[k0] (List.getElem_mem _)
      have f38' : Fr b.all H37 H38 := Live.others f38
      have gx38 := f38'.get hbx_all gx13
      rcases hT with ⟨hkd, tag, c, d, hws, hp⟩ | ⟨hkd, more, hp⟩
      · -- a pair
        rw [hkw] at hp
        have hi01 : act.dov - 6 = 0 ∨ act.dov - 6 = 1 := by omega
        have hidx : (act.dov - 6).toNat < ts[k0].ws.length := by rw [hws]; simp; omega
        have hu : x.sp.mem.used (va / 8 + (act.dov - 6)) := by
          rcases hi01 with h | h <;> rw [h]
          · rw [Int.add_zero]; exact hp.at'.used hp.word
          · exact hp.used
        have hE : hsetE (some (b, x)) va (act.dov - 6) vb = 0 := by
          unfold hsetE; rw [hm, if_pos hp.isPair, Mem.store_0 L13.ok.mem hu hw2]
        have hO : hsetO (some (b, x)) va (act.dov - 6) vb = some (b, x.setMem (x.sp.mem.store (va / 8 + (act.dov - 6)) vb).1) := by
          unfold hsetO; simp only; rw [if_pos hp.isPair]
        rw [hO] at V38
        have L38 := L13.step V38 f38
        have I38 : InvH (x.setMem (x.sp.mem.store (va / 8 + (act.dov - 6)) vb).1) (ts.set k0 { ts[k0] with ws := ts[k0].ws.set (act.dov - 6).toNat vb }) := by
          refine I7.set L13.ok.mem hk0 (i := (act.dov - 6).toNat) hw2 hidx ?_
          rw [if_pos hkd, hkw]; omega
        have S38 := S13.fr f38' (fun i hi => .inl hi)
        rw [hE]
        obtain ⟨a, hpa, hcan, hput⟩ := S38.set hk0 hidx vb
        refine ⟨fun k H' => (0 ≤ k ∧ k ≤ ts.length) ∧ ((k ≤ k0 ∧ H' = H38) ∨ ((k0 : Int) < k ∧ H' = hputs H38 (a.add (act.dov - 6).toNat) [.int .u64 vb] 0)), fun k _ => (ts.length - k).toNat, ⟨by omega, .inl ⟨by omega, rfl⟩⟩, ?_⟩
        rintro k H39 ⟨hk, hst⟩
        obtain ⟨S39, f39, hya, hab, halt⟩ := hput _ rfl
        generalize hHn : hputs H38 (a.add (act.dov - 6).toNat) [.int .u64 vb] 0 = Hn at *
        have hset : ∀ (S' : InvS H H39 b mp ts.length mc ap ts.length ac ts ∨ InvS H H39 b mp ts.length mc ap ts.length ac (ts.set k0 { ts[k0] with ws := ts[k0].ws.set (act.dov - 6).toNat vb })) (hkl : k < (ts.length : Int)),
            ∃ al, ap = some al ∧ hat H39 (al.add (k.toNat * 3)) = some (.int .u64 (ts[k.toNat]'(by omega)).w) ∧ hat H39 ((al.add (k.toNat * 3)).add 2) = some (.slice (ts[k.toNat]'(by omega)).p (ts[k.toNat]'(by omega)).ws.length (ts[k.toNat]'(by omega)).c) := by
          intro S' hkl
          rcases S' with S' | S'
          · obtain ⟨al, hal, hr, _⟩ := S'.all.elem TH.cells_len (by decide) (k := k.toNat) (by omega)
            have h0 := hr 0 _ rfl
            rw [addr_add0] at h0
            exact ⟨al, hal, h0, hr 2 _ rfl⟩
          · obtain ⟨al, hal, hr, _⟩ := S'.all.elem TH.cells_len (by decide) (k := k.toNat) (by rw [List.length_set]; omega)
            have h0 := hr 0 _ rfl
            have h2 := hr 2 _ rfl
            rw [addr_add0] at h0
            refine ⟨al, hal, ?_, ?_⟩
            · rw [h0, List.getElem_set]
              by_cases e : k0 = k.toNat
              · subst e; rw [if_pos rfl]
              · rw [if_neg e]
            · rw [h2, List.getElem_set]
              by_cases e : k0 = k.toNat
              · subst e; rw [if_pos rfl, List.length_set]
              · rw [if_neg e]
        have S39' : InvS H H39 b mp ts.length mc ap ts.length ac ts ∨ InvS H H39 b mp ts.length mc ap ts.length ac (ts.set k0 { ts[k0] with ws := ts[k0].ws.set (act.dov - 6).toNat vb }) := by
          rcases hst with ⟨_, rfl⟩ | ⟨_, rfl⟩
          · exact .inl S38
          · exact .inr S39
        by_cases hkl : k < (ts.length : Int)
        case neg =>
          rw [if_neg (by simp; omega)]
          rcases hst with ⟨h, _⟩ | ⟨_, rfl⟩
          · omega
          refine ⟨_, _, ⟨L38.at'.keep f39 (fun i hi => by simp at hi; subst hi; exact hab), L38.ok, L38.ext.fr_trans f39 (fun i hi => by simp at hi; subst hi; exact hya), L38.young⟩, I38, S39, by simp, hTset _ _ _, ?_, fun h => by cases h⟩
          show (x.sp.mem.store _ _).1.count ≤ i + 1
          rw [Mem.store_lim.2.2]; omega
        rw [if_pos (by simp; omega)]
        obtain ⟨al, hal, hr0, hr2⟩ := hset S39' hkl
        refine ⟨al, hal, ⟨hk.1, hkl⟩, _, hr0, ?_⟩
        rw [w64 (n := k + 1) (by omega)]
        by_cases hkk : k.toNat = k0
        · subst hkk
          rw [if_pos hkw]
          have e38 : H39 = H38 := by
            rcases hst with ⟨_, h⟩ | ⟨h, _⟩
            · exact h
            · omega
          subst e38
          refine ⟨⟨hk.1, hkl⟩, _, _, _, hr2, _, box_get gx38 0, a, hpa, ?_⟩
          rw [w64 (n := act.dov - 6) (by omega), Nat.mul_one]
          refine ⟨⟨by omega, by omega⟩, hcan, fun H40 hH40 => ⟨⟨by omega, .inr ⟨by omega, by rw [← hHn]; exact hH40⟩⟩, by show ((ts.length : Int) - (k + 1)).toNat < ((ts.length : Int) - k).toNat; omega⟩⟩
        · rw [if_neg (fun e => hkk (I7.inj (by omega) hk0 (e.trans hkw.symm)))]
          refine ⟨⟨by omega, ?_⟩, by show ((ts.length : Int) - (k + 1)).toNat < ((ts.length : Int) - k).toNat; omega⟩
          rcases hst with ⟨h, rfl⟩ | ⟨h, rfl⟩
          · exact .inl ⟨by omega, rfl⟩
          · exact .inr ⟨by omega, rfl⟩
      · -- an object: refused
        rw [hkw] at hp
        have hE : hsetE (some (b, x)) va (act.dov - 6) vb = 3 := by unfold hsetE; rw [hm, if_neg hp.notPair]
        have hO : hsetO (some (b, x)) va (act.dov - 6) vb = some (b, x) := by
          unfold hsetO; simp only; rw [if_neg hp.notPair]; rfl
        rw [hO] at V38
        have L38 := L13.step V38 f38
        rw [hE]
        refine ⟨fun k H' => H' = H38, fun _ _ => 0, rfl, ?_⟩
        rintro k H39 rfl
        rw [if_neg (by simp)]
        exact ⟨x, ts, L38, I7, S13.fr f38' (fun i hi => .inl hi), rfl, hTl, by omega, fun h => by cases h⟩
    rw [if_neg (by simpa using d67)]
    by_cases d8 : act.dov = 8
    case neg => rw [if_neg d8]; exact same 1 (by decide)
    rw [if_pos d8]
    refine ⟨_, box_get gx13 5, _, box_get gx13 6, ?_⟩
    refine HC.mono (obj_Set_c L13.view hw1 hn hw2) ?_
    rintro _ H41 ⟨rfl, V41, f41⟩
    refine ⟨_, rfl, ?_⟩
    obtain ⟨k0, hk0, hkw⟩ := hthere (by omega)
    have hT := I7.th ts[k0] (List.getElem_mem _)
    have f41' : Fr b.all H37 H41 := Live.others f41
    have gx41 := f41'.get hbx_all gx13
    have refused : x.sp.mem.fieldE va act.kind act.n ≠ 0 → ∃ (I143 : Int → Array Obj → Prop) (m143 : Int → Array Obj → Nat), I143 0 H41 ∧ ∀ (k_3 : Int) (H42 : Array Obj), I143 k_3 H42 → H42 = H41 ∧ Live H H41 b x ∧ setE (some (b, x)) va act.kind act.n vb ≠ 0 := by
      intro h0
      have h0' : ¬ (mof (some (b, x))).fieldE va act.kind act.n = 0 := h0
      have hE : setE (some (b, x)) va act.kind act.n vb = x.sp.mem.fieldE va act.kind act.n := by unfold setE; rw [if_neg h0']; rfl
      have hO : setO (some (b, x)) va act.kind act.n vb = some (b, x) := by
        unfold setO; simp only; rw [if_neg h0]; rfl
      rw [hO] at V41
      exact ⟨fun k H' => H' = H41, fun _ _ => 0, rfl, fun k H42 h => ⟨h, L13.step V41 f41, by rw [hE]; exact h0⟩⟩
    by_cases h0 : x.sp.mem.fieldE va act.kind act.n = 0
    case neg =>
      obtain ⟨I, m, i0, hI⟩ := refused h0
      refine ⟨I, m, i0, fun k H42 h => ?_⟩
      obtain ⟨rfl, L41, hne⟩ := hI k H42 h
      rw [if_neg (by simp; intro _; exact hne)]
      exact ⟨x, ts, L41, I7, S13.fr f41' (fun i hi => .inl hi), rfl, hTl, by omega, fun h => by cases h⟩
    obtain ⟨hO1, hty, hn0, hn1⟩ := Mem.fieldE_0 h0
    rcases hT with ⟨hkd, tag, c, d, hws, hp⟩ | ⟨hkd, more, hp⟩
    · rw [hkw] at hp; exact absurd hO1 hp.notObj
    rw [hkw] at hp
    have hidx : act.n.toNat < ts[k0].ws.length := by rw [hp.len] at hn1; omega
    have hu : x.sp.mem.used (va / 8 + 1 + act.n) := hO1.used hp.word (L7.n64 _) ⟨hn0, hn1⟩
    have h0' : (mof (some (b, x))).fieldE va act.kind act.n = 0 := h0
    have hE : setE (some (b, x)) va act.kind act.n vb = 0 := by
      unfold setE; rw [if_pos h0', hm, Mem.store_0 L13.ok.mem hu hw2]
    have hO : setO (some (b, x)) va act.kind act.n vb = some (b, x.setMem (x.sp.mem.store (va / 8 + 1 + act.n) vb).1) := by
      unfold setO; simp only; rw [if_pos h0]
    rw [hO] at V41
    have L41 := L13.step V41 f41
    have I41 : InvH (x.setMem (x.sp.mem.store (va / 8 + 1 + act.n) vb).1) (ts.set k0 { ts[k0] with ws := ts[k0].ws.set act.n.toNat vb }) := by
      refine I7.set L13.ok.mem hk0 (i := act.n.toNat) hw2 hidx ?_
      rw [if_neg hkd, hkw]; omega
    have S41 := S13.fr f41' (fun i hi => .inl hi)
    rw [hE]
    obtain ⟨a, hpa, hcan, hput⟩ := S41.set hk0 hidx vb
    refine ⟨fun k H' => (0 ≤ k ∧ k ≤ ts.length) ∧ ((k ≤ k0 ∧ H' = H41) ∨ ((k0 : Int) < k ∧ H' = hputs H41 (a.add act.n.toNat) [.int .u64 vb] 0)), fun k _ => (ts.length - k).toNat, ⟨by omega, .inl ⟨by omega, rfl⟩⟩, ?_⟩
    rintro k H42 ⟨hk, hst⟩
    obtain ⟨S42, f42, hya, hab, halt⟩ := hput _ rfl
    generalize hHn : hputs H41 (a.add act.n.toNat) [.int .u64 vb] 0 = Hn at *
    have S42' : InvS H H42 b mp ts.length mc ap ts.length ac ts ∨ InvS H H42 b mp ts.length mc ap ts.length ac (ts.set k0 { ts[k0] with ws := ts[k0].ws.set act.n.toNat vb }) := by
      rcases hst with ⟨_, rfl⟩ | ⟨_, rfl⟩
      · exact .inl S41
      · exact .inr S42
    by_cases hkl : k < (ts.length : Int)
    case neg =>
      rw [if_neg (by simp; omega)]
      rcases hst with ⟨h, _⟩ | ⟨_, rfl⟩
      · omega
      refine ⟨_, _, ⟨L41.at'.keep f42 (fun i hi => by simp at hi; subst hi; exact hab), L41.ok, L41.ext.fr_trans f42 (fun i hi => by simp at hi; subst hi; exact hya), L41.young⟩, I41, S42, by simp, hTset _ _ _, ?_, fun h => by cases h⟩
      show (x.sp.mem.store _ _).1.count ≤ i + 1
      rw [Mem.store_lim.2.2]; omega
    rw [if_pos (by simp; omega)]
    obtain ⟨al, hal, hr0, hr2⟩ : ∃ al, ap = some al ∧ hat H42 (al.add (k.toNat * 3)) = some (.int .u64 (ts[k.toNat]'(by omega)).w) ∧ hat H42 ((al.add (k.toNat * 3)).add 2) = some (.slice (ts[k.toNat]'(by omega)).p (ts[k.toNat]'(by omega)).ws.length (ts[k.toNat]'(by omega)).c) := by
      rcases S42' with S' | S'
      · obtain ⟨al, hal, hr, _⟩ := S'.all.elem TH.cells_len (by decide) (k := k.toNat) (by omega)
        have h0 := hr 0 _ rfl
        rw [addr_add0] at h0
        exact ⟨al, hal, h0, hr 2 _ rfl⟩
      · obtain ⟨al, hal, hr, _⟩ := S'.all.elem TH.cells_len (by decide) (k := k.toNat) (by rw [List.length_set]; omega)
        have h0 := hr 0 _ rfl
        have h2 := hr 2 _ rfl
        rw [addr_add0] at h0
        refine ⟨al, hal, ?_, ?_⟩
        · rw [h0, List.getElem_set]
          by_cases e : k0 = k.toNat
          · subst e; rw [if_pos rfl]
          · rw [if_neg e]
        · rw [h2, List.getElem_set]
          by_cases e : k0 = k.toNat
          · subst e; rw [if_pos rfl, List.length_set]
          · rw [if_neg e]
    refine ⟨al, hal, ⟨hk.1, hkl⟩, _, hr0, ?_⟩
    rw [w64 (n := k + 1) (by omega)]
    by_cases hkk : k.toNat = k0
    · subst hkk
      rw [if_pos hkw]
      have e41 : H42 = H41 := by
        rcases hst with ⟨_, h⟩ | ⟨h, _⟩
        · exact h
        · omega
      subst e41
      refine ⟨⟨hk.1, hkl⟩, _, _, _, hr2, _, box_get gx41 6, a, hpa, ?_⟩
      rw [Nat.mul_one]
      refine ⟨⟨by omega, by omega⟩, hcan, fun H43 hH43 => ⟨⟨by omega, .inr ⟨by omega, by rw [← hHn]; exact hH43⟩⟩, by show ((ts.length : Int) - (k + 1)).toNat < ((ts.length : Int) - k).toNat; omega⟩⟩
    · rw [if_neg (fun e => hkk (I7.inj (by omega) hk0 (e.trans hkw.symm)))]
      refine ⟨⟨by omega, ?_⟩, by show ((ts.length : Int) - (k + 1)).toNat < ((ts.length : Int) - k).toNat; omega⟩
      rcases hst with ⟨h, rfl⟩ | ⟨h, rfl⟩
      · exact .inl ⟨by omega, rfl⟩
      · exact .inr ⟨by omega, rfl⟩
  -- behind the call
  rintro f H15 ⟨x', ts', L15, I15, S15, hl15, hT15, c15, hf15⟩
  by_cases hf : f = 0
  case neg =>
    rw [if_neg hf]
    exact ⟨⟨by omega, x', ts', L15, I15, by rw [hl15] at *; exact S15, by omega, by omega⟩, by show ((s.n : Int) - (i + 1)).toNat < ((s.n : Int) - i).toNat; omega⟩
  rw [if_pos hf]
  obtain ⟨w, kind, p, n, c, hF⟩ := hf15 hf
  obtain ⟨cs, g15, rfl⟩ := hF.box
  obtain ⟨ws, hsrc, rfl, hn1000, hws, hH, hsep⟩ := hF.ws
  refine ⟨fun k H' => (0 ≤ k ∧ k ≤ ts'.length) ∧ H' = H15, fun k _ => (ts'.length - k).toNat, ⟨by omega, rfl⟩, ?_⟩
  rintro k H16 ⟨hk, rfl⟩
  have hle200 : ts'.length ≤ 200 := by omega
  have n15 : (ts'.length : Int) ≤ i := by omega
  rw [← hl15] at *
  by_cases hkl : k < (ts'.length : Int)
  · rw [if_pos hkl]
    have hkN : k.toNat < ts'.length := by omega
    obtain ⟨al, hal, hr, _⟩ := S15.all.elem TH.cells_len (by decide) (k := k.toNat) hkN
    have h0 := hr 0 _ rfl
    rw [addr_add0] at h0
    refine ⟨al, hal, ⟨hk.1, hkl⟩, _, h0, _, box_get g15 0, ?_⟩
    rw [if_neg (Sep.ne (hsep _ (List.getElem_mem _))), w64 (n := k + 1) (by omega)]
    exact ⟨⟨by omega, rfl⟩, by show ((ts'.length : Int) - (k + 1)).toNat < ((ts'.length : Int) - k).toNat; omega⟩
  rw [if_neg hkl]
  intro b3 H17 hb3 hH17
  have e17 : Ext H16 H17 := Ext.push' hH17
  have gb3 := push_get hb3 hH17
  refine ⟨_, _, _, box_get (e17.get g15) 2, ?_⟩
  have hb2lt := lt_size g15
  have ho3 : Own H17 29 1 (some ⟨b3, 0, none⟩) 0 0 [] := ⟨rfl, _, gb3, rfl, Nat.le_refl _, rfl, fun j hj => by simp at hj⟩
  refine own_append (ys := wvs ws) ho3 (hsrc.ext e17) (by simp) (allOne_wvs ws) rfl (by omega) ?_
  intro p' c' H18 ho18 f18 hn18
  have e18 : Ext H16 H18 := e17.fr_trans f18 (fun i hi => by simp at hi; omega)
  have hp' : ∀ i ∈ blks p', H16.size ≤ i := fun i hi => by
    rcases hn18 i hi with h | h
    · simp at h; omega
    · have := e17.size; omega
  obtain ⟨p1, p2⟩ := box_put (e18.get g15) 2 (.slice p' (0 + ws.length) c') (by simp)
  refine ⟨p1, fun H19 hH19 => ?_⟩
  obtain ⟨g19, f19⟩ := p2 H19 hH19
  rw [Nat.zero_add] at g19
  have ho19 : Own H19 29 1 p' ws.length c' (wvs ws) := by
    have h := ho18.keep f19 (fun i hi => by have := hp' i hi; simp; omega)
    simpa using h
  have hb2y : H.size ≤ b2 := by have := L7.ext.size; omega
  have L19 : Live H H19 b x' := ⟨(L15.grow e18).at'.keep f19 (fun i hi => by simp at hi; subst hi; exact hb2_all), L15.ok, (L15.grow e18).ext.fr_trans f19 (fun i hi => by simp at hi; subst hi; exact hb2y), L15.young⟩
  have hm7 : ∀ i ∈ blks mp, i < H7.size := fun i hi => S7.made.lt i hi
  have ha7 : ∀ i ∈ blks ap, i < H7.size := fun i hi => S7.all.lt i hi
  have S19 : InvS H H19 b mp ts'.length mc ap ts'.length ac ts' := by
    have S18 := S15.ext e18
    refine ⟨S18.made.keep f19 (fun i hi => ?_), S18.all.keep f19 (fun i hi => ?_), fun t ht => (S18.ls t ht).keep f19 (fun i hi => ?_), S18.ym, S18.ya, S18.yt, S18.tt⟩
    · have := hm7 i hi; simp; omega
    · have := ha7 i hi; simp; omega
    · have := hT15 t ht i hi; simp; omega
  have r19 := box_row (vs := [.int .u64 w, .int .i64 kind, .slice p' ws.length c']) g19
  refine ⟨_, _, _, _, _, r19, fun b4 H20 hb4 hH20 => ?_⟩
  have e20 : Ext H19 H20 := Ext.push' hH20
  refine own_append (ys := TH.cells ⟨w, kind, p', c', ws⟩) (S19.all.ext e20) (box_row (vs := [.int .u64 w, .int .i64 kind, .slice p' ws.length c']) (push_get hb4 hH20)) (by simp) rfl rfl (by omega) ?_
  intro ap2 ac2 H21 ho21 f21 hn21
  have hs15 : H7.size ≤ H16.size := by have := e713.size; have := hb2lt; omega
  have hb27' : ∀ i ∈ blks ap, i ≠ b2 := fun i hi => by have := ha7 i hi; omega
  refine ⟨_, box_get (f21.get (fun h => hb27' _ h rfl) (e20.get g19)) 0, fun b5 H22 hb5 hH22 => ?_⟩
  have e22 : Ext H21 H22 := Ext.push' hH22
  have k1921 : Fr (blks ap) H19 H21 := e20.fr.trans f21
  have made22 : Own H22 29 1 mp ts'.length mc (wvs (ts'.map TH.w)) := (S19.made.keep k1921 (fun i hi => (S19.ym i hi).2.2.1)).ext e22
  refine own_append (ys := wvs [w]) made22 (rowAt_blk (push_get hb5 hH22) _ 0 0 (fun j hj => by simp)) (by simp) (allOne_wvs _) rfl (by omega) ?_
  intro mp2 mc2 H23 ho23 f23 hn23
  have k1923 : Fr (blks ap ++ blks mp) H19 H23 := ((k1921.mono (fun i hi _ => by simp [hi])).trans e22.fr).trans (f23.mono (fun i hi _ => by simp [hi]))
  have hs1619 : H16.size ≤ H19.size := by have := e18.size; have := f19.size; omega
  have hs1921 : H19.size ≤ H20.size := e20.size
  have hs2122 : H20.size ≤ H22.size := by have := f21.size; have := e22.size; omega
  have hp'lt : ∀ i ∈ blks p', i < H19.size := fun i hi => ho19.lt i hi
  have hyap : ∀ i ∈ blks ap, H.size ≤ i := fun i hi => (S19.ya i hi).1
  have hymp : ∀ i ∈ blks mp, H.size ≤ i := fun i hi => (S19.ym i hi).1
  have hap2 : ∀ i ∈ blks ap2, i ∈ blks ap ∨ H20.size ≤ i := hn21
  have hmp2 : ∀ i ∈ blks mp2, i ∈ blks mp ∨ H22.size ≤ i := hn23
  have hall19 : ∀ i ∈ b.all, i < H19.size := fun i hi => L19.at'.lt i hi
  have hH0 : H.size ≤ H7.size := L7.ext.size
  have ho21' : Own H23 75 3 ap2 (ts'.length + 1) ac2 ((ts' ++ [(⟨w, kind, p', c', ws⟩ : TH)]).flatMap TH.cells) := by
    have h := (ho21.ext e22).keep f23 (fun i hi him => by
      rcases hap2 i hi with h | h
      · exact (S19.ym i him).2.2.1 h
      · have := hm7 i him; omega)
    rw [List.flatMap_append]
    simpa using h
  have L23 : Live H H23 b x' := ⟨L19.at'.keep k1923 (fun i hi => by
      rcases List.mem_append.1 hi with h | h
      · exact (S19.ya i h).2.1
      · exact (S19.ym i h).2.1), L19.ok, L19.ext.fr_trans k1923 (fun i hi => by
      rcases List.mem_append.1 hi with h | h
      · exact hyap i h
      · exact hymp i h), L19.young⟩
  have hap2b : ∀ i ∈ blks ap2, H.size ≤ i ∧ i ∉ b.all := fun i hi => by
    rcases hap2 i hi with h | h
    · exact ⟨hyap i h, (S19.ya i h).2.1⟩
    · exact ⟨by omega, fun hb => by have := hall19 i hb; omega⟩
  have hmp2b : ∀ i ∈ blks mp2, H.size ≤ i ∧ i ∉ b.all := fun i hi => by
    rcases hmp2 i hi with h | h
    · exact ⟨hymp i h, (S19.ym i h).2.1⟩
    · exact ⟨by omega, fun hb => by have := hall19 i hb; omega⟩
  refine ⟨⟨by omega, x', ts' ++ [⟨w, kind, p', c', ws⟩], L23, ?_, ?_, by omega, by rw [List.length_append, List.length_singleton]; omega⟩, by show ((s.n : Int) - (i + 1)).toNat < ((s.n : Int) - i).toNat; omega⟩
  · refine ⟨I15.even, fun t ht => ?_, fun t ht => ?_, ?_⟩
    · rcases List.mem_append.1 ht with h | h
      · exact I15.th t h
      · rw [List.mem_singleton.1 h]; exact hH
    · rcases List.mem_append.1 ht with h | h
      · exact I15.wds t h
      · rw [List.mem_singleton.1 h]; exact hws
    · refine List.pairwise_append.2 ⟨I15.sep, List.pairwise_singleton _ _, fun t ht u hu => ?_⟩
      rw [List.mem_singleton.1 hu]; exact hsep t ht
  · refine ⟨?_, ho21', fun t ht => ?_, fun i hi => ⟨(hmp2b i hi).1, (hmp2b i hi).2, fun h => ?_, fun t ht h => ?_⟩, fun i hi => ⟨(hap2b i hi).1, (hap2b i hi).2, fun t ht h => ?_⟩, fun t ht i hi => ?_, ?_⟩
    · rw [List.map_append]
      simpa [wvs] using ho23
    · rcases List.mem_append.1 ht with h | h
      · refine (S19.ls t h).keep k1923 (fun i hi him => ?_)
        rcases List.mem_append.1 him with h2 | h2
        · exact (S19.ya i h2).2.2 t h hi
        · exact (S19.ym i h2).2.2.2 t h hi
      · rw [List.mem_singleton.1 h]
        refine ho19.keep k1923 (fun i hi him => ?_)
        have := hp' i hi
        rcases List.mem_append.1 him with h2 | h2
        · have := ha7 i h2; omega
        · have := hm7 i h2; omega
    · rcases hmp2 i hi with h1 | h1
      · rcases hap2 i h with h2 | h2
        · exact (S19.ym i h1).2.2.1 h2
        · have := hm7 i h1; omega
      · rcases hap2 i h with h2 | h2
        · have := ha7 i h2; omega
        · have := ho21.lt i h; have := e22.size; omega
    · rcases List.mem_append.1 ht with h3 | h3
      · rcases hmp2 i hi with h1 | h1
        · exact (S19.ym i h1).2.2.2 t h3 h
        · have := hT15 t h3 i h; omega
      · rw [List.mem_singleton.1 h3] at h
        have h4 : i ∈ blks p' := h
        have := hp'lt i h4
        have := hp' i h4
        rcases hmp2 i hi with h1 | h1
        · have := hm7 i h1; omega
        · omega
    · rcases List.mem_append.1 ht with h3 | h3
      · rcases hap2 i hi with h1 | h1
        · exact (S19.ya i h1).2.2 t h3 h
        · have := hT15 t h3 i h; omega
      · rw [List.mem_singleton.1 h3] at h
        have h4 : i ∈ blks p' := h
        have := hp'lt i h4
        have := hp' i h4
        rcases hap2 i hi with h1 | h1
        · have := ha7 i h1; omega
        · omega
    · rcases List.mem_append.1 ht with h3 | h3
      · exact S19.yt t h3 i hi
      · rw [List.mem_singleton.1 h3] at hi
        have h4 : i ∈ blks p' := hi
        have := hp' i h4
        refine ⟨by omega, fun hb => ?_⟩
        have := L7.at'.lt i hb
        omega
    · refine List.pairwise_append.2 ⟨S19.tt, List.pairwise_singleton _ _, fun t ht u hu i hi h => ?_⟩
      rw [List.mem_singleton.1 hu] at h
      have h4 : i ∈ blks p' := h
      have := hp' i h4
      have := hT15 t ht i hi
      omega

set_option maxRecDepth 100000 in
theorem lifted (os : Os) (started : os.Started) (H : Type) (enc : TypeId × Value → H) :
    ReturnsInHanded {} Try.checked os 7 .any (Rows.objKeepsSpec.pre6 enc Try.prog Try.f7 Rows.objKeepsRow.domain false) (Rows.objKeepsSpec.post enc Try.prog Try.f7 false true false false) := by
  refine law_lifted (tb := 4) started (by kernel_rfl) Try.func7
    (ChangeSpec.witness6 (enc := enc) (C := Try.checked) false ⟨#[], #[.int .i64 0, .slice none 0 0], []⟩ 8 (by kernel_rfl) (by kernel_rfl) (by kernel_rfl) (by kernel_rfl))
    rfl (by kernel_rfl) rfl Try.underlying4 (fun ds hds => ?_) ?_
  · match ds, hds with
    | [d0, d1], _ => rfl
  intro W base args ds p hval hA _
  rw [Try.params7] at hA hval
  obtain ⟨v0, vs0, d0, ds0, p0, q0, hargs, rfl, rfl, h0, r0⟩ := trodAll_cons hA
  obtain ⟨v1, vs1, d1, ds1, p1, q1, rfl, rfl, rfl, h1, r1⟩ := trodAll_cons r0
  obtain ⟨rfl, rfl, rfl⟩ := trodAll_nil r1
  obtain rfl : args = #[v0, v1] := by cases args; simp_all
  obtain ⟨a0, rfl, rfl, rfl, w0⟩ := open_int Try.underlying3 (hval 0 3 v0 rfl rfl) h0
  obtain ⟨s1, rfl, w1⟩ := open_read Try.underlying63 (by kernel_rfl) reads_ActOf (B := maxLen) (.inl rfl) (hval 1 63 v1 rfl rfl) h1
  exact law a0 s1 W.heap (wf_i64 w0) w1

theorem over : Rows.objKeepsRow.holds Try.pinned (OpenSpec.ofChange Rows.objKeepsSpec) :=
  OpenClaim.holds_of_wide 7 Try.f7 rfl rfl rfl rfl rfl rfl rfl ⟨rfl, rfl, rfl, rfl, rfl⟩ rfl rfl rfl rfl rfl (by kernel_rfl) Try.func7 (by kernel_rfl)
    (of_decide_eq_true (by kernel_rfl)) (by unfold Func.isWrapper; first | (rw [if_pos (by decide +kernel)]; kernel_rfl) | (rw [if_neg (by decide +kernel)]; exact ⟨rfl, rfl⟩))
    (fun os started H enc _ => lifted os started H enc)

theorem proved : Rows.ObjKeepsSaid :=
  over
#print axioms proved
end Go.Proofs.Ytfohlkiikppefaa.objKeeps
