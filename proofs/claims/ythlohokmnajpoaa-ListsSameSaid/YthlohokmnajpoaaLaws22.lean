/-
  What the laws of lists have in common. Proves nothing of any one statement.
-/
import Derived.Test.YthlohokmnajpoaaListsP
import Derived.Test.YthlohokmnajpoaaRead
import Derived.Test.YthlohokmnajpoaaL22awake
import Derived.Test.YthlohokmnajpoaaL22fixes
import Derived.Test.YthlohokmnajpoaaL22of
import Derived.Test.YthlohokmnajpoaaL22same
set_option linter.unusedVariables false
set_option linter.unusedSimpArgs false
namespace Go.Proofs.Ythlohokmnajpoaa
open Go
open Go.ChangeShapes Go.WideShapes

def fx (x : Int) : Int := ishl .u64 (IntKind.wrap .u64 x) 3
theorem fx_eq (x : Int) : fx x = (x % 18446744073709551616) * 8 % 18446744073709551616 := by
  unfold fx; rw [ishl_u64 3 3 rfl (by decide), wrapU64]; rfl
theorem fx_word (x : Int) : IsWord (fx x) := by rw [fx_eq]; exact ⟨by omega, by omega⟩
theorem fx_tag (x : Int) : fx x % 8 = 0 := by rw [fx_eq]; omega
theorem fx_inj {x y : Int} (hx : -2147483648 ≤ x ∧ x ≤ 2147483647) (hy : -2147483648 ≤ y ∧ y ≤ 2147483647) (h : fx x = fx y) : x = y := by
  rw [fx_eq, fx_eq] at h; omega
theorem fxs_word (l : List Int) : ∀ w ∈ l.map fx, IsWord w := fun w hw => by
  obtain ⟨x, _, rfl⟩ := List.mem_map.1 hw; exact fx_word x
theorem plain_fix {m : Mem} {kind a b : Int} (h : a % 8 = 0) : Plain m kind a b := fun _ _ => by
  have ht : m.typ a = 0 := nothing_typ (noAddr (by omega))
  refine ⟨fun hp => ?_, by rw [ht]; decide, by rw [ht]; decide, by rw [ht]; decide⟩
  rcases hp.1.1 with h' | h'
  · have := h'.2.1; omega
  · have := h'.2.1; omega
theorem not_pair_fix {m : Mem} {a : Int} (h : a % 8 = 0) : ¬ m.isPair a := fun hp => by
  rcases hp.1 with h' | h'
  · have := h'.2.1; omega
  · have := h'.2.1; omega

theorem fixes_c {H0 H : Array Obj} {p : Option Addr} {n c : Nat} {xs : List Int} (A : Nums H .i32 p n xs) (hn : n ≤ 1000000) :
    morainelaw22_fixes.C p n c H (fun v H' => ∃ (B : Option Addr) (C : Nat), v = .slice B n C ∧ Own H' 31 1 B n C (wvs (xs.map fx)) ∧ (∀ i ∈ blks B, H.size ≤ i) ∧ Ext H H') := by
  refine HC.via fun R hR => morainelaw22_fixes.link ?_
  unfold morainelaw22_fixes.pt
  have hlen := A.len
  refine ⟨fun B N C i H' => (0 ≤ i ∧ i ≤ n) ∧ N = i.toNat ∧ Own H' 31 1 B N C (wvs ((xs.take i.toNat).map fx)) ∧ (∀ i ∈ blks B, H.size ≤ i) ∧ Ext H H', fun _ _ _ i _ => (n - i).toNat, ⟨by omega, rfl, by simpa [wvs] using own_nil, by simp, Ext.refl _⟩, ?_⟩
  rintro B N C i H1 ⟨hi, rfl, how, hy, e1⟩
  by_cases hlt : i < (n : Int)
  case neg =>
    rw [if_neg hlt]
    have e : i.toNat = n := by omega
    rw [e, List.take_of_length_le (by omega)] at how
    rw [e]
    exact hR _ _ ⟨B, C, rfl, how, hy, e1⟩
  rw [if_pos hlt]
  have hiN : i.toNat < xs.length := by omega
  obtain ⟨a, rfl, ha⟩ := (A.ext e1).at hiN
  refine ⟨a, rfl, ⟨hi.1, hlt⟩, _, ha, fun b H2 hb hH2 => ?_⟩
  have e2 : Ext H1 H2 := Ext.push' hH2
  refine own_append (ys := [.int .u64 (fx xs[i.toNat])]) (how.ext e2) (rowAt_blk (push_get hb hH2) _ 0 0 (fun j hj => by simp [fx])) rfl rfl rfl (by omega) ?_
  intro p' c' H3 how3 f3 hnew
  have e3 : Ext H H3 := (e1.trans e2).fr_trans f3 hy
  rw [w64 (n := i + 1) (by omega)]
  have hs : (i + 1).toNat = i.toNat + 1 := by omega
  refine ⟨⟨by omega, by omega, ?_, fun j hj => ?_, e3⟩, by show ((n : Int) - (i + 1)).toNat < ((n : Int) - i).toNat; omega⟩
  · rw [hs, List.take_succ_eq_append_getElem hiN, List.map_append]
    simpa [wvs] using how3
  · rcases hnew j hj with h | h
    · exact hy j h
    · have := e1.size; have := e2.size; omega
theorem src_word {H : Array Obj} {B : Option Addr} {xs : List Int} (h : SrcAt H B (wvs xs)) {i : Nat} (hi : i < xs.length) : ∃ a, B = some a ∧ hat H (a.add (i * 1)) = some (.int .u64 xs[i]) := by
  cases B with
  | none => rw [SrcAt_none] at h; simp [wvs] at h; subst h; simp at hi
  | some a =>
    refine ⟨a, rfl, ?_⟩
    have := rowAt_hat (show RowAt H a 0 _ from h) i (.int .u64 xs[i]) (by simp [wvs, hi])
    rw [Nat.zero_add] at this; rw [Nat.mul_one]; exact this
theorem same22_c {H : Array Obj} {aB bB : Option Addr} {aN aC bN bC : Nat} {xs ys : List Int} (ha : SrcAt H aB (wvs xs)) (hb : SrcAt H bB (wvs ys)) (hna : aN = xs.length) (hnb : bN = ys.length) (hl : xs.length ≤ 1000000) :
    morainelaw22_same.C aB aN aC bB bN bC H (fun v H' => v = .bool (decide (xs = ys)) ∧ H' = H) := by
  subst hna hnb
  refine HC.via fun R hR => morainelaw22_same.link ?_
  unfold morainelaw22_same.pt
  by_cases hl2 : (xs.length : Int) = (ys.length : Int)
  case neg =>
    rw [if_neg hl2]
    exact hR _ _ ⟨by rw [decide_eq_false (fun h => hl2 (by rw [h]))], rfl⟩
  rw [if_pos hl2]
  refine ⟨fun i A => (0 ≤ i ∧ i ≤ xs.length) ∧ xs.take i.toNat = ys.take i.toNat ∧ A = H, fun i _ => (xs.length - i).toNat, ⟨by omega, rfl, rfl⟩, ?_⟩
  rintro i A ⟨hi, ht, rfl⟩
  by_cases hlt : i < (xs.length : Int)
  case neg =>
    rw [if_neg hlt]
    rw [List.take_of_length_le (by omega), List.take_of_length_le (by omega)] at ht
    exact hR _ _ ⟨by rw [decide_eq_true ht], rfl⟩
  rw [if_pos hlt]
  have h1 : i.toNat < xs.length := by omega
  have h2 : i.toNat < ys.length := by omega
  obtain ⟨a, rfl, g1⟩ := src_word ha h1
  obtain ⟨b, rfl, g2⟩ := src_word hb h2
  refine ⟨a, rfl, ⟨hi.1, hlt⟩, _, g1, b, rfl, ⟨hi.1, by omega⟩, _, g2, ?_⟩
  by_cases he : xs[i.toNat] = ys[i.toNat]
  · rw [if_pos he, w64 (n := i + 1) (by omega)]
    have hs : (i + 1).toNat = i.toNat + 1 := by omega
    exact ⟨⟨by omega, by rw [hs, List.take_succ_eq_append_getElem h1, List.take_succ_eq_append_getElem h2, ht, he], rfl⟩, by show ((xs.length : Int) - (i + 1)).toNat < ((xs.length : Int) - i).toNat; omega⟩
  · rw [if_neg he]
    exact hR _ _ ⟨by rw [decide_eq_false (fun h => he (by subst h; rfl))], rfl⟩
theorem RowAs.chain {x x' : Hp} {w : Int} {l : List (Int × Int)} (h : RowAs x x' w 20 l) : Chain x'.sp.mem w l 20 := by
  have := Links.chain (chain_nil x'.sp.mem) h.links
  rwa [List.append_nil] at this
theorem RowAs.len {x x' : Hp} {w t : Int} {l : List (Int × Int)} {ws : List Int} (h : RowAs x x' w t l) (hm : l.map (·.2) = ws) : l.length = ws.length := by rw [← hm]; simp
theorem findK_none {y : Int} : ∀ {l : List (Int × Int)}, (∀ p ∈ l, y ≠ p.1) → findK y l = 4
  | [], _ => rfl
  | p :: l, h => by unfold findK; rw [if_neg (h p (by simp)), findK_none (fun q hq => h q (by simp [hq]))]
theorem findK_at {y : Int} : ∀ {l : List (Int × Int)} {i : Nat} (h : i < l.length), y = l[i].1 → (∀ j (hj : j < i), y ≠ (l[j]'(by omega)).1) → findK y l = l[i].2
  | p :: l, 0, _, he, _ => by unfold findK; rw [if_pos (show y = p.1 from he)]; rfl
  | p :: l, i + 1, h, he, hn => by
    unfold findK
    rw [if_neg (show ¬ y = p.1 from hn 0 (by omega))]
    exact findK_at (l := l) (i := i) (by simpa using h) he (fun j hj => hn (j + 1) (by omega))
theorem Chain.drop {m : Mem} {last : Int} : ∀ {l : List (Int × Int)} {w : Int} {k : Nat} (h : k < l.length), Chain m w l last → Chain m l[k].1 (l.drop k) last
  | pa :: l, w, 0, _, hc => by obtain ⟨rfl, hr⟩ := hc; exact ⟨rfl, hr⟩
  | pa :: l, w, k + 1, h, hc => by
    obtain ⟨rfl, tag, d, hp, hr⟩ := hc
    exact Chain.drop (l := l) (by simpa using h) hr

section
variable {Hd : Type} {enc : TypeId × Value → Hd} {P : Program} {w : World} {base : Nat} {spare : Nat → Bool} {held : Bool} {B : Nat}
theorem nums_ofc {H : Array Obj} {k : IntKind} {cs : List Value} (h : Rd B H (.slice 1 (.int k)) cs) : ∃ p n c xs, cs = [.slice p n c] ∧ Nums H k p n xs ∧ n ≤ B ∧ n ≤ c := by
  obtain ⟨p, n, c, xs, h1, h2, h3⟩ := nums_of h
  obtain ⟨p', n', c', h1', hn, _⟩ := h
  rw [h1] at h1'
  simp only [List.cons.injEq, Value.slice.injEq, and_true] at h1'
  obtain ⟨rfl, rfl, rfl⟩ := h1'
  exact ⟨p, n, c, xs, h1, h2, h3, hn⟩
theorem open_numsc {r : Reach} {b0 : Nat} {t e : TypeId} {k : IntKind} {v : Value} {d : DataW Hd} {ps : List MemPlace} (ht : P.underlying t = some (.slice e)) (he : P.underlying e = some (.int k)) (hc : P.cellsOf e = 1) (hB : Small B d) (hval : Value.okWide P w r b0 t v) (hd : DataW.Trod enc P w base spare held t v d ps) :
    ∃ p n c xs, v = .slice p n c ∧ Nums w.heap k p n xs ∧ (n ≤ B ∧ n ≤ c) := by
  obtain ⟨a, len, cap, rfl⟩ := okWide_slice ht hval
  obtain ⟨fuel, hf⟩ := hd
  obtain ⟨p, n, c, xs, h1, h2⟩ := nums_ofc (rd_slice ht hc (rd_int he) hf hB)
  simp [Value.cells] at h1
  obtain ⟨rfl, rfl, rfl⟩ := h1
  exact ⟨_, _, _, xs, rfl, h2⟩
end
theorem Chain.typ {m : Mem} {w : Int} {l : List (Int × Int)} (h : Chain m w l 20) : m.typ w = 0 := by
  cases l with
  | nil => rw [h.1]; exact nothing_typ nil_not
  | cons pa l => obtain ⟨rfl, tag, d, hp, _⟩ := h; exact hp.type
theorem Chain.det {m : Mem} : ∀ {l l' : List (Int × Int)} {w : Int}, Chain m w l 20 → Chain m w l' 20 → l = l'
  | [], [], _, _, _ => rfl
  | [], pb :: l', w, h, h' => by
    obtain ⟨rfl, _, _, hp, _⟩ := h'
    rw [h.1] at hp
    exact absurd hp.isPair (nil_noPair m)
  | pa :: l, [], w, h, h' => by
    obtain ⟨rfl, _, _, hp, _⟩ := h
    rw [h'.1] at hp
    exact absurd hp.isPair (nil_noPair m)
  | pa :: l, pb :: l', w, h, h' => by
    obtain ⟨rfl, _, d, hp, hr⟩ := h
    obtain ⟨e, _, d', hp', hr'⟩ := h'
    rw [← e] at hp'
    have ha : pa.2 = pb.2 := hp.car.symm.trans hp'.car
    have hd : d = d' := hp.cdr.symm.trans hp'.cdr
    subst hd
    rw [Chain.det hr hr', show pa = pb from Prod.ext e ha]
theorem chain_eqs {m : Mem} : ∀ {l l' : List (Int × Int)} {p q : Int}, Chain m p l 20 → Chain m q l' 20 → (∀ v ∈ l.map (·.2), v % 8 = 0 ∧ IsWord v) → (∀ v ∈ l'.map (·.2), IsWord v) → ∃ n, n ≤ 2 * l.length + 2 ∧ Eqs m [(p, q)] n (decide (l.map (·.2) = l'.map (·.2)))
  | l, l', p, q, h, h', hw, hw' => by
    by_cases hpq : p = q
    · subst hpq
      rw [Chain.det h h', decide_eq_true rfl]
      exact ⟨1, by omega, .same rfl .done⟩
    have ht : m.typ p ≠ 1 ∧ m.typ p ≠ 2 ∧ m.typ p ≠ 3 := by rw [h.typ]; decide
    match l, l' with
    | [], [] => exact absurd (h.1.trans h'.1.symm) hpq
    | [], pb :: l' =>
      rw [decide_eq_false (by simp)]
      exact ⟨1, by omega, .apart hpq h.word h'.word (fun hp => nil_noPair m (h.1 ▸ hp.1)) ht⟩
    | pa :: l, [] =>
      rw [decide_eq_false (by simp)]
      exact ⟨1, by omega, .apart hpq h.word h'.word (fun hp => nil_noPair m (h'.1 ▸ hp.2)) ht⟩
    | pa :: l, pb :: l' =>
      obtain ⟨rfl, t1, d, hp, hr⟩ := h
      obtain ⟨rfl, t2, d', hp', hr'⟩ := h'
      have hwa := hw pa.2 (by simp)
      have hwb := hw' pb.2 (by simp)
      by_cases hab : pa.2 = pb.2
      · obtain ⟨n, hn, hE⟩ := chain_eqs hr hr' (fun v hv => hw v (by rw [List.map_cons]; exact List.mem_cons_of_mem _ hv)) (fun v hv => hw' v (by rw [List.map_cons]; exact List.mem_cons_of_mem _ hv))
        refine ⟨n + 1 + 1, by simp only [List.length_cons]; omega, .pairs hpq hp hp' (.same hab ?_)⟩
        have : decide (List.map (·.2) (pa :: l) = List.map (·.2) (pb :: l')) = decide (l.map (·.2) = l'.map (·.2)) := by simp [hab]
        rw [this]; exact hE
      · rw [decide_eq_false (by simp [hab])]
        have ha := plain_fix (m := m) (kind := 2) (b := pb.2) hwa.1 hab (by decide)
        exact ⟨2, by simp only [List.length_cons]; omega, .pairs hpq hp hp' (.apart hab hwa.2 hwb ha.1 ha.2)⟩
theorem of22_c {H0 H : Array Obj} {k : Blk} {x : Hp} (L : Live H0 H k x) (he : x.sp.mem.Even) {lB : Option Addr} {lN lC : Nat} {ws : List Int} (hsrc : SrcAt H lB (wvs ws)) (hlen : lN = ws.length) (hsep : ∀ i ∈ blks lB, i ∉ k.all) (hw : ∀ w ∈ ws, IsWord w)
    (hr : ws.length ≤ x.sp.room) (hl : ws.length ≤ 30000) (hc : x.sp.mem.count + ws.length < 4611686018427387904) :
    morainelaw22_of.C (some ⟨k.h, 0, none⟩) lB lN lC H (fun v H' => ∃ (w : Int) (x' : Hp) (l : List (Int × Int)), v = .tuple #[.int .u64 w, .bool true] ∧ Live H0 H' k x' ∧ RowAs x x' w 20 l ∧ l.map (·.2) = ws ∧ Fr k.all H H') := by
  refine HC.via fun R hR => morainelaw22_of.link ?_
  unfold morainelaw22_of.pt
  refine HC.mono (apply_list L he hsrc hlen hsep hw hr hl hc) ?_
  rintro _ H1 ⟨w, x', l, rfl, L1, R1, hm, f1⟩
  have hll := R1.len hm
  refine ⟨_, _, rfl, HC.mono (lists_List_c L1.view R1.chain (by omega)) ?_⟩
  rintro _ H2 ⟨e2, ⟨h20, _⟩ | ⟨_, B, c, rfl, how, hy⟩⟩
  · exact absurd rfl h20
  refine ⟨_, _, _, _, rfl, ?_⟩
  rw [if_pos rfl, if_pos rfl]
  rw [hm] at how
  refine HC.mono (same22_c how.src ((hsrc.keep f1 hsep).ext e2) hll hlen (by omega)) ?_
  rintro _ _ ⟨rfl, rfl⟩
  exact ⟨_, rfl, hR _ _ ⟨w, x', l, by rw [decide_eq_true rfl], L1.grow e2, R1, hm, f1.trans e2.fr⟩⟩
theorem fresh_room (n : Nat) : Sp.room ⟨Mem.fresh n, fun _ _ => 0⟩ = 32 * (n : Int) := by
  unfold Sp.room; rw [if_neg (by simp)]; simp [Mem.fresh]
theorem awake22_c {H : Array Obj} : morainelaw22_awake.C H (fun v H' => v = .bool true ∧ Ext H H') := by
  refine HC.via fun R hR => morainelaw22_awake.link ?_
  unfold morainelaw22_awake.pt
  refine HC.mono (obj_New_c ⟨by decide, by decide⟩) ?_
  rintro _ H1 (⟨hn, _⟩ | ⟨_, b, x, rfl, V1, hx, e1, hy⟩)
  · exact absurd ⟨by decide, by decide⟩ hn
  have L1 : Live H H1 b x := ⟨V1.inv.2.1, V1.inv.2.2, e1, hy⟩
  have hc : x.sp.mem.count = 0 := by subst hx; rfl
  have hv : x.sp.mem.Even := by subst hx; exact even_fresh _
  have hr : x.sp.room = 256 := by subst hx; exact fresh_room 8
  clear hx V1
  refine ⟨_, _, rfl, ?_⟩
  rw [if_pos rfl, onPtr_some]
  intro b1 H2 hb1 hH2
  have g2 := push_get hb1 hH2
  have e2 : Ext H1 H2 := Ext.push' hH2
  have L2 := L1.grow e2
  refine HC.mono (apply_list L2 hv (ws := [8, 16, 24]) (rowAt_blk g2 _ 0 0 (fun j hj => by simp [wvs])) rfl (fun i hi h => by simp at hi; have := L1.lt h; omega) (fun w hw => by simp at hw; omega) (by simp; omega) (by simp) (by simp; omega)) ?_
  rintro _ H3 ⟨w, x3, l, rfl, L3, R3, hm, f3⟩
  obtain ⟨⟨p0, a0⟩, l, rfl⟩ : ∃ p l', l = p :: l' := by cases l with | nil => simp at hm | cons p l' => exact ⟨p, l', rfl⟩
  obtain ⟨⟨p1, a1⟩, l, rfl⟩ : ∃ p l', l = p :: l' := by cases l with | nil => simp at hm | cons p l' => exact ⟨p, l', rfl⟩
  obtain ⟨⟨p2, a2⟩, l, rfl⟩ : ∃ p l', l = p :: l' := by cases l with | nil => simp at hm | cons p l' => exact ⟨p, l', rfl⟩
  simp only [List.map_cons, List.cons.injEq, List.map_eq_nil_iff] at hm
  obtain ⟨rfl, rfl, rfl, rfl⟩ := hm
  have C3 := R3.chain
  have hr3 := R3.room
  have hc3 := R3.count
  simp at hr3 hc3
  refine ⟨_, _, rfl, fun b2 H4 hb2 hH4 => ?_⟩
  have L4 := L3.grow (Ext.push' hH4)
  refine HC.mono (apply_length L4 (push_get hb2 hH4) C3 (by simp)) ?_
  rintro _ H5 ⟨rfl, e5⟩
  refine ⟨_, _, rfl, fun b3 H6 hb3 hH6 => ?_⟩
  have L6 := (L4.grow e5).grow (Ext.push' hH6)
  obtain ⟨rfl, t0, d0, q0, rfl, t1, d1, q1, _⟩ := C3
  refine HC.mono (apply_cadr L6 (push_get hb3 hH6) q0 q1) ?_
  rintro _ H7 ⟨rfl, e7⟩
  refine ⟨_, _, rfl, fun b4 H8 hb4 hH8 => ?_⟩
  have L8 := (L6.grow e7).grow (Ext.push' hH8)
  refine HC.mono (apply_reverse L8 R3.even (push_get hb4 hH8) R3.chain (by simp) (by simp; omega) (by simp; omega)) ?_
  rintro _ H9 ⟨w9, x9, l9, rfl, L9, R9, hm9, f9⟩
  refine ⟨_, _, rfl, ?_⟩
  obtain ⟨⟨u0, c0⟩, l9, rfl⟩ : ∃ p l', l9 = p :: l' := by cases l9 with | nil => simp at hm9 | cons p l' => exact ⟨p, l', rfl⟩
  simp only [List.map_cons, List.map_nil, List.reverse_cons, List.reverse_nil, List.nil_append, List.cons_append, List.cons.injEq] at hm9
  obtain ⟨rfl, _⟩ := hm9
  obtain ⟨rfl, t9, d9, q9, _⟩ := R9.chain
  refine HC.mono (live_Car L9 q9) ?_
  rintro _ H10 ⟨rfl, e10⟩
  refine ⟨_, _, rfl, fun b5 H11 hb5 hH11 => ?_⟩
  have L11 := (L9.grow e10).grow (Ext.push' hH11)
  refine HC.mono (apply_car_no L11 (push_get hb5 hH11) (by decide) (not_pair_fix (by decide))) ?_
  rintro _ H12 ⟨rfl, e12⟩
  refine ⟨_, _, rfl, fun b6 H13 hb6 hH13 => ?_⟩
  have L13 := (L11.grow e12).grow (Ext.push' hH13)
  refine HC.mono (apply_cons_no L13) ?_
  rintro _ H14 ⟨rfl, e14⟩
  refine ⟨_, _, rfl, hR _ _ ⟨by rfl, (L13.grow e14).ext⟩⟩
end Go.Proofs.Ythlohokmnajpoaa
