/-
  lists: what compares words. Proves nothing of any one statement.
-/
import Derived.Test.YthlohokmnajpoaaListsM
import Derived.Test.YthlohokmnajpoaaLiveT
set_option linter.unusedVariables false
set_option linter.unusedSimpArgs false
namespace Go.Proofs.Ythlohokmnajpoaa
open Go

inductive Eqs (m : Mem) : List (Int × Int) → Nat → Bool → Prop
  | done : Eqs m [] 0 true
  | same {a b : Int} {st : List (Int × Int)} {n : Nat} {r : Bool} (h : a = b) (k : Eqs m st n r) : Eqs m ((a, b) :: st) (n + 1) r
  | apart {a b : Int} {st : List (Int × Int)} (h : a ≠ b) (ha : IsWord a) (hb : IsWord b) (hp : ¬ (m.isPair a ∧ m.isPair b)) (h1 : m.typ a ≠ 1 ∧ m.typ a ≠ 2 ∧ m.typ a ≠ 3) : Eqs m ((a, b) :: st) 1 false
  | pairs {a b : Int} {st : List (Int × Int)} {n : Nat} {r : Bool} {ta x d tb y e : Int} (h : a ≠ b) (pa : Pr m a ta x d) (pb : Pr m b tb y e) (k : Eqs m ((x, y) :: (d, e) :: st) n r) : Eqs m ((a, b) :: st) (n + 1) r
def twoV (p : Int × Int) : List Value := [.int .u64 p.1, .int .u64 p.2]
theorem twoV_len (p : Int × Int) : (twoV p).length = 2 := rfl
theorem Own.pop {H : Array Obj} {T : TypeId} {sz n c k : Nat} {p : Option Addr} {xs ys : List Value} (h : Own H T sz p n c (xs ++ ys)) (hk : k ≤ n) (hx : xs.length = k * sz) : Own H T sz p k c xs := by
  cases p with
  | none => obtain ⟨rfl, rfl, h⟩ := h; obtain rfl : k = 0 := by omega
            exact ⟨rfl, rfl, by simpa using hx⟩
  | some a =>
    obtain ⟨ha, cs, hb, hs, hn, hl, hc⟩ := h
    refine ⟨ha, cs, hb, hs, by omega, hx, fun j hj => ?_⟩
    have hle : k * sz ≤ n * sz := Nat.mul_le_mul_right _ hk
    rw [hc j (by omega), List.getElem?_append_left (by omega)]
theorem Own.cap0 {H : Array Obj} {T : TypeId} {sz n c : Nat} {p : Option Addr} {xs : List Value} (h : Own H T sz p n c xs) : (if c = 0 then p else Option.map (fun a : Addr => a.add (0 * sz)) p) = p := by
  split
  · rfl
  · cases p with
    | none => rfl
    | some a => simp only [Option.map_some, Nat.zero_mul]; rw [addr_plus0]

theorem judge_value_c {H : Array Obj} {hv : Option Addr} {o : Option (Blk × Hp)} {a b : Int} {jA : Addr} (V : View H hv o) (hj : hat H jA = some (.pointer hv)) (ha : IsWord a) (hT : a ≠ b → (mof o).typ a ≠ 3) :
    lists_judge_value.C (some jA) a b H (fun v H' => v = .bool (a == b) ∧ Ext H H') := by
  refine HC.via fun R hR => lists_judge_value.link ?_
  unfold lists_judge_value.pt
  by_cases h : a = b
  · rw [if_pos h]; exact hR _ _ ⟨by simp [h], Ext.refl _⟩
  rw [if_neg h]
  refine ⟨jA, rfl, hv, hj, HC.mono (obj_Type_c V ha) ?_⟩
  rintro _ H1 ⟨rfl, e1⟩
  refine ⟨_, rfl, ?_⟩
  rw [if_neg (hT h)]
  exact hR _ _ ⟨by simp [h], e1⟩
theorem judge_push_c {H : Array Obj} {b2 n c : Nat} {x y : Int} {B : Option Addr} {st : List (Int × Int)} (hb : H[b2]? = some (.cells #[.slice B n c] 109 (0, 0))) (hB : b2 ∉ blks B) (how : Own H 108 2 B n c (st.reverse.flatMap twoV)) (hn : n ≤ 100000) :
    lists_judge_equal_1.C x y (some ⟨b2, 0, none⟩) H (fun v H' => ∃ (B' : Option Addr) (c' : Nat), H'[b2]? = some (.cells #[.slice B' (n + 1) c'] 109 (0, 0)) ∧ b2 ∉ blks B' ∧ Own H' 108 2 B' (n + 1) c' (((x, y) :: st).reverse.flatMap twoV) ∧
      Fr (b2 :: blks B) H H' ∧ ∀ i ∈ blks B', i ∈ blks B ∨ H.size ≤ i) := by
  refine HC.via fun R hR => lists_judge_equal_1.link ?_
  unfold lists_judge_equal_1.pt
  refine ⟨_, rfl, B, n, c, by rw [hat_blk hb]; rfl, ?_⟩
  intro b H1 hb1 hH1
  have e1 : Ext H H1 := Ext.push' hH1
  have s1 : H1.size = H.size + 1 := by rw [hH1]; simp
  have hlt := lt_size hb
  refine own_append (ys := [.int .u64 x, .int .u64 y]) (how.ext e1) (rowAt_blk (push_get hb1 hH1) _ 0 0 (fun j hj => by simp)) rfl rfl rfl (by omega) ?_
  intro p' c' H2 how2 f2 hnew
  have hB2 : b2 ∉ blks p' := fun hi => by
    rcases hnew _ hi with h | h
    · exact hB h
    · omega
  obtain ⟨hcp, hpu⟩ := box_set (vs := [.slice p' (n + 1) c']) (f2.get hB (e1.get hb)) rfl rfl
  refine ⟨hcp, fun H3 hH3 => ?_⟩
  obtain ⟨g3, f3⟩ := hpu H3 hH3
  refine hR _ _ ⟨p', c', g3, hB2, ?_, ?_, fun i hi => ?_⟩
  · have h := how2.keep f3 (fun i hi => by simp; intro h; exact hB2 (h ▸ hi))
    rw [List.reverse_cons, List.flatMap_append]
    exact h
  · exact (e1.fr.trans (f2.mono (fun i hi _ => by simp [hi]))).trans (f3.mono (fun i hi _ => by simp at hi; simp [hi]))
  · rcases hnew i hi with h | h
    · exact .inl h
    · exact .inr (by omega)
def judgeN (jb : Nat) (A : Array Obj) : Nat := match hat A ⟨jb, 1, none⟩ with | some (.int _ k) => (20000 - k).toNat | _ => 0
theorem judgeN_of {jb : Nat} {A : Array Obj} {v : Value} {k : Int} {T : TypeId} {fz : Nat × Nat} (h : A[jb]? = some (.cells #[v, .int .i64 k] T fz)) : judgeN jb A = (20000 - k).toNat := by
  unfold judgeN; rw [hat_blk h]; rfl
set_option maxRecDepth 100000 in
theorem judge_equal_c {H : Array Obj} {hv : Option Addr} {o : Option (Blk × Hp)} {a b cnt : Int} {jb n : Nat} {r : Bool} (hV : ∀ H', Fr [jb] H H' → View H' hv o) (hj : H[jb]? = some (.cells #[.pointer hv, .int .i64 cnt] 67 (0, 0)))
    (heq : Eqs (mof o) [(a, b)] n r) (ha : IsWord a ∧ IsWord b) (hn : cnt + n ≤ 20000) (h0 : 0 ≤ cnt) :
    lists_judge_equal.C (some ⟨jb, 0, none⟩) a b H (fun v H' => ∃ k : Int, v = .tuple #[.bool r, .int .i64 0] ∧ Fr [jb] H H' ∧ H'[jb]? = some (.cells #[.pointer hv, .int .i64 k] 67 (0, 0)) ∧ cnt ≤ k ∧ k ≤ cnt + n) := by
  refine HC.via fun R hR => lists_judge_equal.link ?_
  unfold lists_judge_equal.pt
  intro b2 H1 hb2 hH1 b3 H2 hb3 hH2
  have e1 : Ext H H1 := Ext.push' hH1
  have e2 : Ext H1 H2 := Ext.push' hH2
  have s1 : H1.size = H.size + 1 := by rw [hH1]; simp
  have s2 : H2.size = H1.size + 1 := by rw [hH2]; simp
  have hjlt := lt_size hj
  obtain ⟨hcp, hpu⟩ := box_set (vs := [.slice (some ⟨b2, 0, none⟩) 1 1]) (push_get hb3 hH2) rfl rfl
  refine ⟨hcp, fun H3 hH3 => ?_⟩
  obtain ⟨g3, f3⟩ := hpu H3 hH3
  have g2 := f3.get (b := b2) (by simp; omega) (e2.get (push_get hb2 hH1))
  have e03 : Ext H H3 := (e1.trans e2).fr_trans f3 (fun i hi => by simp at hi; omega)
  refine ⟨fun A => ∃ (st : List (Int × Int)) (n' : Nat) (k : Int) (B : Option Addr) (C : Nat), A[b3]? = some (.cells #[.slice B st.length C] 109 (0, 0)) ∧ b3 ∉ blks B ∧ Own A 108 2 B st.length C (st.reverse.flatMap twoV) ∧ (∀ i ∈ blks B, H.size ≤ i) ∧
    Fr [jb] H A ∧ A[jb]? = some (.cells #[.pointer hv, .int .i64 k] 67 (0, 0)) ∧ Eqs (mof o) st n' r ∧ (∀ p ∈ st, IsWord p.1 ∧ IsWord p.2) ∧ k + n' ≤ cnt + n ∧ cnt ≤ k ∧ st.length ≤ k + 1 - cnt ∧ H3.size ≤ A.size, judgeN jb,
    ⟨[(a, b)], n, cnt, some ⟨b2, 0, none⟩, 1, g3, by simp; omega, ⟨rfl, _, g2, rfl, by simp, rfl, fun j hj => by simp [twoV]⟩, by simp; omega, e03.fr, e03.get hj, heq, by simpa using ha, by omega, Int.le_refl _, by simp; omega, Nat.le_refl _⟩, ?_⟩
  rintro A ⟨st, n', k, B, C, gb, hB, how, hy, fA, gj, hE, hW, hk, hk0, hst, sA⟩
  refine ⟨B, _, C, by rw [hat_blk gb]; rfl, ?_⟩
  match st, hE with
  | [], hE =>
    obtain ⟨rfl, rfl⟩ : n' = 0 ∧ r = true := by cases hE; exact ⟨rfl, rfl⟩
    rw [if_neg (by simp)]
    exact hR _ _ ⟨k, rfl, fA, gj, hk0, by omega⟩
  | (a, b) :: st, hE =>
  have hwa : IsWord a ∧ IsWord b := hW (a, b) (by simp)
  have hn1 : 1 ≤ n' := by cases hE <;> omega
  have hlen : (((a, b) :: st).length : Int) = st.length + 1 := by simp
  have hlen' : ((a, b) :: st).length = st.length + 1 := by simp
  rw [hlen', if_pos (by omega)]
  rw [hlen'] at gb how hst
  have hw1 : IntKind.wrap .i64 (((st.length + 1 : Nat) : Int) - 1) = st.length := by rw [w64 (by omega)]; omega
  obtain ⟨xa, hxa, _, hrow⟩ := how.elem twoV_len (by decide) (k := st.length) (by simp)
  have hget : ((a, b) :: st).reverse[st.length]'(by simp) = (a, b) := by simp
  rw [hget] at hrow
  refine ⟨B, _, C, by rw [hat_blk gb]; rfl, B, _, C, by rw [hat_blk gb]; rfl, xa, hxa, ⟨by rw [hw1]; omega, by rw [hw1]; omega⟩, a, b, by rw [hw1, show Int.toNat (st.length : Int) = st.length by omega]; exact hrow, ?_⟩
  intro b4 H5 hb4 hH5
  obtain ⟨c5, p5⟩ := box_new (n := 2) (vs := [.int .u64 a, .int .u64 b]) hb4 hH5 rfl rfl
  refine ⟨c5, fun H6 hH6 => ?_⟩
  obtain ⟨g4, e6⟩ := p5 H6 hH6
  have hb3lt := lt_size gb
  have hb4lt := lt_size g4
  refine ⟨B, _, C, by rw [hat_blk (e6.get gb)]; rfl, B, _, C, by rw [hat_blk (e6.get gb)]; rfl, 0, st.length, rfl, hw1, by omega, by have := how.le; omega, fun sl hsl => ?_⟩
  rw [how.cap0] at hsl
  rw [hsl]
  clear hsl
  have how6 : Own A 108 2 B st.length C (st.reverse.flatMap twoV) := by
    rw [List.reverse_cons, List.flatMap_append] at how
    exact how.pop (by omega) (by rw [flat_len twoV_len]; simp)
  obtain ⟨c7, p7⟩ := box_set (vs := [.slice B (st.length - 0) (C - 0)]) (e6.get gb) rfl rfl
  refine ⟨c7, fun H7 hH7 => ?_⟩
  obtain ⟨g7, f7⟩ := p7 H7 hH7
  rw [Nat.sub_zero, Nat.sub_zero] at g7
  have gj7 := f7.get (b := jb) (by simp; omega) (e6.get gj)
  refine ⟨⟨jb, 0, none⟩, rfl, k, by rw [box_get gj7 1]; rfl, ?_⟩
  obtain ⟨c8, p8⟩ := box_put gj7 1 (.int .i64 (IntKind.wrap .i64 (k + 1))) (by simp)
  refine ⟨c8, fun H8 hH8 => ?_⟩
  obtain ⟨gj8, f8⟩ := p8 H8 hH8
  rw [w64 (n := k + 1) (by omega), show (#[.pointer hv, .int .i64 k] : Array Value).setIfInBounds 1 (.int .i64 (k + 1)) = #[.pointer hv, .int .i64 (k + 1)] from rfl] at gj8
  have hjb3 : jb ≠ b3 := by omega
  have hjb4 : jb ≠ b4 := by omega
  have hb34 : b3 ≠ b4 := by omega
  have hb2B : ∀ i ∈ blks B, i ≠ jb ∧ i ≠ b3 ∧ i < A.size := fun i hi => ⟨by have := hy i hi; omega, fun h => hB (h ▸ hi), how.lt i hi⟩
  have g48 := f8.get (b := b4) (by simp; omega) (f7.get (by simp; omega) g4)
  have g38 := f8.get (b := b3) (by simp; omega) g7
  have F8 : Fr [jb] H H8 := fA.trans' (((e6.fr (S := [b3])).trans f7).trans' f8 (S'' := [b3, jb]) (fun i hi _ => by simp at hi; simp [hi]) (fun i hi _ => by simp at hi; simp [hi])) (fun i hi _ => hi) (fun i hi hlt => by simp at hi; simp; omega)
  have how8 : Own H8 108 2 B st.length C (st.reverse.flatMap twoV) := ((how6.ext e6).keep f7 (fun i hi => by simp; exact (hb2B i hi).2.1)).keep f8 (fun i hi => by simp; exact (hb2B i hi).1)
  have s8 : A.size ≤ H8.size := by have := e6.size; have := f7.size; have := f8.size; omega
  refine ⟨k + 1, by rw [box_get gj8 1]; rfl, ?_⟩
  rw [if_neg (by omega)]
  refine ⟨a, by rw [hat_blk g48]; rfl, b, by rw [box_get g48 1]; rfl, ?_⟩
  have jn : ∀ A', A'[jb]? = some (.cells #[.pointer hv, .int .i64 (k + 1)] 67 (0, 0)) → judgeN jb A' < judgeN jb A := fun A' h => by
    rw [judgeN_of h, judgeN_of gj]; omega
  have hjv : ∀ A', Ext H8 A' → hat A' ⟨jb, 0, none⟩ = some (.pointer hv) := fun A' e => by rw [hat_blk (e.get gj8)]; rfl
  refine HC.mono (judge_value_c (hV _ F8) (hjv _ (Ext.refl _)) hwa.1 (fun h => ?_)) ?_
  · cases hE with
    | same h' => exact absurd h' h
    | apart _ _ _ _ h3 => exact h3.2.2
    | pairs _ pa _ _ => rw [pa.type]; decide
  rintro _ H9 ⟨rfl, e9⟩
  refine ⟨_, rfl, ?_⟩
  have FE9 : ∀ A', Ext H8 A' → Fr [jb] H A' := fun A' e => F8.trans e.fr
  cases hE with
  | @same _ _ _ n' _ hab hE =>
    rw [if_pos (by simp [hab])]
    exact ⟨⟨st, n', k + 1, B, C, e9.get g38, hB, how8.ext e9, hy, FE9 _ e9, e9.get gj8, hE, fun p hp => hW p (List.mem_cons_of_mem _ hp), by omega, by omega, by omega, by have := e9.size; omega⟩, jn _ (e9.get gj8)⟩
  | apart hab ha' hb' hp h123 =>
    rw [if_neg (by simp [hab])]
    refine ⟨hv, hjv _ e9, a, by rw [hat_blk (e9.get g48)]; rfl, HC.mono (obj_Type_c (hV _ (FE9 _ e9)) hwa.1) ?_⟩
    rintro _ H10 ⟨rfl, e10⟩
    have e810 := e9.trans e10
    refine ⟨_, rfl, fun q A' => q = false ∧ Ext H8 A', ⟨hv, hjv _ e810, a, by rw [hat_blk (e810.get g48)]; rfl, hv, hjv _ e810, b, by rw [box_get (e810.get g48) 1]; rfl, HC.mono (obj_Pair_c (hV _ (FE9 _ e810)) hwa.1) ?_⟩, ?_⟩
    · rintro _ H31 ⟨rfl, e31⟩
      have e831 := e810.trans e31
      refine ⟨_, rfl, ⟨by rw [addr_plus0]; exact hjv _ e831, trivial⟩, ⟨by rw [addr_plus0, box_get (e831.get g48) 1]; rfl, trivial⟩, ?_⟩
      by_cases hpa : (mof o).isPair a
      · rw [if_pos (decide_eq_true hpa)]
        refine HC.mono (obj_Pair_c (hV _ (FE9 _ e831)) hwa.2) ?_
        rintro _ H32 ⟨rfl, e32⟩
        have e832 := e831.trans e32
        exact ⟨_, rfl, ⟨by rw [addr_plus0]; exact hjv _ e832, trivial⟩, ⟨by rw [addr_plus0, box_get (e832.get g48) 1]; rfl, trivial⟩, decide_eq_false (fun hpb => hp ⟨hpa, hpb⟩), e832⟩
      · rw [if_neg (by simpa using hpa)]
        exact ⟨rfl, e831⟩
    rintro _ H11 ⟨rfl, e11⟩
    rw [if_neg (by decide)]
    refine ⟨fun q A' => q = true ∧ Ext H8 A', ⟨hv, hjv _ e11, b, by rw [box_get (e11.get g48) 1]; rfl, hv, hjv _ e11, a, by rw [hat_blk (e11.get g48)]; rfl, hv, hjv _ e11, b, by rw [box_get (e11.get g48) 1]; rfl, HC.mono (obj_Type_c (hV _ (FE9 _ e11)) hwa.2) ?_⟩, ?_⟩
    · rintro _ H26 ⟨rfl, e26⟩
      have e826 := e11.trans e26
      refine ⟨_, rfl, ⟨by rw [addr_plus0]; exact hjv _ e826, trivial⟩, ⟨by rw [addr_plus0, hat_blk (e826.get g48)]; rfl, trivial⟩, ⟨by rw [addr_plus0]; exact hjv _ e826, trivial⟩, ⟨by rw [addr_plus0, box_get (e826.get g48) 1]; rfl, trivial⟩, ?_⟩
      by_cases ht : (mof o).typ a = (mof o).typ b
      · rw [if_pos ht, if_neg h123.2.1, if_neg h123.1]; exact ⟨rfl, e826⟩
      · rw [if_neg ht]; exact ⟨rfl, e826⟩
    rintro _ H18 ⟨rfl, e18⟩
    rw [if_pos rfl]
    exact hR _ _ ⟨k + 1, rfl, FE9 _ e18, e18.get gj8, by omega, by omega⟩
  | @pairs _ _ _ n' _ ta x d tb y e hab pa pb hE =>
    rw [if_neg (by simp [hab])]
    refine ⟨hv, hjv _ e9, a, by rw [hat_blk (e9.get g48)]; rfl, HC.mono (obj_Type_c (hV _ (FE9 _ e9)) hwa.1) ?_⟩
    rintro _ H10 ⟨rfl, e10⟩
    have e810 := e9.trans e10
    refine ⟨_, rfl, fun q A' => q = true ∧ Ext H8 A', ⟨hv, hjv _ e810, a, by rw [hat_blk (e810.get g48)]; rfl, hv, hjv _ e810, b, by rw [box_get (e810.get g48) 1]; rfl, HC.mono (obj_Pair_c (hV _ (FE9 _ e810)) hwa.1) ?_⟩, ?_⟩
    · rintro _ H31 ⟨rfl, e31⟩
      have e831 := e810.trans e31
      refine ⟨_, rfl, ⟨by rw [addr_plus0]; exact hjv _ e831, trivial⟩, ⟨by rw [addr_plus0, box_get (e831.get g48) 1]; rfl, trivial⟩, ?_⟩
      rw [if_pos (decide_eq_true pa.isPair)]
      refine HC.mono (obj_Pair_c (hV _ (FE9 _ e831)) hwa.2) ?_
      rintro _ H32 ⟨rfl, e32⟩
      have e832 := e831.trans e32
      exact ⟨_, rfl, ⟨by rw [addr_plus0]; exact hjv _ e832, trivial⟩, ⟨by rw [addr_plus0, box_get (e832.get g48) 1]; rfl, trivial⟩, decide_eq_true pb.isPair, e832⟩
    rintro _ H11 ⟨rfl, e11⟩
    rw [if_pos rfl]
    refine ⟨hv, hjv _ e11, a, by rw [hat_blk (e11.get g48)]; rfl, HC.mono (obj_Cdr_c (hV _ (FE9 _ e11)) hwa.1) ?_⟩
    rintro _ H12 ⟨rfl, e12⟩
    rw [pa.half.2, if_pos rfl, pa.cdr]
    have e812 := e11.trans e12
    refine ⟨_, _, rfl, hv, hjv _ e812, b, by rw [box_get (e812.get g48) 1]; rfl, HC.mono (obj_Cdr_c (hV _ (FE9 _ e812)) hwa.2) ?_⟩
    rintro _ H13 ⟨rfl, e13⟩
    rw [pb.half.2, if_pos rfl, pb.cdr]
    have e813 := e812.trans e13
    have s813 := e813.size
    refine ⟨_, _, rfl, HC.mono (judge_push_c (e813.get g38) hB (how8.ext e813) (by omega)) ?_⟩
    rintro _ H14 ⟨B1, c1, g14, hB1, how14, f14, hy14⟩
    have hy1 : ∀ i ∈ blks B1, H.size ≤ i ∧ i ≠ jb ∧ i ≠ b3 ∧ i ≠ b4 := fun i hi => by
      rcases hy14 i hi with h | h
      · have := hy i h; have := hb2B i h; omega
      · have := F8.size; have := f7.size; have := f8.size; refine ⟨by omega, by omega, by omega, by omega⟩
    have gj14 := f14.get (b := jb) (by simp; exact ⟨hjb3, fun h => (hb2B _ h).1 rfl⟩) (e813.get gj8)
    have g414 := f14.get (b := b4) (by simp; exact ⟨fun h => hb34 h.symm, fun h => by have := (hb2B _ h).2.2; omega⟩) (e813.get g48)
    have F14 : Fr [jb] H H14 := (FE9 _ e813).trans' f14 (fun i hi _ => hi) (fun i hi hlt => by
      rcases List.mem_cons.1 hi with h | h
      · omega
      · have := hy i h; omega)
    have w1 := pa.word; have w2 := pb.word
    refine ⟨hv, by rw [hat_blk gj14]; rfl, a, by rw [hat_blk g414]; rfl, HC.mono (obj_Car_c (hV _ F14) hwa.1) ?_⟩
    rintro _ H15 ⟨rfl, e15⟩
    rw [pa.half.1, if_pos rfl, show a / 8 + 0 = a / 8 by omega, pa.car]
    refine ⟨_, _, rfl, hv, by rw [hat_blk (e15.get gj14)]; rfl, b, by rw [box_get (e15.get g414) 1]; rfl, HC.mono (obj_Car_c (hV _ (F14.trans e15.fr)) hwa.2) ?_⟩
    rintro _ H16 ⟨rfl, e16⟩
    rw [pb.half.1, if_pos rfl, show b / 8 + 0 = b / 8 by omega, pb.car]
    have e1416 := e15.trans e16
    refine ⟨_, _, rfl, HC.mono (judge_push_c (e1416.get g14) hB1 (how14.ext e1416) (by omega)) ?_⟩
    rintro _ H17 ⟨B2, c2, g17, hB2, how17, f17, hy17⟩
    have gj17 := f17.get (b := jb) (by simp; exact ⟨hjb3, fun h => (hy1 _ h).2.1 rfl⟩) (e1416.get gj14)
    have F17 : Fr [jb] H H17 := (F14.trans e1416.fr).trans' f17 (fun i hi _ => hi) (fun i hi hlt => by
      rcases List.mem_cons.1 hi with h | h
      · omega
      · have := hy1 i h; omega)
    have vw := View.word (hV _ F8)
    have ws17 : (IsWord x ∧ IsWord y) ∧ IsWord d ∧ IsWord e := by
      rw [← pa.car, ← pb.car, ← pa.cdr, ← pb.cdr]; exact ⟨⟨vw _, vw _⟩, vw _, vw _⟩
    refine ⟨⟨(x, y) :: (d, e) :: st, n', k + 1, B2, c2, g17, hB2, how17, fun i hi => ?_, F17, gj17, hE, fun p hp => ?_, by omega, by omega, by simp; omega, ?_⟩, jn _ gj17⟩
    · rcases hy17 i hi with h | h
      · exact (hy1 i h).1
      · have := F14.size; have := e1416.size; omega
    · simp only [List.mem_cons] at hp
      rcases hp with rfl | rfl | hp
      · exact ws17.1
      · exact ws17.2
      · exact hW p (List.mem_cons_of_mem _ hp)
    · have := f14.size; have := e1416.size; have := f17.size; omega
end Go.Proofs.Ythlohokmnajpoaa
