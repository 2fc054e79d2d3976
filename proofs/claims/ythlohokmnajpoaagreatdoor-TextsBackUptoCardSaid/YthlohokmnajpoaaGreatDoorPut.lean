/-
  Things are made (package obj): the contracts of put and Make, and what becomes of the memory. Proves nothing of any one statement.
-/
import Derived.Test.YthlohokmnajpoaaGreatDoorObj
set_option linter.unusedVariables false
set_option linter.unusedSimpArgs false
namespace Go.Proofs.YthlohokmnajpoaaGreatDoor
open Go

abbrev wvs (ws : List Int) : List Value := ws.map (Value.int .u64)
theorem allOne_wvs : ∀ ws : List Int, allOne (wvs ws) = true
  | [] => rfl
  | w :: ws => by show (true && allOne (wvs ws)) = true; rw [allOne_wvs ws]; rfl

structure Grown (m m' : Mem) (a n g k : Int) : Prop where
  limit : m'.limit = m.limit
  addr : 0 ≤ a ∧ a / 64 < m.limit ∧ a % 64 + n ≤ 64
  new : (m'.seg (a / 64).toNat).taken ≠ 0 ∧ (m'.seg (a / 64).toNat).gen = g ∧ (m'.seg (a / 64).toNat).kind = k ∧ (m'.seg (a / 64).toNat).n = a % 64 + n
  old : (m.seg (a / 64).toNat).taken ≠ 0 → (m.seg (a / 64).toNat).gen = g ∧ (m.seg (a / 64).toNat).kind = k ∧ (m.seg (a / 64).toNat).n = a % 64 ∧ (m'.seg (a / 64).toNat).words = (m.seg (a / 64).toNat).words ∧ (m'.seg (a / 64).toNat).cards = (m.seg (a / 64).toNat).cards ∧ (m'.seg (a / 64).toNat).taken = (m.seg (a / 64).toNat).taken
  fresh : (m.seg (a / 64).toNat).taken = 0 → a % 64 = 0
  others : ∀ i, i ≠ (a / 64).toNat → m'.seg i = m.seg i
  free : m.free - 1 ≤ m'.free
  count : m'.count ≤ m.count + 1
theorem Mem.bump_ok {m : Mem} (ok : MemOK m) {k d : Int} (h : (m.bump k d).2.2 = 0) : m.has k ∧ 1 ≤ d ∧ (m.seg k.toNat).n + d ≤ 64 ∧ m.bump k d = (m.upd k.toNat ((m.seg k.toNat).bump d), k * 64 + (m.seg k.toNat).n, 0) := by
  unfold Mem.bump at *
  by_cases hk : m.has k
  case neg => rw [if_pos hk] at h; exact absurd h (by show ¬ ((19 : Int) = 0); decide)
  rw [if_neg (fun hh => hh hk)] at h ⊢
  by_cases hd : d < 1
  · rw [if_pos hd] at h; exact absurd h (by show ¬ ((1 : Int) = 0); decide)
  rw [if_neg hd] at h ⊢
  by_cases hf : 64 - (m.seg k.toNat).n < d
  · rw [if_pos hf] at h; exact absurd h (by show ¬ ((2 : Int) = 0); decide)
  rw [if_neg hf] at h ⊢
  exact ⟨hk, by omega, by omega, rfl⟩
theorem Mem.bump_can {m : Mem} {k d : Int} (hk : m.has k) (hd : 1 ≤ d) (hf : (m.seg k.toNat).n + d ≤ 64) : (m.bump k d).2.2 = 0 := by
  unfold Mem.bump
  rw [if_neg (fun hh => hh hk), if_neg (by omega), if_neg (by omega)]

theorem Sp.alloc_ok {s : Sp} (ok : SpOK s) {g k n : Int} (h : (s.alloc g k n).2.2 = 0) : SpOK (s.alloc g k n).1 ∧ Grown s.mem (s.alloc g k n).1.mem (s.alloc g k n).2.1 n g k := by
  have hlim := ok.mem.lim
  unfold Sp.alloc at *
  by_cases hm : may g k n
  case neg => rw [if_pos hm] at h; exact absurd h (by show ¬ ((1 : Int) = 0); decide)
  rw [if_neg (fun hh => hh hm)] at h ⊢
  have hg := hm.1
  have hk : 0 ≤ k ∧ k ≤ 3 := by have := hm.2; omega
  have hn : 1 ≤ n ∧ n ≤ 63 := by have := hm.2; omega
  by_cases hc : s.cur g.toNat k.toNat ≠ 0 ∧ (s.mem.bump (s.cur g.toNat k.toNat - 1) n).2.2 = 0
  · rw [if_pos hc] at h ⊢
    obtain ⟨hhas, hd, hf, he⟩ := Mem.bump_ok ok.mem hc.2
    rcases ok.cur g.toNat k.toNat with h0 | ⟨h1, h2, h3, h4⟩
    · exact absurd h0 hc.1
    generalize hj : s.cur g.toNat k.toNat - 1 = j at *
    have hsn := (ok.mem.seg j.toNat).n
    have j0 := h2.1
    have e1 : (j * 64 + (s.mem.seg j.toNat).n) / 64 = j := by omega
    have e2 : (j * 64 + (s.mem.seg j.toNat).n) % 64 = (s.mem.seg j.toNat).n := by omega
    have hmb := ok.mem.bump j n
    rw [he] at hmb ⊢
    refine ⟨?_, ?_⟩
    · refine ok.withMem hmb (fun i hi => ⟨hi.1, hi.2.1, ?_⟩) (fun i => ?_)
      · rw [Mem.upd_seg]
        by_cases e : i.toNat = j.toNat
        · rw [if_pos e]; exact h2.2.2
        · rw [if_neg e]; exact hi.2.2
      · rw [Mem.upd_seg]
        by_cases e : i = j.toNat
        · rw [if_pos e, e]; exact ⟨rfl, rfl⟩
        · rw [if_neg e]; exact ⟨rfl, rfl⟩
    · refine ⟨rfl, ⟨by show 0 ≤ j * 64 + (s.mem.seg j.toNat).n; omega, by show (j * 64 + (s.mem.seg j.toNat).n) / 64 < _; rw [e1]; exact h2.2.1, by show (j * 64 + (s.mem.seg j.toNat).n) % 64 + n ≤ 64; rw [e2]; exact hf⟩, ?_, ?_, ?_, ?_, by show _ ≤ s.mem.free; omega, by show s.mem.count ≤ _; omega⟩ <;> simp only [e1, e2]
      · rw [Mem.upd_same]; exact ⟨h2.2.2, by rw [show ((s.mem.seg j.toNat).bump n).gen = _ from h3]; omega, by rw [show ((s.mem.seg j.toNat).bump n).kind = _ from h4]; omega, rfl⟩
      · intro _; rw [Mem.upd_same]; refine ⟨by rw [h3]; omega, by rw [h4]; omega, ?_⟩; first | exact ⟨rfl, rfl, rfl, rfl⟩ | exact ⟨trivial, rfl, rfl, rfl⟩
      · intro h0; exact absurd h0 h2.2.2
      · intro i hi; rw [Mem.upd_other _ _ hi]
  rw [if_neg hc] at h ⊢
  by_cases ht : (s.mem.take g k).2.2 = 0
  case neg => rw [if_neg ht] at h; exact absurd h ht
  rw [if_pos ht] at h ⊢
  have hok := ok.mem.take g k
  have hte : s.mem.take g k = ({ s.mem with count := s.mem.count + 1, free := s.mem.free - 1 }.upd s.mem.first (Seg.new g k (s.mem.count + 1)), (s.mem.first : Int), 0) ∧ s.mem.free ≠ 0 := by
    unfold Mem.take at ht ⊢
    rw [if_neg (by omega)] at ht ⊢
    by_cases hf : s.mem.free = 0
    · rw [if_pos hf] at ht; exact absurd ht (by show ¬ ((2 : Int) = 0); decide)
    · rw [if_neg hf]; exact ⟨rfl, hf⟩
  obtain ⟨hte, hfree⟩ := hte
  obtain ⟨hf1, hf0⟩ := Mem.first_spec ok.mem hfree
  rw [hte] at h hok ⊢
  generalize hm1 : ({ s.mem with count := s.mem.count + 1, free := s.mem.free - 1 } : Mem).upd s.mem.first (Seg.new g k (s.mem.count + 1)) = m1 at *
  simp only at h hok ⊢
  have hcnt := ok.mem.count
  have hsf : m1.seg s.mem.first = Seg.new g k (s.mem.count + 1) := by rw [← hm1, Mem.upd_same]
  have hso : ∀ i, i ≠ s.mem.first → m1.seg i = s.mem.seg i := fun i hi => by rw [← hm1, Mem.upd_other _ _ hi]
  have hl1 : m1.limit = s.mem.limit := by rw [← hm1]; rfl
  have hfr1 : m1.free = s.mem.free - 1 := by rw [← hm1]; rfl
  have hct1 : m1.count = s.mem.count + 1 := by rw [← hm1]; rfl
  obtain ⟨hhas, hd, hf, he⟩ := Mem.bump_ok hok h
  have en : ((s.mem.first : Int)).toNat = s.mem.first := by omega
  rw [en, hsf] at he hf
  have hn0 : (Seg.new g k (s.mem.count + 1)).n = 0 := rfl
  rw [hn0] at he hf
  have hmb := hok.bump s.mem.first n
  rw [he] at hmb ⊢
  have e1 : ((s.mem.first : Int) * 64 + 0) / 64 = s.mem.first := by omega
  have e2 : ((s.mem.first : Int) * 64 + 0) % 64 = 0 := by omega
  refine ⟨⟨hmb, fun i j => ?_⟩, ?_⟩
  · show (s.setCur g.toNat k.toNat ((s.mem.first : Int) + 1)).cur i j = 0 ∨ _
    simp only [Sp.setCur]
    by_cases hij : i = g.toNat ∧ j = k.toNat
    · rw [if_pos hij]
      refine .inr ⟨by omega, ⟨by omega, by rw [Mem.upd_limit, hl1]; omega, ?_⟩, ?_, ?_⟩
      · rw [show ((s.mem.first : Int) + 1 - 1).toNat = s.mem.first by omega, Mem.upd_same]; show s.mem.count + 1 ≠ 0; omega
      · rw [show ((s.mem.first : Int) + 1 - 1).toNat = s.mem.first by omega, Mem.upd_same]; show g = _; omega
      · rw [show ((s.mem.first : Int) + 1 - 1).toNat = s.mem.first by omega, Mem.upd_same]; show k = _; omega
    · rw [if_neg hij]
      rcases ok.cur i j with h0 | ⟨h1, h2, h3, h4⟩
      · exact .inl h0
      · have hne : (s.cur i j - 1).toNat ≠ s.mem.first := fun e => h2.2.2 (by rw [e]; exact hf0)
        refine .inr ⟨h1, ⟨h2.1, by rw [Mem.upd_limit, hl1]; exact h2.2.1, ?_⟩, ?_, ?_⟩
        · rw [Mem.upd_other _ _ hne, hso _ hne]; exact h2.2.2
        · rw [Mem.upd_other _ _ hne, hso _ hne]; exact h3
        · rw [Mem.upd_other _ _ hne, hso _ hne]; exact h4
  · refine ⟨by show m1.limit = _; exact hl1, ⟨by show 0 ≤ (s.mem.first : Int) * 64 + 0; omega, by show ((s.mem.first : Int) * 64 + 0) / 64 < _; rw [e1]; omega, by show ((s.mem.first : Int) * 64 + 0) % 64 + n ≤ 64; rw [e2]; omega⟩, ?_, ?_, ?_, ?_, by show _ ≤ m1.free; omega, by show m1.count ≤ _; omega⟩ <;> simp only [e1, e2, en]
    · rw [Mem.upd_same]; exact ⟨by show s.mem.count + 1 ≠ 0; omega, rfl, rfl, rfl⟩
    · intro h0; exact absurd hf0 h0
    · intro _; trivial
    · intro i hi; rw [Mem.upd_other _ _ hi, hso _ hi]
theorem Sp.alloc_can {s : Sp} (ok : SpOK s) {g k n : Int} (hm : may g k n) (hf : 1 ≤ s.mem.free) : (s.alloc g k n).2.2 = 0 := by
  unfold Sp.alloc
  rw [if_neg (fun hh => hh hm)]
  by_cases hc : s.cur g.toNat k.toNat ≠ 0 ∧ (s.mem.bump (s.cur g.toNat k.toNat - 1) n).2.2 = 0
  · rw [if_pos hc]
  rw [if_neg hc]
  have hg := hm.1
  have hk : 0 ≤ k ∧ k ≤ 3 := by have := hm.2; omega
  have hn : 1 ≤ n ∧ n ≤ 63 := by have := hm.2; omega
  have hcnt := ok.mem.count
  have hte : s.mem.take g k = ({ s.mem with count := s.mem.count + 1, free := s.mem.free - 1 }.upd s.mem.first (Seg.new g k (s.mem.count + 1)), (s.mem.first : Int), 0) := by
    unfold Mem.take
    rw [if_neg (by omega), if_neg (by omega)]
  obtain ⟨hf1, hf0⟩ := Mem.first_spec ok.mem (by omega : s.mem.free ≠ 0)
  rw [hte, if_pos rfl]
  refine Mem.bump_can ⟨by show (0 : Int) ≤ (s.mem.first : Int); omega, by show (s.mem.first : Int) < (s.mem.limit : Int); omega, ?_⟩ hn.1 ?_
  · show ((Mem.upd _ _ _).seg ((s.mem.first : Int)).toNat).taken ≠ 0
    rw [show ((s.mem.first : Int)).toNat = s.mem.first by omega, Mem.upd_same]; show s.mem.count + 1 ≠ 0; omega
  · show ((Mem.upd _ _ _).seg ((s.mem.first : Int)).toNat).n + n ≤ 64
    rw [show ((s.mem.first : Int)).toNat = s.mem.first by omega, Mem.upd_same]; show 0 + n ≤ 64; omega
theorem Sp.alloc_fail {s : Sp} (ok : SpOK s) {g k n : Int} (h : (s.alloc g k n).2.2 ≠ 0) : (s.alloc g k n).1 = s := by
  by_cases hm : may g k n
  case neg => unfold Sp.alloc; rw [if_pos hm]
  by_cases hf : s.mem.free = 0
  · have hg := hm.1
    have hk : 0 ≤ k ∧ k ≤ 3 := by have := hm.2; omega
    unfold Sp.alloc at *
    rw [if_neg (fun hh => hh hm)] at h ⊢
    by_cases hc : s.cur g.toNat k.toNat ≠ 0 ∧ (s.mem.bump (s.cur g.toNat k.toNat - 1) n).2.2 = 0
    · rw [if_pos hc] at h; exact absurd rfl h
    rw [if_neg hc] at h ⊢
    have hte : s.mem.take g k = (s.mem, 0, 2) := by unfold Mem.take; rw [if_neg (by omega), if_pos hf]
    rw [hte, if_neg (by decide : ¬ ((2 : Int) = 0))]
  · have : 0 ≤ s.mem.free := by rw [ok.mem.free]; omega
    exact absurd (Sp.alloc_can ok hm (by omega)) h

def Mem.sets (m : Mem) (a : Int) : List Int → Mem
  | [] => m
  | w :: ws => (if m.used a then m.set a w else m).sets (a + 1) ws
theorem Mem.sets_snoc : ∀ (ws : List Int) (m : Mem) (a w : Int), m.sets a (ws ++ [w]) = if (m.sets a ws).used (a + ws.length) then (m.sets a ws).set (a + ws.length) w else m.sets a ws
  | [], m, a, w => by simp [Mem.sets]
  | u :: ws, m, a, w => by
    simp only [List.cons_append, Mem.sets, List.length_cons]
    rw [Mem.sets_snoc ws, show a + 1 + (ws.length : Int) = a + ((ws.length + 1 : Nat) : Int) by omega]
    rfl
theorem MemOK.sets : ∀ (ws : List Int) {m : Mem} (ok : MemOK m) (a : Int), (∀ w ∈ ws, IsWord w) → MemOK (m.sets a ws)
  | [], m, ok, a, _ => ok
  | w :: ws, m, ok, a, h => by
    simp only [Mem.sets]
    refine MemOK.sets ws ?_ _ (fun u hu => h u (List.mem_cons_of_mem _ hu))
    split
    · exact ok.set a (h w List.mem_cons_self)
    · exact ok
structure Same' (m m' : Mem) : Prop where
  limit : m'.limit = m.limit
  seg : ∀ j, (m'.seg j).gen = (m.seg j).gen ∧ (m'.seg j).kind = (m.seg j).kind ∧ (m'.seg j).n = (m.seg j).n ∧ (m'.seg j).taken = (m.seg j).taken ∧ (m'.seg j).cards = (m.seg j).cards
  free : m'.free = m.free
  count : m'.count = m.count
theorem Same'.refl (m : Mem) : Same' m m := ⟨rfl, fun _ => ⟨rfl, rfl, rfl, rfl, rfl⟩, rfl, rfl⟩
theorem Same'.trans {a b c : Mem} (h : Same' a b) (k : Same' b c) : Same' a c :=
  ⟨k.limit.trans h.limit, fun j => ⟨(k.seg j).1.trans (h.seg j).1, (k.seg j).2.1.trans (h.seg j).2.1, (k.seg j).2.2.1.trans (h.seg j).2.2.1, (k.seg j).2.2.2.1.trans (h.seg j).2.2.2.1, (k.seg j).2.2.2.2.trans (h.seg j).2.2.2.2⟩, k.free.trans h.free, k.count.trans h.count⟩
theorem Same'.set (m : Mem) (a w : Int) : Same' m (m.set a w) := ⟨rfl, fun j => by
  unfold Mem.set; rw [Mem.upd_seg]
  by_cases h : j = (a / 64).toNat
  · rw [if_pos h, h]; exact ⟨rfl, rfl, rfl, rfl, rfl⟩
  · rw [if_neg h]; exact ⟨rfl, rfl, rfl, rfl, rfl⟩, rfl, rfl⟩
theorem Same'.sets : ∀ (ws : List Int) (m : Mem) (a : Int), Same' m (m.sets a ws)
  | [], m, a => Same'.refl m
  | w :: ws, m, a => by
    simp only [Mem.sets]
    refine Same'.trans ?_ (Same'.sets ws _ _)
    split
    · exact Same'.set m a w
    · exact Same'.refl m
theorem Same'.has {m m' : Mem} (h : Same' m m') {k : Int} : m'.has k ↔ m.has k := by
  unfold Mem.has; rw [h.limit, (h.seg _).2.2.2.1]
theorem Same'.used {m m' : Mem} (h : Same' m m') {a : Int} : m'.used a ↔ m.used a := by
  unfold Mem.used; rw [h.has, (h.seg _).2.2.1]
theorem Mem.set_get {m : Mem} {a w : Int} (x : Int) (hx : 0 ≤ x) (ha : 0 ≤ a) : (m.set a w).get x = if x = a then w else m.get x := by
  unfold Mem.get Mem.set
  rw [Mem.upd_seg]
  by_cases h1 : (x / 64).toNat = (a / 64).toNat
  · rw [if_pos h1]
    simp only [Seg.set]
    by_cases h2 : (x % 64).toNat = (a % 64).toNat
    · rw [if_pos h2, if_pos (by omega)]
    · rw [if_neg h2, if_neg (by intro e; subst e; exact h2 rfl), h1]
  · rw [if_neg h1, if_neg (by intro e; subst e; exact h1 rfl)]
theorem Mem.sets_get : ∀ (ws : List Int) {m : Mem} {a : Int} (x : Int), 0 ≤ x → 0 ≤ a → (∀ i : Nat, i < ws.length → m.used (a + i)) → (m.sets a ws).get x = if a ≤ x ∧ x < a + ws.length then ws.getD (x - a).toNat 0 else m.get x
  | [], m, a, x, hx, ha, hu => by simp only [Mem.sets]; rw [if_neg (by simp only [List.length_nil]; omega)]
  | w :: ws, m, a, x, hx, ha, hu => by
    have h0 : m.used a := by have := hu 0 (by simp); simpa using this
    simp only [Mem.sets]
    rw [if_pos h0, Mem.sets_get ws x hx (by omega) (fun i hi => (Same'.set m a w).used.2 (by have := hu (i + 1) (by simp; omega); rw [show a + 1 + (i : Int) = a + ((i + 1 : Nat) : Int) by omega]; exact this))]
    rw [Mem.set_get x hx ha]
    by_cases hxa : x = a
    · subst hxa
      rw [if_neg (by omega), if_pos rfl, if_pos ⟨by omega, by simp; omega⟩]
      simp
    · by_cases h1 : a + 1 ≤ x ∧ x < a + 1 + ws.length
      · rw [if_pos h1, if_pos ⟨by omega, by simp; omega⟩]
        have : (x - a).toNat = (x - (a + 1)).toNat + 1 := by omega
        rw [this]; simp
      · rw [if_neg h1, if_neg hxa, if_neg (by simp; omega)]

def atWord (tag addr : Int) : Int × Int := if ¬ (tag = 1 ∨ tag = 2 ∨ tag = 3 ∨ tag = 6) then (0, 1) else if 0 ≤ addr ∧ addr < 65536 then (addr * 8 + tag, 0) else (0, 18)
def Sp.put (s : Sp) (kind tag : Int) (ws : List Int) : Sp × Int × Int :=
  if (s.alloc 0 kind ws.length).2.2 = 0 then ({ (s.alloc 0 kind ws.length).1 with mem := (s.alloc 0 kind ws.length).1.mem.sets (s.alloc 0 kind ws.length).2.1 ws }, atWord tag (s.alloc 0 kind ws.length).2.1)
  else (s, 0, (s.alloc 0 kind ws.length).2.2)
def putO (o : Option (Blk × Hp)) (kind tag : Int) (ws : List Int) : Option (Blk × Hp) :=
  match o with
  | none => none
  | some (b, x) => some (b, { x with sp := (x.sp.put kind tag ws).1 })
def putR (o : Option (Blk × Hp)) (kind tag : Int) (ws : List Int) : Int × Int :=
  match o with
  | none => (0, 2)
  | some (_, x) => (x.sp.put kind tag ws).2
def cntOK (o : Option (Blk × Hp)) : Prop := (mof o).count < 4611686018427387904
theorem SpOK.sets {s : Sp} (ok : SpOK s) (a : Int) {ws : List Int} (hw : ∀ w ∈ ws, IsWord w) : SpOK { s with mem := s.mem.sets a ws } :=
  ok.withMem (MemOK.sets ws ok.mem a hw) (fun k h => (Same'.sets ws s.mem a).has.2 h) (fun k => ⟨((Same'.sets ws s.mem a).seg k).1, ((Same'.sets ws s.mem a).seg k).2.1⟩)

theorem obj_put_c {H : Array Obj} {hv lB : Option Addr} {lN lC : Nat} {o : Option (Blk × Hp)} {kind tag : Int} {ws : List Int} (V : View H hv o) (hsrc : SrcAt H lB (wvs ws)) (hlen : lN = ws.length) (hw : ∀ w ∈ ws, IsWord w)
    (hd : ∀ i, i ∈ blks lB → i ∉ own o) (hc : cntOK o) (ht : I64 tag) (hl : ws.length ≤ 1000) :
    obj_Heap_put.C hv kind tag lB lN lC H (fun v H' => v = .tuple #[.int .u64 (putR o kind tag ws).1, .int .i64 (putR o kind tag ws).2] ∧ View H' hv (putO o kind tag ws) ∧ Fr (own o) H H') := by
  subst hlen
  refine HC.via fun R hR => obj_Heap_put.link ?_
  unfold obj_Heap_put.pt
  refine HC.mono (obj_none_c V) ?_
  rintro _ H1 ⟨rfl, rfl⟩
  refine ⟨_, rfl, ?_⟩
  cases V with
  | nobody => rw [if_pos (show (none : Option (Blk × Hp)).isNone = true from rfl)]; exact hR _ _ ⟨rfl, .nobody, Fr.refl _ _⟩
  | empty h => rw [if_pos (show (none : Option (Blk × Hp)).isNone = true from rfl)]; exact hR _ _ ⟨rfl, .empty h, Fr.refl _ _⟩
  | @real b x h ok =>
    rw [if_neg (show ¬ (some (b, x)).isNone = true from Bool.false_ne_true)]
    refine ⟨_, rfl, _, h.hPtr, _, rfl, _, h.cd.cPtr, ?_⟩
    refine HC.mono (space_Alloc_c h.cd.sp ok hc) ?_
    rintro _ H2 ⟨rfl, hs2, f2⟩
    refine ⟨_, _, rfl, ?_⟩
    have h2 := h.withSp f2 (fun i hi => by simp at hi; omega) hs2
    have f2' : Fr (own (some (b, x))) H1 H2 := f2.mono (fun i hi _ => by simp at hi; simp [own]; omega)
    by_cases ha : (x.sp.alloc 0 kind ws.length).2.2 = 0
    case neg =>
      rw [if_neg ha]
      have e : x.sp.put kind tag ws = (x.sp, 0, (x.sp.alloc 0 kind ws.length).2.2) := by unfold Sp.put; rw [if_neg ha]
      have e1 : putR (some (b, x)) kind tag ws = (0, (x.sp.alloc 0 kind ws.length).2.2) := by show (x.sp.put kind tag ws).2 = _; rw [e]
      have e2 : putO (some (b, x)) kind tag ws = some (b, x) := by show some (b, { x with sp := (x.sp.put kind tag ws).1 }) = _; rw [e]
      rw [e1, e2] at hR
      rw [Sp.alloc_fail ok ha] at h2
      exact hR _ _ ⟨rfl, .real h2 ok, f2'⟩
    rw [if_pos ha]
    obtain ⟨ok2, gr⟩ := Sp.alloc_ok ok ha
    have e : x.sp.put kind tag ws = ({ (x.sp.alloc 0 kind ws.length).1 with mem := (x.sp.alloc 0 kind ws.length).1.mem.sets (x.sp.alloc 0 kind ws.length).2.1 ws }, atWord tag (x.sp.alloc 0 kind ws.length).2.1) := by unfold Sp.put; rw [if_pos ha]
    have e1 : putR (some (b, x)) kind tag ws = atWord tag (x.sp.alloc 0 kind ws.length).2.1 := by show (x.sp.put kind tag ws).2 = _; rw [e]
    have e2 : putO (some (b, x)) kind tag ws = some (b, { x with sp := { (x.sp.alloc 0 kind ws.length).1 with mem := (x.sp.alloc 0 kind ws.length).1.mem.sets (x.sp.alloc 0 kind ws.length).2.1 ws } }) := by show some (b, { x with sp := (x.sp.put kind tag ws).1 }) = _; rw [e]
    rw [e1, e2] at hR
    generalize hs' : (x.sp.alloc 0 kind ws.length).1 = s' at *
    generalize ha' : (x.sp.alloc 0 kind ws.length).2.1 = a at *
    have hlim := ok.mem.lim
    have a0 := gr.addr
    refine ⟨fun i H' => (0 ≤ i ∧ i ≤ ws.length) ∧ HpAt H' b { x with sp := { s' with mem := s'.mem.sets a (ws.take i.toNat) } } ∧ Fr (own (some (b, x))) H1 H', fun i _ => (ws.length - i).toNat, ⟨by omega, by simpa [Mem.sets] using h2, f2'⟩, ?_⟩
    rintro i H3 ⟨hi, h3, f3⟩
    by_cases hlt : i < (ws.length : Int)
    · rw [if_pos hlt]
      have hiN : i.toNat < ws.length := by omega
      have hsrc3 : SrcAt H3 lB (wvs ws) := by
        cases lB with
        | none => exact hsrc
        | some la => exact f3.rowAt (hd _ (by simp)) hsrc
      cases lB with
      | none =>
        exfalso
        have e : wvs ws = [] := hsrc
        have : ws.length = 0 := by simpa [wvs] using congrArg List.length e
        omega
      | some la =>
        refine ⟨la, rfl, ⟨hi.1, hlt⟩, ws[i.toNat], ?_, ?_⟩
        · have := rowAt_hat (show RowAt H3 la 0 (wvs ws) from hsrc3) i.toNat (.int .u64 (ws[i.toNat])) (by simp [wvs, hiN])
          rw [Nat.mul_one]; rw [Nat.zero_add] at this; exact this
        refine ⟨_, h3.hPtr, _, rfl, _, h3.cd.cPtr, _, rfl, _, h3.cd.sp.memPtr, ?_⟩
        have hok3 : MemOK (s'.mem.sets a (ws.take i.toNat)) := MemOK.sets _ ok2.mem a (fun w hw' => hw w (List.mem_of_mem_take hw'))
        rw [w64 (n := a + i) (by omega), w64 (n := i + 1) (by omega)]
        refine HC.mono (seg_Write_c h3.cd.sp.mem hok3 (by omega)) ?_
        rintro _ H4 ⟨rfl, hm4, f4⟩
        refine ⟨_, rfl, ⟨by omega, ?_, f3.trans (f4.mono (fun j hj _ => by simp at hj; simp [own]; omega))⟩, by show ((ws.length : Int) - (i + 1)).toNat < ((ws.length : Int) - i).toNat; omega⟩
        have h4 := h3.withMem f4 (fun j hj => by simp at hj; omega) hm4
        have et : ws.take (i + 1).toNat = ws.take i.toNat ++ [ws[i.toNat]] := by
          rw [show (i + 1).toNat = i.toNat + 1 by omega, List.take_succ_eq_append_getElem hiN]
        have el : ((ws.take i.toNat).length : Int) = i := by rw [List.length_take]; omega
        rw [et, Mem.sets_snoc, el]
        exact h4
    · rw [if_neg hlt]
      have hie : i.toNat = ws.length := by omega
      rw [hie, List.take_length] at h3
      refine HC.mono (word_At_c ht (by omega)) ?_
      rintro _ H5 ⟨rfl, e5⟩
      have ev : (if ¬ (tag = 1 ∨ tag = 2 ∨ tag = 3 ∨ tag = 6) then Value.tuple #[.int .u64 0, .int .i64 1] else if 0 ≤ a ∧ a < 65536 then .tuple #[.int .u64 (a * 8 + tag), .int .i64 0] else .tuple #[.int .u64 0, .int .i64 18]) = .tuple #[.int .u64 (atWord tag a).1, .int .i64 (atWord tag a).2] := by
        by_cases h1 : tag = 1 ∨ tag = 2 ∨ tag = 3 ∨ tag = 6
        · by_cases h2 : 0 ≤ a ∧ a < 65536
          · have ea : atWord tag a = (a * 8 + tag, 0) := by unfold atWord; rw [if_neg (fun hh => hh h1), if_pos h2]
            rw [ea, if_neg (fun hh => hh h1), if_pos h2]
          · have ea : atWord tag a = (0, 18) := by unfold atWord; rw [if_neg (fun hh => hh h1), if_neg h2]
            rw [ea, if_neg (fun hh => hh h1), if_neg h2]
        · have ea : atWord tag a = (0, 1) := by unfold atWord; rw [if_pos h1]
          rw [ea, if_pos h1]
      rw [ev]
      exact ⟨_, _, rfl, hR _ _ ⟨rfl, .real (h3.ext e5) (ok2.sets a hw), f3.trans e5.fr⟩⟩

def Sp.make (s : Sp) (kind more : Int) (ws : List Int) : Sp × Int × Int :=
  if ¬ ((1 ≤ kind ∧ kind ≤ 13) ∧ more < 281474976710656) then (s, 0, 1)
  else if 62 < ws.length then (s, 0, 6)
  else s.put (rawK kind) 3 ((more * 65536 + ws.length * 256 + kind * 8 + 5) :: ws)
def makeO (o : Option (Blk × Hp)) (kind more : Int) (ws : List Int) : Option (Blk × Hp) :=
  if ¬ ((1 ≤ kind ∧ kind ≤ 13) ∧ more < 281474976710656) then o
  else if 62 < ws.length then o
  else putO o (rawK kind) 3 ((more * 65536 + ws.length * 256 + kind * 8 + 5) :: ws)
def makeR (o : Option (Blk × Hp)) (kind more : Int) (ws : List Int) : Int × Int :=
  if ¬ ((1 ≤ kind ∧ kind ≤ 13) ∧ more < 281474976710656) then (0, 1)
  else if 62 < ws.length then (0, 6)
  else putR o (rawK kind) 3 ((more * 65536 + ws.length * 256 + kind * 8 + 5) :: ws)
theorem View.own_lt {H : Array Obj} {hv : Option Addr} {o : Option (Blk × Hp)} (V : View H hv o) : ∀ i, i ∈ own o → i < H.size := by
  cases V with
  | nobody => intro i hi; simp [own] at hi
  | empty h => intro i hi; simp [own] at hi
  | real h ok => intro i hi; exact h.lt i (by simp [own] at hi; simp [Blk.all]; omega)
theorem obj_Make_c {H : Array Obj} {hv lB : Option Addr} {lN lC : Nat} {o : Option (Blk × Hp)} {kind more : Int} {ws : List Int} (V : View H hv o) (hsrc : SrcAt H lB (wvs ws)) (hlen : lN = ws.length) (hw : ∀ w ∈ ws, IsWord w)
    (hk : I64 kind) (hmo : IsWord more) (hc : cntOK o) (hl : ws.length ≤ 1000000) :
    obj_Heap_Make.C hv kind more lB lN lC H (fun v H' => v = .tuple #[.int .u64 (makeR o kind more ws).1, .int .i64 (makeR o kind more ws).2] ∧ View H' hv (makeO o kind more ws) ∧ Fr (own o) H H') := by
  subst hlen
  refine HC.via fun R hR => obj_Heap_Make.link ?_
  unfold obj_Heap_Make.pt
  refine HC.mono (word_Header_c hk (by decide) hmo) ?_
  rintro _ H1 ⟨rfl, e1⟩
  rw [ite_tup2]
  refine ⟨_, _, rfl, ?_⟩
  by_cases h1 : (1 ≤ kind ∧ kind ≤ 13) ∧ more < 281474976710656
  case neg =>
    have h1' : ¬ ((1 ≤ kind ∧ kind ≤ 13) ∧ ((0 : Int) ≤ 0 ∧ (0 : Int) ≤ 62) ∧ more < 281474976710656) := fun h => h1 ⟨h.1, h.2.2⟩
    rw [if_neg h1', if_neg (by decide)]
    have e : makeR o kind more ws = (0, 1) := by unfold makeR; rw [if_pos h1]
    have e2 : makeO o kind more ws = o := by unfold makeO; rw [if_pos h1]
    rw [e, e2] at hR
    exact hR _ _ ⟨rfl, V.ext e1, e1.fr⟩
  have h1' : (1 ≤ kind ∧ kind ≤ 13) ∧ ((0 : Int) ≤ 0 ∧ (0 : Int) ≤ 62) ∧ more < 281474976710656 := ⟨h1.1, by decide, h1.2⟩
  rw [if_pos h1', if_pos rfl]
  by_cases h2 : 62 < ws.length
  · rw [if_pos (by omega)]
    have e : makeR o kind more ws = (0, 6) := by unfold makeR; rw [if_neg (fun hh => hh h1), if_pos h2]
    have e2 : makeO o kind more ws = o := by unfold makeO; rw [if_neg (fun hh => hh h1), if_pos h2]
    rw [e, e2] at hR
    exact hR _ _ ⟨rfl, V.ext e1, e1.fr⟩
  rw [if_neg (by omega)]
  refine HC.mono (word_Header_c hk (by omega) hmo) ?_
  rintro _ H2 ⟨rfl, e2⟩
  rw [ite_tup2]
  refine ⟨_, _, rfl, ?_⟩
  have h2' : (1 ≤ kind ∧ kind ≤ 13) ∧ ((0 : Int) ≤ (ws.length : Int) ∧ (ws.length : Int) ≤ 62) ∧ more < 281474976710656 := ⟨h1.1, by omega, h1.2⟩
  rw [if_pos h2']
  refine HC.mono obj_raw_c ?_
  rintro _ H3 ⟨rfl, rfl⟩
  refine ⟨_, rfl, ?_⟩
  intro b4 H4 hb4 hH4
  have e12 := e1.trans e2
  have e14 := e12.trans (Ext.push' hH4)
  have g4 := push_get hb4 hH4
  have hm0 := hmo.1
  have hsrc4 : SrcAt H4 lB (wvs ws) := by
    cases lB with
    | none => exact hsrc
    | some la => exact e14.rowAt hsrc
  refine own_append (ys := wvs ws) (xs := [.int .u64 (more * 65536 + ws.length * 256 + kind * 8 + 5)]) ⟨rfl, _, g4, rfl, Nat.le_refl _, rfl, fun j hj => ?_⟩ hsrc4 (by simp [wvs]) (allOne_wvs ws) rfl (by omega) ?_
  · have : j = 0 := by omega
    subst this; rfl
  intro p5 c5 H5 o5 f5 hb5
  have f5' : Ext H H5 := e14.fr_trans f5 (fun i hi => by simp at hi; have := e12.size; omega)
  have V5 := V.ext f5'
  refine HC.mono (obj_put_c (ws := (more * 65536 + ws.length * 256 + kind * 8 + 5) :: ws) V5 o5.src (by simp; omega) (fun w hw' => ?_) (fun i hi hio => ?_) hc (by decide) (by simp; omega)) ?_
  · rcases List.mem_cons.1 hw' with rfl | hw'
    · exact ⟨by omega, by omega⟩
    · exact hw w hw'
  · have h6 := V.own_lt i hio
    have h7 := e14.size
    have h8 := e12.size
    rcases hb5 i hi with h9 | h9
    · simp at h9; omega
    · omega
  rintro _ H6 ⟨rfl, V6, f6⟩
  refine ⟨_, _, rfl, ?_⟩
  have e : makeR o kind more ws = putR o (rawK kind) 3 ((more * 65536 + ws.length * 256 + kind * 8 + 5) :: ws) := by unfold makeR; rw [if_neg (fun hh => hh h1), if_neg h2]
  have e2 : makeO o kind more ws = putO o (rawK kind) 3 ((more * 65536 + ws.length * 256 + kind * 8 + 5) :: ws) := by unfold makeO; rw [if_neg (fun hh => hh h1), if_neg h2]
  rw [e, e2] at hR
  exact hR _ _ ⟨rfl, V6, f5'.fr.trans f6⟩
end Go.Proofs.YthlohokmnajpoaaGreatDoor
