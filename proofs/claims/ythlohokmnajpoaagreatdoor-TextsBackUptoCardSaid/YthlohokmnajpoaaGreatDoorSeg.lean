/-
  A memory of segments, said of abstract segments: how it stands on the heap, and the contracts of package seg. Proves nothing of any one statement.
-/
import Derived.Test.YthlohokmnajpoaaGreatDoorOwn
import Derived.Test.YthlohokmnajpoaaGreatDoorFseg
set_option linter.unusedVariables false
set_option linter.unusedSimpArgs false
namespace Go.Proofs.YthlohokmnajpoaaGreatDoor
open Go

abbrev I64 (x : Int) : Prop := -9223372036854775808 ≤ x ∧ x ≤ 9223372036854775807

structure Seg where
  gen : Int
  kind : Int
  n : Int
  cards : Nat → Int
  taken : Int
  words : Nat → Int
def Seg.cell (s : Seg) : Nat → Value
  | 0 => .int .i64 s.gen
  | 1 => .int .i64 s.kind
  | 2 => .int .i64 s.n
  | 3 => .int .i64 (s.cards 0)
  | 4 => .int .i64 (s.cards 1)
  | 5 => .int .i64 (s.cards 2)
  | 6 => .int .i64 (s.cards 3)
  | 7 => .int .i64 s.taken
  | j + 8 => .int .u64 (s.words j)
def Seg.none : Seg := ⟨0, 0, 0, fun _ => 0, 0, fun _ => 0⟩
def Seg.new (gen kind taken : Int) : Seg := ⟨gen, kind, 0, fun _ => 5, taken, fun _ => 0⟩
structure SegOK (s : Seg) : Prop where
  gen : 0 ≤ s.gen ∧ s.gen ≤ 4
  kind : 0 ≤ s.kind ∧ s.kind ≤ 3
  n : 0 ≤ s.n ∧ s.n ≤ 64
  cards : ∀ c, 0 ≤ s.cards c ∧ s.cards c ≤ 5
  taken : 0 ≤ s.taken
  words : ∀ j, IsWord (s.words j)

structure Mem where
  limit : Nat
  seg : Nat → Seg
  count : Int
  free : Int
def Mem.upd (m : Mem) (k : Nat) (s : Seg) : Mem := { m with seg := fun i => if i = k then s else m.seg i }
@[simp] theorem Mem.upd_limit (m : Mem) (k : Nat) (s : Seg) : (m.upd k s).limit = m.limit := rfl
@[simp] theorem Mem.upd_count (m : Mem) (k : Nat) (s : Seg) : (m.upd k s).count = m.count := rfl
@[simp] theorem Mem.upd_free (m : Mem) (k : Nat) (s : Seg) : (m.upd k s).free = m.free := rfl
theorem Mem.upd_same (m : Mem) (k : Nat) (s : Seg) : (m.upd k s).seg k = s := by simp [Mem.upd]
theorem Mem.upd_other (m : Mem) {i k : Nat} (s : Seg) (h : i ≠ k) : (m.upd k s).seg i = m.seg i := by simp [Mem.upd, h]
theorem Mem.upd_seg (m : Mem) (i k : Nat) (s : Seg) : (m.upd k s).seg i = if i = k then s else m.seg i := rfl

def Mem.nfree (m : Mem) : Nat := (List.range m.limit).countP (fun k => (m.seg k).taken == 0)
structure MemOK (m : Mem) : Prop where
  lim : 8 ≤ m.limit ∧ m.limit ≤ 1024
  seg : ∀ k, SegOK (m.seg k)
  free : m.free = m.nfree
  count : 0 ≤ m.count

theorem countP_one : ∀ (n k : Nat) (p q : Nat → Bool), k < n → (∀ i, i ≠ k → p i = q i) → p k = true → q k = false → (List.range n).countP p = (List.range n).countP q + 1
  | 0, k, p, q, hk, _, _, _ => by omega
  | n + 1, k, p, q, hk, hpq, h1, h2 => by
    rw [List.range_succ, List.countP_append, List.countP_append]
    by_cases hkn : k = n
    · subst hkn
      have e : (List.range k).countP p = (List.range k).countP q := by
        refine List.countP_congr fun i hi => ?_
        have : i < k := List.mem_range.1 hi
        rw [hpq i (by omega)]
      rw [e]
      simp [h1, h2]
    · rw [countP_one n k p q (by omega) hpq h1 h2]
      simp [List.countP_cons, hpq n (fun h => hkn h.symm)]
      omega

theorem Mem.nfree_pos {m : Mem} (h : m.nfree ≠ 0) : ∃ k, k < m.limit ∧ (m.seg k).taken = 0 := by
  have : 0 < (List.range m.limit).countP (fun k => (m.seg k).taken == 0) := Nat.pos_of_ne_zero h
  obtain ⟨k, hk, hp⟩ := List.countP_pos_iff.1 this
  exact ⟨k, List.mem_range.1 hk, by simpa using hp⟩
theorem Mem.nfree_same {m : Mem} {k : Nat} {s : Seg} (h : s.taken = (m.seg k).taken) : (m.upd k s).nfree = m.nfree := by
  unfold Mem.nfree
  refine List.countP_congr fun i _ => ?_
  rw [Mem.upd_seg]
  by_cases hi : i = k
  · rw [if_pos hi, h, hi]
  · rw [if_neg hi]
theorem Mem.nfree_take {m : Mem} {k : Nat} {s : Seg} (hk : k < m.limit) (h0 : (m.seg k).taken = 0) (h1 : s.taken ≠ 0) : m.nfree = (m.upd k s).nfree + 1 := by
  refine countP_one _ k _ _ hk (fun i hi => by rw [Mem.upd_other _ _ hi]) (by simp [h0]) ?_
  show (((m.upd k s).seg k).taken == 0) = false
  rw [Mem.upd_same]; simpa using h1
theorem MemOK.upd {m : Mem} (h : MemOK m) {k : Nat} {s : Seg} (hs : SegOK s) (ht : s.taken = (m.seg k).taken) : MemOK (m.upd k s) :=
  ⟨h.lim, fun i => by rw [Mem.upd_seg]; by_cases hi : i = k; · rw [if_pos hi]; exact hs
                      · rw [if_neg hi]; exact h.seg i, by rw [Mem.nfree_same ht]; exact h.free, h.count⟩

structure MemAt (H : Array Obj) (bm bs : Nat) (m : Mem) : Prop where
  mem : H[bm]? = some (.cells #[.slice (some ⟨bs, 0, none⟩) m.limit m.limit, .int .i64 m.count, .int .i64 m.free] 110 (0, 0))
  ne : bm ≠ bs
  segs : ∃ cs : Array Value, H[bs]? = some (.cells cs 178 (0, 0)) ∧ cs.size = m.limit * 72 ∧ ∀ k, k < m.limit → ∀ j, j < 72 → cs[k * 72 + j]? = some ((m.seg k).cell j)
theorem MemAt.keep {S : List Nat} {H H' : Array Obj} {bm bs : Nat} {m : Mem} (h : MemAt H bm bs m) (f : Fr S H H') (h1 : bm ∉ S) (h2 : bs ∉ S) : MemAt H' bm bs m := by
  obtain ⟨cs, hb, hr⟩ := h.segs
  exact ⟨f.get h1 h.mem, h.ne, cs, f.get h2 hb, hr⟩
theorem MemAt.ext {H H' : Array Obj} {bm bs : Nat} {m : Mem} (h : MemAt H bm bs m) (f : Ext H H') : MemAt H' bm bs m := h.keep (S := []) f.fr (by simp) (by simp)
theorem MemAt.lt {H : Array Obj} {bm bs : Nat} {m : Mem} (h : MemAt H bm bs m) : bm < H.size ∧ bs < H.size := by
  obtain ⟨cs, hb, _⟩ := h.segs
  exact ⟨lt_size h.mem, lt_size hb⟩
theorem MemAt.at {H : Array Obj} {bm bs : Nat} {m : Mem} (h : MemAt H bm bs m) {k j : Nat} (hk : k < m.limit) (hj : j < 72) : hat H ⟨bs, k * 72 + j, none⟩ = some ((m.seg k).cell j) := by
  obtain ⟨cs, hb, _, hr⟩ := h.segs
  rw [hat_blk hb, hr k hk j hj]
theorem MemAt.segsAt {H : Array Obj} {bm bs : Nat} {m : Mem} (h : MemAt H bm bs m) : hat H ⟨bm, 0, none⟩ = some (.slice (some ⟨bs, 0, none⟩) m.limit m.limit) := by rw [hat_blk h.mem]; rfl
theorem MemAt.countAt {H : Array Obj} {bm bs : Nat} {m : Mem} (h : MemAt H bm bs m) : hat H ⟨bm, 1, none⟩ = some (.int .i64 m.count) := by rw [hat_blk h.mem]; rfl
theorem MemAt.freeAt {H : Array Obj} {bm bs : Nat} {m : Mem} (h : MemAt H bm bs m) : hat H ⟨bm, 2, none⟩ = some (.int .i64 m.free) := by rw [hat_blk h.mem]; rfl
theorem MemAt.canPuts {H : Array Obj} {bm bs : Nat} {m : Mem} (h : MemAt H bm bs m) {k o n : Nat} (hk : k < m.limit) (hn : o + n ≤ 72) : CanPuts H ⟨bs, k * 72 + o, none⟩ 0 n := by
  obtain ⟨cs, hb, hs, _⟩ := h.segs
  refine canPuts_blk hb _ _ _ ?_
  have : (k + 1) * 72 ≤ m.limit * 72 := Nat.mul_le_mul_right _ hk
  omega
theorem MemAt.puts {H : Array Obj} {bm bs : Nat} {m : Mem} (h : MemAt H bm bs m) {k o : Nat} {vs : List Value} {s : Seg} (hk : k < m.limit) (hn : o + vs.length ≤ 72)
    (h1 : ∀ j, j < vs.length → vs[j]? = some (s.cell (o + j))) (h2 : ∀ j, j < 72 → (j < o ∨ o + vs.length ≤ j) → s.cell j = (m.seg k).cell j) :
    MemAt (hputs H ⟨bs, k * 72 + o, none⟩ vs 0) bm bs (m.upd k s) ∧ Fr [bs] H (hputs H ⟨bs, k * 72 + o, none⟩ vs 0) := by
  obtain ⟨cs, hb, hs, hr⟩ := h.segs
  have hk1 : (k + 1) * 72 ≤ m.limit * 72 := Nat.mul_le_mul_right _ hk
  rw [hputs_blk vs H cs (k * 72 + o) 0 hb, Nat.add_zero]
  refine ⟨⟨by rw [setBlk_other (fun e => h.ne e.symm)]; exact h.mem, h.ne, _, setBlk_get (lt_size hb), by rw [splice_size]; exact hs, fun i hi j hj => ?_⟩, Fr.set⟩
  rw [Mem.upd_seg]
  have hi : i < m.limit := hi
  by_cases hik : i = k
  · subst hik
    rw [if_pos rfl]
    by_cases hj1 : j < o
    · rw [splice_get_lt _ _ _ _ (by omega), hr i hi j hj, h2 j hj (.inl hj1)]
    by_cases hj2 : o + vs.length ≤ j
    · rw [splice_get_ge _ _ _ _ (by omega), hr i hi j hj, h2 j hj (.inr hj2)]
    · rw [show i * 72 + j = i * 72 + o + (j - o) by omega, splice_get_in _ _ _ _ (by omega) (by omega), h1 (j - o) (by omega), show o + (j - o) = j by omega]
  · rw [if_neg hik, ← hr i hi j hj]
    rcases Nat.lt_or_gt_of_ne hik with hlt | hgt
    · have : (i + 1) * 72 ≤ k * 72 := Nat.mul_le_mul_right _ hlt
      exact splice_get_lt _ _ _ _ (by omega)
    · have : (k + 1) * 72 ≤ i * 72 := Nat.mul_le_mul_right _ hgt
      exact splice_get_ge _ _ _ _ (by omega)
theorem MemAt.put {H : Array Obj} {bm bs : Nat} {m : Mem} (h : MemAt H bm bs m) {k o : Nat} {v : Value} {s : Seg} (hk : k < m.limit) (hn : o < 72)
    (h1 : s.cell o = v) (h2 : ∀ j, j < 72 → j ≠ o → s.cell j = (m.seg k).cell j) :
    MemAt (hputs H ⟨bs, k * 72 + o, none⟩ [v] 0) bm bs (m.upd k s) ∧ Fr [bs] H (hputs H ⟨bs, k * 72 + o, none⟩ [v] 0) := by
  refine h.puts hk (by simp; omega) (fun j hj => ?_) (fun j hj ho => h2 j hj (by simp at ho; omega))
  simp only [List.length_singleton] at hj
  obtain rfl : j = 0 := by omega
  rw [Nat.add_zero, h1]; rfl

def Mem.has (m : Mem) (k : Int) : Prop := 0 ≤ k ∧ k < m.limit ∧ (m.seg k.toNat).taken ≠ 0
instance (m : Mem) (k : Int) : Decidable (m.has k) := by unfold Mem.has; infer_instance

theorem seg_at_c {H : Array Obj} {bm bs : Nat} {m : Mem} {k : Int} (h : MemAt H bm bs m) :
    seg_Mem_at.C (some ⟨bm, 0, none⟩) k H (fun v H' => v = .pointer (if m.has k then some ⟨bs, k.toNat * 72, none⟩ else none) ∧ H' = H) := by
  refine HC.via fun R hR => seg_Mem_at.link ?_
  unfold seg_Mem_at.pt
  rw [onPtr_some]
  by_cases h0 : k < 0
  · rw [if_pos h0]; exact hR _ _ ⟨by rw [if_neg (fun hh => by have := hh.1; omega)], rfl⟩
  rw [if_neg h0]
  refine ⟨_, _, _, h.segsAt, ?_⟩
  by_cases h1 : k ≥ (m.limit : Int)
  · rw [if_pos h1]; exact hR _ _ ⟨by rw [if_neg (fun hh => by have := hh.2.1; omega)], rfl⟩
  rw [if_neg h1]
  have hk : k.toNat < m.limit := by omega
  refine ⟨_, _, _, h.segsAt, _, rfl, ⟨by omega, by omega⟩, (m.seg k.toNat).taken, ?_, ?_⟩
  · simp only [addr_add_mk, Nat.zero_add]; exact h.at hk (by omega)
  by_cases ht : (m.seg k.toNat).taken = 0
  · rw [if_pos ht]; exact hR _ _ ⟨by rw [if_neg (fun hh => hh.2.2 ht)], rfl⟩
  · rw [if_neg ht]
    refine ⟨_, _, _, h.segsAt, _, rfl, ⟨by omega, by omega⟩, hR _ _ ⟨?_, rfl⟩⟩
    rw [if_pos ⟨by omega, by omega, ht⟩, addr_add_mk, Nat.zero_add]

def Seg.head (s : Seg) : Value := .agg #[.int .i64 s.gen, .int .i64 s.kind, .int .i64 s.n, .int .i64 (s.cards 0), .int .i64 (s.cards 1), .int .i64 (s.cards 2), .int .i64 (s.cards 3)]
theorem seg_Seg_c {H : Array Obj} {bm bs : Nat} {m : Mem} {k : Int} (h : MemAt H bm bs m) :
    seg_Mem_Seg.C (some ⟨bm, 0, none⟩) k H (fun v H' => v = .tuple #[(if m.has k then m.seg k.toNat else Seg.none).head, .bool (decide (m.has k))] ∧ Ext H H') := by
  refine HC.via fun R hR => seg_Mem_Seg.link ?_
  unfold seg_Mem_Seg.pt
  intro b H1 hb hH1
  have e1 : Ext H H1 := Ext.push' hH1
  have g1 := push_get hb hH1
  refine HC.mono (seg_at_c (h.ext e1)) ?_
  rintro _ H2 ⟨rfl, rfl⟩
  refine ⟨_, rfl, ?_⟩
  by_cases hk : m.has k
  · rw [if_pos hk, onPtr_some]
    have hkl : k.toNat < m.limit := by have := hk.1; have := hk.2.1; omega
    have hrow : RowAt H2 ⟨bs, k.toNat * 72, none⟩ 0 [.int .i64 (m.seg k.toNat).gen, .int .i64 (m.seg k.toNat).kind, .int .i64 (m.seg k.toNat).n, .int .i64 ((m.seg k.toNat).cards 0), .int .i64 ((m.seg k.toNat).cards 1), .int .i64 ((m.seg k.toNat).cards 2), .int .i64 ((m.seg k.toNat).cards 3)] := by
      have a := fun j (hj : j < 72) => (h.ext e1).at (j := j) hkl hj
      simp only [RowAt, addr_add_mk]
      exact ⟨a 0 (by omega), a 1 (by omega), a 2 (by omega), a 3 (by omega), a 4 (by omega), a 5 (by omega), a 6 (by omega), trivial⟩
    refine ⟨_, _, _, _, _, _, _, hrow, ?_⟩
    obtain ⟨hc, hs⟩ := boxed (vs := [.int .i64 (m.seg k.toNat).gen, .int .i64 (m.seg k.toNat).kind, .int .i64 (m.seg k.toNat).n, .int .i64 ((m.seg k.toNat).cards 0), .int .i64 ((m.seg k.toNat).cards 1), .int .i64 ((m.seg k.toNat).cards 2), .int .i64 ((m.seg k.toNat).cards 3)]) (H1 := H2) g1 rfl rfl
    refine ⟨hc, fun H3 hH3 => ?_⟩
    obtain ⟨hr, hE⟩ := hs H3 hH3
    refine ⟨_, _, _, _, _, _, _, hr, hR _ _ ⟨?_, hE H e1 (by omega)⟩⟩
    rw [if_pos hk, decide_eq_true hk]; rfl
  · rw [if_neg hk, onPtr_none]
    obtain ⟨hc, hs⟩ := boxed (vs := [.int .i64 0, .int .i64 0, .int .i64 0, .int .i64 0, .int .i64 0, .int .i64 0, .int .i64 0]) (H1 := H2) g1 rfl rfl
    refine ⟨hc, fun H3 hH3 => ?_⟩
    obtain ⟨hr, hE⟩ := hs H3 hH3
    refine ⟨_, _, _, _, _, _, _, hr, hR _ _ ⟨?_, hE H e1 (by omega)⟩⟩
    rw [if_neg hk, decide_eq_false hk]; rfl

def Mem.used (m : Mem) (a : Int) : Prop := 0 ≤ a ∧ m.has (a / 64) ∧ a % 64 < (m.seg (a / 64).toNat).n
instance (m : Mem) (a : Int) : Decidable (m.used a) := by unfold Mem.used; infer_instance
def Mem.get (m : Mem) (a : Int) : Int := (m.seg (a / 64).toNat).words (a % 64).toNat
def Seg.set (s : Seg) (i : Nat) (w : Int) : Seg := { s with words := fun j => if j = i then w else s.words j }
def Mem.set (m : Mem) (a w : Int) : Mem := m.upd (a / 64).toNat ((m.seg (a / 64).toNat).set (a % 64).toNat w)

theorem seg_word_c {H : Array Obj} {bm bs : Nat} {m : Mem} {a : Int} (h : MemAt H bm bs m) (ok : MemOK m) (ha : a ≤ 9223372036854775807) :
    seg_Mem_word.C (some ⟨bm, 0, none⟩) a H (fun v H' => v = .pointer (if m.used a then some ⟨bs, (a / 64).toNat * 72 + (8 + (a % 64).toNat), none⟩ else none) ∧ H' = H) := by
  refine HC.via fun R hR => seg_Mem_word.link ?_
  unfold seg_Mem_word.pt
  by_cases h0 : a < 0
  · rw [if_pos h0]; exact hR _ _ ⟨by rw [if_neg (fun hh => by have := hh.1; omega)], rfl⟩
  rw [if_neg h0, tdiv_pos (by omega), w64 (n := a / 64) (by omega), tmod_pos (by omega)]
  refine HC.mono (seg_at_c h) ?_
  rintro _ H1 ⟨rfl, rfl⟩
  refine ⟨_, rfl, ?_⟩
  by_cases hk : m.has (a / 64)
  · rw [if_pos hk, onPtr_some]
    have hkl : (a / 64).toNat < m.limit := by have := hk.1; have := hk.2.1; omega
    refine ⟨(m.seg (a / 64).toNat).n, by rw [addr_add_mk]; exact h.at hkl (by omega), ?_⟩
    by_cases hn : a % 64 ≥ (m.seg (a / 64).toNat).n
    · rw [if_pos hn]; exact hR _ _ ⟨by rw [if_neg (fun hh => by have := hh.2.2; omega)], rfl⟩
    · rw [if_neg hn]
      refine ⟨⟨by omega, by omega⟩, hR _ _ ⟨?_, rfl⟩⟩
      rw [if_pos ⟨by omega, hk, by omega⟩]
      simp only [addr_add_mk, Nat.mul_one]
      rw [Nat.add_assoc]
  · rw [if_neg hk, onPtr_none]; exact hR _ _ ⟨by rw [if_neg (fun hh => hk hh.2.1)], rfl⟩

theorem seg_Read_c {H : Array Obj} {bm bs : Nat} {m : Mem} {a : Int} (h : MemAt H bm bs m) (ok : MemOK m) (ha : a ≤ 9223372036854775807) :
    seg_Mem_Read.C (some ⟨bm, 0, none⟩) a H (fun v H' => v = (if m.used a then .tuple #[.int .u64 (m.get a), .int .i64 0] else .tuple #[.int .u64 0, .int .i64 18]) ∧ H' = H) := by
  refine HC.via fun R hR => seg_Mem_Read.link ?_
  unfold seg_Mem_Read.pt
  refine HC.mono (seg_word_c h ok ha) ?_
  rintro _ H1 ⟨rfl, rfl⟩
  refine ⟨_, rfl, ?_⟩
  by_cases hu : m.used a
  · rw [if_pos hu, onPtr_some]
    have hkl : (a / 64).toNat < m.limit := by have := hu.2.1.1; have := hu.2.1.2.1; omega
    refine ⟨m.get a, ?_, hR _ _ ⟨by rw [if_pos hu], rfl⟩⟩
    rw [h.at hkl (by omega), show 8 + (a % 64).toNat = (a % 64).toNat + 8 by omega]; rfl
  · rw [if_neg hu, onPtr_none]; exact hR _ _ ⟨by rw [if_neg hu], rfl⟩

theorem Seg.set_cell (s : Seg) (i : Nat) (w : Int) : (s.set i w).cell (8 + i) = .int .u64 w := by
  rw [show 8 + i = i + 8 by omega]; simp [Seg.cell, Seg.set]
theorem Seg.set_cell_other (s : Seg) (i : Nat) (w : Int) : ∀ j, j ≠ 8 + i → (s.set i w).cell j = s.cell j
  | 0, _ | 1, _ | 2, _ | 3, _ | 4, _ | 5, _ | 6, _ | 7, _ => rfl
  | j + 8, h => by simp [Seg.cell, Seg.set]; intro e; omega
theorem seg_Write_c {H : Array Obj} {bm bs : Nat} {m : Mem} {a w : Int} (h : MemAt H bm bs m) (ok : MemOK m) (ha : a ≤ 9223372036854775807) :
    seg_Mem_Write.C (some ⟨bm, 0, none⟩) a w H (fun v H' => v = .int .i64 (if m.used a then 0 else 18) ∧ MemAt H' bm bs (if m.used a then m.set a w else m) ∧ Fr [bs] H H') := by
  refine HC.via fun R hR => seg_Mem_Write.link ?_
  unfold seg_Mem_Write.pt
  refine HC.mono (seg_word_c h ok ha) ?_
  rintro _ H1 ⟨rfl, rfl⟩
  refine ⟨_, rfl, ?_⟩
  by_cases hu : m.used a
  · rw [if_pos hu, onPtr_some]
    have hkl : (a / 64).toNat < m.limit := by have := hu.2.1.1; have := hu.2.1.2.1; omega
    refine ⟨h.canPuts hkl (by omega), fun H2 hH2 => ?_⟩
    subst hH2
    obtain ⟨h1, h2⟩ := h.put (v := .int .u64 w) (s := (m.seg (a / 64).toNat).set (a % 64).toNat w) hkl (o := 8 + (a % 64).toNat) (by omega) (Seg.set_cell _ _ _) (fun j _ hj => Seg.set_cell_other _ _ _ j hj)
    exact hR _ _ ⟨by rw [if_pos hu], by rw [if_pos hu]; exact h1, h2⟩
  · rw [if_neg hu, onPtr_none]; exact hR _ _ ⟨by rw [if_neg hu], by rw [if_neg hu]; exact h, Fr.refl _ _⟩

def Seg.bump (s : Seg) (d : Int) : Seg := { s with n := s.n + d }
def Mem.bump (m : Mem) (k d : Int) : Mem × Int × Int :=
  if ¬ m.has k then (m, 0, 19)
  else if d < 1 then (m, 0, 1)
  else if 64 - (m.seg k.toNat).n < d then (m, 0, 2)
  else (m.upd k.toNat ((m.seg k.toNat).bump d), k * 64 + (m.seg k.toNat).n, 0)
theorem seg_Bump_c {H : Array Obj} {bm bs : Nat} {m : Mem} {k d : Int} (h : MemAt H bm bs m) (ok : MemOK m) :
    seg_Mem_Bump.C (some ⟨bm, 0, none⟩) k d H (fun v H' => v = .tuple #[.int .i64 (m.bump k d).2.1, .int .i64 (m.bump k d).2.2] ∧ MemAt H' bm bs (m.bump k d).1 ∧ Fr [bs] H H') := by
  refine HC.via fun R hR => seg_Mem_Bump.link ?_
  unfold seg_Mem_Bump.pt
  refine HC.mono (seg_at_c h) ?_
  rintro _ H1 ⟨rfl, rfl⟩
  refine ⟨_, rfl, ?_⟩
  by_cases hk : m.has k
  · rw [if_pos hk, onPtr_some]
    have hkl : k.toNat < m.limit := by have := hk.1; have := hk.2.1; omega
    have hlim := ok.lim
    have hsn := (ok.seg k.toNat).n
    have k0 := hk.1
    by_cases hd : d < 1
    · rw [if_pos hd]
      have e : m.bump k d = (m, 0, 1) := by unfold Mem.bump; rw [if_neg (fun hh => hh hk), if_pos hd]
      rw [e] at hR
      exact hR _ _ ⟨rfl, h, Fr.refl _ _⟩
    rw [if_neg hd]
    have hn : hat H1 (Addr.add ⟨bs, k.toNat * 72, none⟩ 2) = some (.int .i64 (m.seg k.toNat).n) := by rw [addr_add_mk]; exact h.at hkl (by omega)
    refine ⟨_, hn, ?_⟩
    rw [w64 (n := 64 - (m.seg k.toNat).n) (by omega)]
    by_cases hf : d > 64 - (m.seg k.toNat).n
    · rw [if_pos hf]
      have e : m.bump k d = (m, 0, 2) := by unfold Mem.bump; rw [if_neg (fun hh => hh hk), if_neg hd, if_pos (by omega)]
      rw [e] at hR
      exact hR _ _ ⟨rfl, h, Fr.refl _ _⟩
    rw [if_neg hf]
    have e : m.bump k d = (m.upd k.toNat ((m.seg k.toNat).bump d), k * 64 + (m.seg k.toNat).n, 0) := by unfold Mem.bump; rw [if_neg (fun hh => hh hk), if_neg hd, if_neg (by omega)]
    rw [e] at hR
    refine ⟨_, hn, by rw [addr_add_mk]; exact h.canPuts hkl (by omega), fun H2 hH2 => ?_⟩
    rw [addr_add_mk, w64 (n := (m.seg k.toNat).n + d) (by omega)] at hH2
    subst hH2
    obtain ⟨h1, h2⟩ := h.put (v := .int .i64 ((m.seg k.toNat).n + d)) (s := (m.seg k.toNat).bump d) hkl (o := 2) (by omega) rfl (fun j _ hj => by
      match j, hj with
      | 0, _ | 1, _ | 3, _ | 4, _ | 5, _ | 6, _ | 7, _ => rfl
      | 2, h => exact absurd rfl h
      | j + 8, _ => rfl)
    refine ⟨(m.seg k.toNat).n + d, ?_, hR _ _ ⟨?_, h1, h2⟩⟩
    · rw [addr_add_mk, h1.at hkl (by omega), Mem.upd_same]; rfl
    · have hl2 : k < 1024 := by have := hk.2.1; omega
      rw [w64 (n := k * 64) (by omega), w64 (n := k * 64 + ((m.seg k.toNat).n + d)) (by omega), w64 (by omega)]
      rw [show k * 64 + ((m.seg k.toNat).n + d) - d = k * 64 + (m.seg k.toNat).n by omega]
  · rw [if_neg hk, onPtr_none]
    have e : m.bump k d = (m, 0, 19) := by unfold Mem.bump; rw [if_pos hk]
    rw [e] at hR
    exact hR _ _ ⟨rfl, h, Fr.refl _ _⟩

def Seg.mark (s : Seg) (c : Nat) (v : Int) : Seg := { s with cards := fun i => if i = c then v else s.cards i }
def Mem.mark (m : Mem) (k c v : Int) : Mem × Int :=
  if ¬ m.has k then (m, 19)
  else if c < 0 ∨ 4 ≤ c ∨ v < 0 ∨ 5 < v then (m, 1)
  else (m.upd k.toNat ((m.seg k.toNat).mark c.toNat v), 0)
def Mem.first (m : Mem) : Nat := ((List.range m.limit).find? (fun k => (m.seg k).taken == 0)).getD 0
theorem Mem.first_eq {m : Mem} {k : Nat} (hk : k < m.limit) (h0 : (m.seg k).taken = 0) (hb : ∀ j, j < k → (m.seg j).taken ≠ 0) : m.first = k := by
  unfold Mem.first
  have : (List.range m.limit).find? (fun k => (m.seg k).taken == 0) = some k := by
    rw [List.find?_range_eq_some]
    refine ⟨by simp [h0], by simp [hk], fun j hj => by simpa using hb j hj⟩
  rw [this]; rfl
def Mem.take (m : Mem) (gen kind : Int) : Mem × Int × Int :=
  if gen < 0 ∨ 4 < gen ∨ kind < 0 ∨ 3 < kind then (m, 0, 1)
  else if m.free = 0 then (m, 0, 2)
  else ({ m with count := m.count + 1, free := m.free - 1 }.upd m.first (Seg.new gen kind (m.count + 1)), m.first, 0)

theorem newCells (gen kind t : Int) : ∃ vs : List Value, vs = ([.int .i64 gen, .int .i64 kind, .int .i64 0, .int .i64 5, .int .i64 5, .int .i64 5, .int .i64 5, .int .i64 t] ++ List.replicate 64 (.int .u64 0) : List Value) ∧ vs.length = 72 ∧ ∀ j, j < 72 → vs[j]? = some ((Seg.new gen kind t).cell j) := by
  refine ⟨_, rfl, by simp, fun j hj => ?_⟩
  match j, hj with
  | 0, _ | 1, _ | 2, _ | 3, _ | 4, _ | 5, _ | 6, _ | 7, _ => rfl
  | j + 8, hj =>
    rw [List.getElem?_append_right (by simp)]
    simp only [List.length_cons, List.length_nil]
    rw [List.getElem?_replicate, if_pos (by omega)]; rfl
theorem noneCells : ∃ z : Array Value, z = (List.replicate 8 (.int .i64 0) ++ List.replicate 64 (.int .u64 0) : List Value).toArray ∧ z.size = 72 ∧ ∀ j, j < 72 → z[j]? = some (Seg.none.cell j) := by
  refine ⟨_, rfl, by simp, fun j hj => ?_⟩
  rw [List.getElem?_toArray]
  match j, hj with
  | 0, _ | 1, _ | 2, _ | 3, _ | 4, _ | 5, _ | 6, _ | 7, _ => rfl
  | j + 8, hj =>
    rw [List.getElem?_append_right (by simp)]
    simp only [List.length_replicate]
    rw [List.getElem?_replicate, if_pos (by omega)]; rfl

theorem seg_Take_c {H : Array Obj} {bm bs : Nat} {m : Mem} {gen kind : Int} (h : MemAt H bm bs m) (ok : MemOK m) (hc : m.count < 4611686018427387904) :
    seg_Mem_Take.C (some ⟨bm, 0, none⟩) gen kind H (fun v H' => v = .tuple #[.int .i64 (m.take gen kind).2.1, .int .i64 (m.take gen kind).2.2] ∧ MemAt H' bm bs (m.take gen kind).1 ∧ Fr [bm, bs] H H') := by
  refine HC.via fun R hR => seg_Mem_Take.link ?_
  unfold seg_Mem_Take.pt
  rw [onPtr_some]
  have hlim := ok.lim
  have bad : (gen < 0 ∨ 4 < gen ∨ kind < 0 ∨ 3 < kind) → R (.tuple #[.int .i64 0, .int .i64 1]) H := fun hb => by
    have e : m.take gen kind = (m, 0, 1) := by unfold Mem.take; rw [if_pos hb]
    rw [e] at hR
    exact hR _ _ ⟨rfl, h, Fr.refl _ _⟩
  by_cases h1 : gen < 0
  · rw [if_pos h1]; exact bad (.inl h1)
  rw [if_neg h1]
  by_cases h2 : gen > 4
  · rw [if_pos h2]; exact bad (.inr (.inl h2))
  rw [if_neg h2]
  by_cases h3 : kind < 0
  · rw [if_pos h3]; exact bad (.inr (.inr (.inl h3)))
  rw [if_neg h3]
  by_cases h4 : kind > 3
  · rw [if_pos h4]; exact bad (.inr (.inr (.inr h4)))
  rw [if_neg h4]
  refine ⟨_, _, _, h.segsAt, ?_⟩
  rw [if_neg (by omega)]
  refine ⟨m.free, by rw [addr_add_mk]; exact h.freeAt, ?_⟩
  by_cases h5 : m.free = 0
  · rw [if_pos h5]
    have e : m.take gen kind = (m, 0, 2) := by unfold Mem.take; rw [if_neg (by omega), if_pos h5]
    rw [e] at hR
    exact hR _ _ ⟨rfl, h, Fr.refl _ _⟩
  rw [if_neg h5]
  have hnf : m.nfree ≠ 0 := fun e => h5 (by rw [ok.free, e]; rfl)
  have hne := Mem.nfree_pos hnf
  have hfree : m.free ≤ 1024 := by
    rw [ok.free]
    have : m.nfree ≤ (List.range m.limit).length := List.countP_le_length
    simp at this
    omega
  have hfree0 : 0 ≤ m.free := by rw [ok.free]; omega
  refine ⟨fun k H' => H' = H ∧ 0 ≤ k ∧ ∀ j : Nat, j < k.toNat → (m.seg j).taken ≠ 0, fun k _ => (1024 - k).toNat, ⟨rfl, by omega, fun j hj => by simp at hj⟩, ?_⟩
  rintro k H1 ⟨rfl, k0, hj⟩
  obtain ⟨kk, hkk, hk0⟩ := hne
  have hkl : k.toNat < m.limit := by
    rcases Nat.lt_or_ge kk k.toNat with h | h
    · exact absurd hk0 (hj kk h)
    · omega
  refine ⟨_, _, _, h.segsAt, _, rfl, ⟨k0, by omega⟩, (m.seg k.toNat).taken, by simp only [addr_add_mk, Nat.zero_add]; exact h.at hkl (by omega), ?_⟩
  have ht := (ok.seg k.toNat).taken
  by_cases htk : (m.seg k.toNat).taken > 0
  · rw [if_pos htk, w64 (n := k + 1) (by omega)]
    refine ⟨⟨rfl, by omega, fun j hj' => ?_⟩, by show (1024 - (k + 1)).toNat < (1024 - k).toNat; omega⟩
    by_cases e : j = k.toNat
    · subst e; omega
    · exact hj j (by omega)
  rw [if_neg htk]
  have htk0 : (m.seg k.toNat).taken = 0 := by omega
  have hfirst : m.first = k.toNat := Mem.first_eq hkl htk0 hj
  have hcnt := ok.count
  refine ⟨m.count, by rw [addr_add_mk]; exact h.countAt, by rw [addr_add_mk]; exact canPuts_blk h.mem _ _ _ (by simp), fun H2 hH2 => ?_⟩
  rw [addr_add_mk, hputs_blk _ _ _ _ _ h.mem, w64 (n := m.count + 1) (by omega)] at hH2
  have g2 : H2[bm]? = some (.cells #[.slice (some ⟨bs, 0, none⟩) m.limit m.limit, .int .i64 (m.count + 1), .int .i64 m.free] 110 (0, 0)) := by rw [hH2, setBlk_get h.lt.1]; rfl
  refine ⟨m.free, by rw [addr_add_mk, hat_blk g2]; rfl, by rw [addr_add_mk]; exact canPuts_blk g2 _ _ _ (by simp), fun H3 hH3 => ?_⟩
  rw [addr_add_mk, hputs_blk _ _ _ _ _ g2, w64 (n := m.free - 1) (by omega), hH2, setBlk_twice] at hH3
  have g3 : MemAt H3 bm bs { m with count := m.count + 1, free := m.free - 1 } := by
    subst hH3
    obtain ⟨cs, hb, hr⟩ := h.segs
    exact ⟨by rw [setBlk_get h.lt.1]; rfl, h.ne, cs, by rw [setBlk_other h.ne]; exact hb, hr⟩
  have f3 : Fr [bm] H1 H3 := by subst hH3; exact Fr.set
  refine ⟨_, _, _, g3.segsAt, m.count + 1, by rw [addr_add_mk]; exact g3.countAt, _, rfl, ⟨k0, by show k < (m.limit : Int); omega⟩, ?_⟩
  simp only [addr_add_mk, Nat.zero_add]
  have hcp := g3.canPuts (k := k.toNat) (o := 0) (n := 72) hkl (by omega)
  rw [Nat.add_zero] at hcp
  refine ⟨hcp, fun H4 hH4 => ?_⟩
  obtain ⟨vs, evs, hl, hg⟩ := newCells gen kind (m.count + 1)
  rw [← evs] at hH4
  obtain ⟨g4, f4⟩ := g3.puts (k := k.toNat) (o := 0) (vs := vs) (s := Seg.new gen kind (m.count + 1)) hkl (by omega) (fun j hj => by rw [Nat.zero_add]; exact hg j (by omega)) (fun j hj ho => by omega)
  rw [Nat.add_zero] at g4 f4
  have e : m.take gen kind = ({ m with count := m.count + 1, free := m.free - 1 }.upd k.toNat (Seg.new gen kind (m.count + 1)), k, 0) := by
    unfold Mem.take
    rw [if_neg (by omega), if_neg h5, hfirst, show ((k.toNat : Nat) : Int) = k by omega]
  rw [e] at hR
  subst hH4
  exact hR _ _ ⟨rfl, g4, (f3.trans' f4 (fun i hi _ => by simp at hi; simp [hi]) (fun i hi _ => by simp at hi; simp [hi]))⟩

def Mem.fresh (limit : Nat) : Mem := ⟨limit, fun _ => Seg.none, 0, limit⟩
theorem segOK_none : SegOK Seg.none := ⟨by decide, by decide, by decide, fun _ => (by decide : (0:Int) ≤ 0 ∧ (0:Int) ≤ 5), by decide, fun _ => (by decide : IsWord 0)⟩
theorem memOK_fresh {limit : Nat} (h : 8 ≤ limit ∧ limit ≤ 1024) : MemOK (Mem.fresh limit) :=
  ⟨h, fun _ => segOK_none, by
    show (limit : Int) = _
    unfold Mem.nfree
    have : (List.range limit).countP (fun k => ((Mem.fresh limit).seg k).taken == 0) = (List.range limit).length := List.countP_eq_length.2 (fun _ _ => rfl)
    show (limit : Int) = (((List.range limit).countP (fun k => ((Mem.fresh limit).seg k).taken == 0) : Nat) : Int)
    rw [this]; simp, Int.le_refl _⟩

theorem seg_New_c {H : Array Obj} {limit : Int} (hl : I64 limit) :
    seg_New.C limit H (fun v H' => (¬ (8 ≤ limit ∧ limit ≤ 1024) ∧ v = .tuple #[.pointer none, .int .i64 1] ∧ H' = H) ∨
      ((8 ≤ limit ∧ limit ≤ 1024) ∧ ∃ bm bs, v = .tuple #[.pointer (some ⟨bm, 0, none⟩), .int .i64 0] ∧ MemAt H' bm bs (Mem.fresh limit.toNat) ∧ Ext H H' ∧ H.size ≤ bs ∧ bs < bm)) := by
  refine HC.via fun R hR => seg_New.link ?_
  unfold seg_New.pt
  by_cases h : 8 ≤ limit ∧ limit ≤ 1024
  · rw [if_neg (by simp; omega)]
    obtain ⟨z, ez, hz, hg⟩ := noneCells
    rw [← ez]
    refine ⟨by omega, by omega, by omega, by omega, fun b H1 hb hH1 b2 H2 hb2 hH2 => hR _ _ (.inr ⟨h, b2, b, rfl, ?_, (Ext.push' hH1).trans (Ext.push' hH2), by omega, ?_⟩)⟩
    · have g1 := push_get hb hH1
      have g2 := push_get hb2 hH2
      have hne : b2 ≠ b := by have := lt_size g1; omega
      refine ⟨?_, hne, _, (Ext.push' hH2).get g1, ?_, ?_⟩
      · rw [g2]
        show _ = some (Obj.cells #[.slice (some ⟨b, 0, none⟩) limit.toNat limit.toNat, .int .i64 0, .int .i64 ((limit.toNat : Nat) : Int)] _ _)
        rw [show ((limit.toNat : Nat) : Int) = limit by omega]
      · rw [zeroCells_size, hz]; rfl
      · intro k hk j hj
        have := zeroCells_get (z := z) (n := limit.toNat) (k := k) (j := j) hk (by omega)
        rw [hz] at this
        rw [this, hg j hj]; rfl
    · have := lt_size (push_get hb hH1); omega
  · rw [if_pos (by simp; omega)]
    exact hR _ _ (.inl ⟨h, rfl, rfl⟩)
end Go.Proofs.YthlohokmnajpoaaGreatDoor
