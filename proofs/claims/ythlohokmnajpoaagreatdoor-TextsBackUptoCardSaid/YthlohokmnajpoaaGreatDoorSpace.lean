/-
  Where new things are put (package space) and the cards' marks (package card), said of abstract spaces: their place on the heap, the contracts. Proves nothing of any one statement.
-/
import Derived.Test.YthlohokmnajpoaaGreatDoorSeg
import Derived.Test.YthlohokmnajpoaaGreatDoorWord
import Derived.Test.YthlohokmnajpoaaGreatDoorFspace
import Derived.Test.YthlohokmnajpoaaGreatDoorLx
set_option linter.unusedVariables false
set_option linter.unusedSimpArgs false
namespace Go.Proofs.YthlohokmnajpoaaGreatDoor
open Go

theorem MemOK.bump {m : Mem} (ok : MemOK m) (k d : Int) : MemOK (m.bump k d).1 := by
  unfold Mem.bump
  by_cases hk : m.has k
  · rw [if_neg (fun h => h hk)]
    by_cases hd : d < 1
    · rw [if_pos hd]; exact ok
    rw [if_neg hd]
    by_cases hf : 64 - (m.seg k.toNat).n < d
    · rw [if_pos hf]; exact ok
    rw [if_neg hf]
    have s := ok.seg k.toNat
    exact ok.upd ⟨s.gen, s.kind, by have := s.n; show 0 ≤ (m.seg k.toNat).n + d ∧ (m.seg k.toNat).n + d ≤ 64; omega, s.cards, s.taken, s.words⟩ rfl
  · rw [if_pos hk]; exact ok
theorem Mem.bump_fail {m : Mem} {k d : Int} (h : (m.bump k d).2.2 ≠ 0) : (m.bump k d).1 = m := by
  unfold Mem.bump at *
  split
  · rfl
  · rename_i h1
    rw [if_neg h1] at h
    split
    · rfl
    · rename_i h2
      rw [if_neg h2] at h
      split
      · rfl
      · rename_i h3
        rw [if_neg h3] at h
        exact absurd rfl h
theorem Mem.first_spec {m : Mem} (ok : MemOK m) (h : m.free ≠ 0) : m.first < m.limit ∧ (m.seg m.first).taken = 0 := by
  have hnf : m.nfree ≠ 0 := fun e => h (by rw [ok.free, e]; rfl)
  obtain ⟨k, hk, h0⟩ := Mem.nfree_pos hnf
  have hs : ((List.range m.limit).find? (fun k => (m.seg k).taken == 0)).isSome = true := by
    rw [List.find?_isSome]; exact ⟨k, List.mem_range.2 hk, by simp [h0]⟩
  obtain ⟨j, hj⟩ := Option.isSome_iff_exists.1 hs
  have hp := List.find?_some hj
  have hm := List.mem_of_find?_eq_some hj
  unfold Mem.first
  rw [hj]
  exact ⟨List.mem_range.1 hm, by simpa using hp⟩
theorem MemOK.take {m : Mem} (ok : MemOK m) (gen kind : Int) : MemOK (m.take gen kind).1 := by
  unfold Mem.take
  by_cases h1 : gen < 0 ∨ 4 < gen ∨ kind < 0 ∨ 3 < kind
  · rw [if_pos h1]; exact ok
  rw [if_neg h1]
  by_cases h2 : m.free = 0
  · rw [if_pos h2]; exact ok
  rw [if_neg h2]
  obtain ⟨hf, h0⟩ := Mem.first_spec ok h2
  have hc := ok.count
  refine ⟨ok.lim, fun i => ?_, ?_, by show 0 ≤ m.count + 1; omega⟩
  · rw [Mem.upd_seg]
    by_cases hi : i = m.first
    · rw [if_pos hi]
      exact ⟨by show 0 ≤ gen ∧ gen ≤ 4; omega, by show 0 ≤ kind ∧ kind ≤ 3; omega, (by decide : (0 : Int) ≤ 0 ∧ (0 : Int) ≤ 64), fun _ => (by decide : (0 : Int) ≤ 5 ∧ (5 : Int) ≤ 5), by show 0 ≤ m.count + 1; omega, fun _ => (by decide : IsWord 0)⟩
    · rw [if_neg hi]; exact ok.seg i
  · show m.free - 1 = _
    have e := Mem.nfree_take (m := m) (k := m.first) (s := Seg.new gen kind (m.count + 1)) hf h0 (by show m.count + 1 ≠ 0; omega)
    have e2 : ({ m with count := m.count + 1, free := m.free - 1 }.upd m.first (Seg.new gen kind (m.count + 1))).nfree = (m.upd m.first (Seg.new gen kind (m.count + 1))).nfree := rfl
    rw [e2, ok.free, e]; omega
theorem MemOK.set {m : Mem} (ok : MemOK m) (a : Int) {w : Int} (hw : IsWord w) : MemOK (m.set a w) := by
  have s := ok.seg (a / 64).toNat
  refine ok.upd ⟨s.gen, s.kind, s.n, s.cards, s.taken, fun j => ?_⟩ rfl
  simp only [Seg.set]
  by_cases h : j = (a % 64).toNat
  · rw [if_pos h]; exact hw
  · rw [if_neg h]; exact s.words j
theorem MemOK.mark {m : Mem} (ok : MemOK m) (k c v : Int) : MemOK (m.mark k c v).1 := by
  unfold Mem.mark
  by_cases hk : m.has k
  · rw [if_neg (fun h => h hk)]
    by_cases hc : c < 0 ∨ 4 ≤ c ∨ v < 0 ∨ 5 < v
    · rw [if_pos hc]; exact ok
    rw [if_neg hc]
    have s := ok.seg k.toNat
    refine ok.upd ⟨s.gen, s.kind, s.n, fun i => ?_, s.taken, s.words⟩ rfl
    simp only [Seg.mark]
    by_cases h : i = c.toNat
    · rw [if_pos h]; omega
    · rw [if_neg h]; exact s.cards i
  · rw [if_pos hk]; exact ok

structure Sp where
  mem : Mem
  cur : Nat → Nat → Int
structure Blk where
  h : Nat
  c : Nat
  sp : Nat
  m : Nat
  s : Nat
def Blk.all (b : Blk) : List Nat := [b.h, b.c, b.sp, b.m, b.s]
structure SpOK (s : Sp) : Prop where
  mem : MemOK s.mem
  cur : ∀ g k, s.cur g k = 0 ∨ (1 ≤ s.cur g k ∧ s.mem.has (s.cur g k - 1) ∧ (s.mem.seg (s.cur g k - 1).toNat).gen = g ∧ (s.mem.seg (s.cur g k - 1).toNat).kind = k)
structure SpAt (H : Array Obj) (b : Blk) (s : Sp) : Prop where
  mem : MemAt H b.m b.s s.mem
  ne : b.sp ≠ b.m ∧ b.sp ≠ b.s
  sp : ∃ cs : Array Value, H[b.sp]? = some (.cells cs 59 (0, 0)) ∧ cs.size = 21 ∧ cs[0]? = some (.pointer (some ⟨b.m, 0, none⟩)) ∧ ∀ g k, g < 5 → k < 4 → cs[1 + g * 4 + k]? = some (.int .i64 (s.cur g k))
theorem SpAt.keep {S : List Nat} {H H' : Array Obj} {b : Blk} {s : Sp} (h : SpAt H b s) (f : Fr S H H') (h0 : b.sp ∉ S) (h1 : b.m ∉ S) (h2 : b.s ∉ S) : SpAt H' b s := by
  obtain ⟨cs, hb, hr⟩ := h.sp
  exact ⟨h.mem.keep f h1 h2, h.ne, cs, f.get h0 hb, hr⟩
theorem SpAt.ext {H H' : Array Obj} {b : Blk} {s : Sp} (h : SpAt H b s) (f : Ext H H') : SpAt H' b s := h.keep (S := []) f.fr (by simp) (by simp) (by simp)
theorem SpAt.withMem {S : List Nat} {H H' : Array Obj} {b : Blk} {s : Sp} {m : Mem} (h : SpAt H b s) (f : Fr S H H') (h0 : b.sp ∉ S) (hm : MemAt H' b.m b.s m) : SpAt H' b { s with mem := m } := by
  obtain ⟨cs, hb, hr⟩ := h.sp
  exact ⟨hm, h.ne, cs, f.get h0 hb, hr⟩
theorem SpAt.memPtr {H : Array Obj} {b : Blk} {s : Sp} (h : SpAt H b s) : hat H ⟨b.sp, 0, none⟩ = some (.pointer (some ⟨b.m, 0, none⟩)) := by
  obtain ⟨cs, hb, _, h0, _⟩ := h.sp
  rw [hat_blk hb, h0]
theorem SpAt.curAt {H : Array Obj} {b : Blk} {s : Sp} (h : SpAt H b s) {g k : Nat} (hg : g < 5) (hk : k < 4) : hat H ⟨b.sp, 1 + g * 4 + k, none⟩ = some (.int .i64 (s.cur g k)) := by
  obtain ⟨cs, hb, _, _, hc⟩ := h.sp
  rw [hat_blk hb, hc g k hg hk]
def Sp.setCur (s : Sp) (g k : Nat) (v : Int) : Sp := { s with cur := fun i j => if i = g ∧ j = k then v else s.cur i j }
theorem SpAt.putCur {H : Array Obj} {b : Blk} {s : Sp} (h : SpAt H b s) {g k : Nat} {v : Int} (hg : g < 5) (hk : k < 4) :
    CanPuts H ⟨b.sp, 1 + g * 4 + k, none⟩ 0 1 ∧ SpAt (hputs H ⟨b.sp, 1 + g * 4 + k, none⟩ [.int .i64 v] 0) b (s.setCur g k v) ∧ Fr [b.sp] H (hputs H ⟨b.sp, 1 + g * 4 + k, none⟩ [.int .i64 v] 0) := by
  obtain ⟨cs, hb, hs, h0, hc⟩ := h.sp
  refine ⟨canPuts_blk hb _ _ _ (by omega), ?_⟩
  rw [hputs_blk _ H cs _ 0 hb]
  refine ⟨⟨h.mem.keep (S := [b.sp]) Fr.set (by have := h.ne; simp; omega) (by have := h.ne; simp; omega), h.ne, _, setBlk_get (lt_size hb), by rw [splice_size]; exact hs, ?_, fun i j hi hj => ?_⟩, Fr.set⟩
  · rw [splice_get_lt _ _ _ _ (by omega)]; exact h0
  · simp only [Sp.setCur]
    by_cases e : i = g ∧ j = k
    · rw [if_pos e, e.1, e.2]
      have := splice_get_in cs [.int .i64 v] (1 + g * 4 + k + 0) 0 (by simp; omega) (by simp)
      simpa using this
    · rw [if_neg e, ← hc i j hi hj]
      rcases Nat.lt_or_ge (1 + i * 4 + j) (1 + g * 4 + k) with hl | hl
      · exact splice_get_lt _ _ _ _ (by omega)
      · exact splice_get_ge _ _ _ _ (by simp; omega)

theorem space_none_c {H : Array Obj} {b : Blk} {s : Sp} (h : SpAt H b s) : space_Space_none.C (some ⟨b.sp, 0, none⟩) H (fun v H' => v = .bool false ∧ H' = H) := by
  refine HC.via fun R hR => space_Space_none.link ?_
  unfold space_Space_none.pt
  rw [onPtr_some]
  refine ⟨_, h.memPtr, ?_⟩
  rw [onPtr_some]
  exact hR _ _ ⟨rfl, rfl⟩

def may (gen kind n : Int) : Prop := (0 ≤ gen ∧ gen ≤ 4) ∧ (((kind = 0 ∨ kind = 1) ∧ n = 2) ∨ ((kind = 2 ∨ kind = 3) ∧ 1 ≤ n ∧ n ≤ 63))
instance (gen kind n : Int) : Decidable (may gen kind n) := by unfold may; infer_instance
theorem space_may_c {H : Array Obj} {gen kind n : Int} : space_may.C gen kind n H (fun v H' => v = .bool (decide (may gen kind n)) ∧ H' = H) := by
  refine HC.via fun R hR => space_may.link ?_
  unfold space_may.pt
  by_cases h1 : gen < 0 ∨ gen > 4
  · rw [if_pos (by simpa using h1)]
    exact hR _ _ ⟨by rw [decide_eq_false (fun h => by have := h.1; omega)], rfl⟩
  rw [if_neg (by simpa using h1)]
  by_cases h2 : kind = 0 ∨ kind = 1
  · rw [if_pos (by simpa using h2)]
    refine hR _ _ ⟨?_, rfl⟩
    congr 1
    rw [Bool.eq_iff_iff, decide_eq_true_eq]
    unfold may
    simp only [decide_eq_true_eq, beq_iff_eq, Bool.and_eq_true, Bool.or_eq_true]
    omega
  · rw [if_neg (by simpa using h2)]
    refine hR _ _ ⟨?_, rfl⟩
    congr 1
    rw [Bool.eq_iff_iff, decide_eq_true_eq]
    unfold may
    simp only [decide_eq_true_eq, beq_iff_eq, Bool.and_eq_true, Bool.or_eq_true]
    omega

theorem space_Current_c {H : Array Obj} {b : Blk} {s : Sp} {gen kind : Int} (h : SpAt H b s) (ok : SpOK s) (hg : 0 ≤ gen ∧ gen ≤ 4) (hk : 0 ≤ kind ∧ kind ≤ 3) :
    space_Space_Current.C (some ⟨b.sp, 0, none⟩) gen kind H (fun v H' => v = (if s.cur gen.toNat kind.toNat = 0 then .tuple #[.int .i64 0, .bool false] else .tuple #[.int .i64 (s.cur gen.toNat kind.toNat - 1), .bool true]) ∧ H' = H) := by
  refine HC.via fun R hR => space_Space_Current.link ?_
  unfold space_Space_Current.pt
  rw [onPtr_some, if_neg (by omega), if_neg (by omega), if_neg (by omega), if_neg (by omega)]
  have hc : hat H (Addr.add (Addr.add (Addr.add ⟨b.sp, 0, none⟩ 1) (gen.toNat * 4)) (kind.toNat * 1)) = some (.int .i64 (s.cur gen.toNat kind.toNat)) := by
    simp only [addr_add_mk, Nat.zero_add, Nat.mul_one]
    exact h.curAt (by omega) (by omega)
  refine ⟨by omega, by omega, _, hc, ?_⟩
  by_cases h0 : s.cur gen.toNat kind.toNat = 0
  · rw [if_pos h0]; exact hR _ _ ⟨by rw [if_pos h0], rfl⟩
  · rw [if_neg h0]
    refine ⟨by omega, by omega, _, hc, hR _ _ ⟨?_, rfl⟩⟩
    rw [if_neg h0]
    have hl := ok.mem.lim
    rcases ok.cur gen.toNat kind.toNat with h1 | ⟨h1, h2, _⟩
    · exact absurd h1 h0
    · rw [w64 (by have := h2.2.1; omega)]

def Sp.alloc (s : Sp) (gen kind n : Int) : Sp × Int × Int :=
  if ¬ may gen kind n then (s, 0, 1)
  else if s.cur gen.toNat kind.toNat ≠ 0 ∧ (s.mem.bump (s.cur gen.toNat kind.toNat - 1) n).2.2 = 0 then
    ({ s with mem := (s.mem.bump (s.cur gen.toNat kind.toNat - 1) n).1 }, (s.mem.bump (s.cur gen.toNat kind.toNat - 1) n).2.1, 0)
  else if (s.mem.take gen kind).2.2 = 0 then
    ({ mem := ((s.mem.take gen kind).1.bump (s.mem.take gen kind).2.1 n).1, cur := (s.setCur gen.toNat kind.toNat ((s.mem.take gen kind).2.1 + 1)).cur }, ((s.mem.take gen kind).1.bump (s.mem.take gen kind).2.1 n).2.1, ((s.mem.take gen kind).1.bump (s.mem.take gen kind).2.1 n).2.2)
  else (s, 0, (s.mem.take gen kind).2.2)

theorem space_Alloc_c {H : Array Obj} {b : Blk} {s : Sp} {gen kind n : Int} (h : SpAt H b s) (ok : SpOK s) (hcnt : s.mem.count < 4611686018427387904) :
    space_Space_Alloc.C (some ⟨b.sp, 0, none⟩) gen kind n H (fun v H' => v = .tuple #[.int .i64 (s.alloc gen kind n).2.1, .int .i64 (s.alloc gen kind n).2.2] ∧ SpAt H' b (s.alloc gen kind n).1 ∧ Fr [b.sp, b.m, b.s] H H') := by
  refine HC.via fun R hR => space_Space_Alloc.link ?_
  unfold space_Space_Alloc.pt
  refine HC.mono (space_none_c h) ?_
  rintro _ H1 ⟨rfl, rfl⟩
  refine ⟨_, rfl, ?_⟩
  rw [if_neg (by decide)]
  refine HC.mono space_may_c ?_
  rintro _ H1 ⟨rfl, rfl⟩
  refine ⟨_, rfl, ?_⟩
  by_cases hm : may gen kind n
  case neg =>
    rw [if_neg (by simpa using hm)]
    have e : s.alloc gen kind n = (s, 0, 1) := by unfold Sp.alloc; rw [if_pos hm]
    rw [e] at hR
    exact hR _ _ ⟨rfl, h, Fr.refl _ _⟩
  rw [if_pos (decide_eq_true hm)]
  have hg := hm.1
  have hk : 0 ≤ kind ∧ kind ≤ 3 := by have := hm.2; omega
  refine HC.mono (space_Current_c h ok hg hk) ?_
  rintro _ H1 ⟨rfl, rfl⟩
  have hcv : ∃ (ra : Int) (rb : Bool), (if s.cur gen.toNat kind.toNat = 0 then Value.tuple #[.int .i64 0, .bool false] else .tuple #[.int .i64 (s.cur gen.toNat kind.toNat - 1), .bool true]) = .tuple #[.int .i64 ra, .bool rb] ∧ ((rb = false ∧ s.cur gen.toNat kind.toNat = 0) ∨ (rb = true ∧ s.cur gen.toNat kind.toNat ≠ 0 ∧ ra = s.cur gen.toNat kind.toNat - 1)) := by
    by_cases h0 : s.cur gen.toNat kind.toNat = 0
    · rw [if_pos h0]; exact ⟨_, _, rfl, .inl ⟨rfl, h0⟩⟩
    · rw [if_neg h0]; exact ⟨_, _, rfl, .inr ⟨rfl, h0, rfl⟩⟩
  obtain ⟨ra, rb, hv, hd⟩ := hcv
  refine ⟨ra, rb, hv, ?_⟩
  refine ⟨fun H' => SpAt H' b s ∧ Fr [b.sp, b.m, b.s] H1 H' ∧ ¬ (s.cur gen.toNat kind.toNat ≠ 0 ∧ (s.mem.bump (s.cur gen.toNat kind.toNat - 1) n).2.2 = 0), ?_, ?_⟩
  · rcases hd with ⟨rfl, h0⟩ | ⟨rfl, h0, rfl⟩
    · rw [if_neg (by decide)]
      exact ⟨h, Fr.refl _ _, fun hh => hh.1 h0⟩
    · rw [if_pos rfl]
      refine ⟨_, rfl, _, h.memPtr, ?_⟩
      refine HC.mono (seg_Bump_c h.mem ok.mem) ?_
      rintro _ H2 ⟨rfl, hm2, f2⟩
      refine ⟨_, _, rfl, ?_⟩
      have f2' : Fr [b.sp, b.m, b.s] H1 H2 := f2.mono (fun i hi _ => by simp at hi; simp [hi])
      by_cases hb : (s.mem.bump (s.cur gen.toNat kind.toNat - 1) n).2.2 = 0
      · rw [if_pos hb]
        have e : s.alloc gen kind n = ({ s with mem := (s.mem.bump (s.cur gen.toNat kind.toNat - 1) n).1 }, (s.mem.bump (s.cur gen.toNat kind.toNat - 1) n).2.1, 0) := by
          unfold Sp.alloc; rw [if_neg (fun hh => hh hm), if_pos ⟨h0, hb⟩]
        rw [e] at hR
        exact hR _ _ ⟨rfl, h.withMem f2 (by have := h.ne; simp; omega) hm2, f2'⟩
      · rw [if_neg hb]
        rw [Mem.bump_fail hb] at hm2
        have := h.withMem f2 (by have := h.ne; simp; omega) hm2
        exact ⟨this, f2', fun hh => hb hh.2⟩
  rintro H4 ⟨h4, f4, hno⟩
  refine ⟨_, rfl, _, h4.memPtr, ?_⟩
  refine HC.mono (seg_Take_c h4.mem ok.mem hcnt) ?_
  rintro _ H5 ⟨rfl, hm5, f5⟩
  refine ⟨_, _, rfl, ?_⟩
  have nsp : b.sp ∉ [b.m, b.s] := by have := h.ne; simp; omega
  have f5' : Fr [b.sp, b.m, b.s] H1 H5 := f4.trans (f5.mono (fun i hi _ => by simp at hi; simp; omega))
  by_cases ht : (s.mem.take gen kind).2.2 = 0
  · rw [if_pos ht]
    have h5 := h4.withMem f5 nsp hm5
    have hp := h5.putCur (g := gen.toNat) (k := kind.toNat) (v := (s.mem.take gen kind).2.1 + 1) (by omega) (by omega)
    have ht2 : -9223372036854775808 ≤ (s.mem.take gen kind).2.1 + 1 ∧ (s.mem.take gen kind).2.1 + 1 ≤ 9223372036854775807 := by
      have hl := ok.mem.lim
      unfold Mem.take at ht ⊢
      rw [if_neg (by omega)] at ht ⊢
      by_cases hf : s.mem.free = 0
      · rw [if_pos hf] at ht; exact absurd ht (show ¬ ((2 : Int) = 0) by decide)
      · rw [if_neg hf]
        have := (Mem.first_spec ok.mem hf).1
        show -9223372036854775808 ≤ (s.mem.first : Int) + 1 ∧ (s.mem.first : Int) + 1 ≤ _
        omega
    simp only [addr_add_mk, Nat.zero_add, Nat.mul_one]
    rw [w64 ht2]
    refine ⟨by omega, by omega, hp.1, fun H6 hH6 => ?_⟩
    subst hH6
    refine ⟨_, hp.2.1.memPtr, ?_⟩
    refine HC.mono (seg_Bump_c hp.2.1.mem (ok.mem.take gen kind)) ?_
    rintro _ H7 ⟨rfl, hm7, f7⟩
    refine ⟨_, _, rfl, ?_⟩
    have e : s.alloc gen kind n = ({ mem := ((s.mem.take gen kind).1.bump (s.mem.take gen kind).2.1 n).1, cur := (s.setCur gen.toNat kind.toNat ((s.mem.take gen kind).2.1 + 1)).cur }, ((s.mem.take gen kind).1.bump (s.mem.take gen kind).2.1 n).2.1, ((s.mem.take gen kind).1.bump (s.mem.take gen kind).2.1 n).2.2) := by
      unfold Sp.alloc; rw [if_neg (fun hh => hh hm), if_neg hno, if_pos ht]
    rw [e] at hR
    refine hR _ _ ⟨rfl, hp.2.1.withMem f7 (by have := h.ne; simp; omega) hm7, ?_⟩
    exact (f5'.trans (hp.2.2.mono (fun i hi _ => by simp at hi; simp [hi]))).trans (f7.mono (fun i hi _ => by simp at hi; simp [hi]))
  · rw [if_neg ht]
    have e : s.alloc gen kind n = (s, 0, (s.mem.take gen kind).2.2) := by
      unfold Sp.alloc; rw [if_neg (fun hh => hh hm), if_neg hno, if_neg ht]
    rw [e] at hR
    have hme : (s.mem.take gen kind).1 = s.mem := by
      unfold Mem.take at ht ⊢
      by_cases h1 : gen < 0 ∨ 4 < gen ∨ kind < 0 ∨ 3 < kind
      · rw [if_pos h1]
      rw [if_neg h1] at ht ⊢
      by_cases h2 : s.mem.free = 0
      · rw [if_pos h2]
      · rw [if_neg h2] at ht; exact absurd rfl ht
    rw [hme] at hm5
    exact hR _ _ ⟨rfl, h4.withMem f5 nsp hm5, f5'⟩

theorem space_New_c {H : Array Obj} {limit : Int} (hl : I64 limit) :
    space_New.C limit H (fun v H' => (¬ (8 ≤ limit ∧ limit ≤ 1024) ∧ v = .tuple #[.pointer none, .int .i64 1] ∧ Ext H H') ∨
      ((8 ≤ limit ∧ limit ≤ 1024) ∧ ∃ b : Blk, v = .tuple #[.pointer (some ⟨b.sp, 0, none⟩), .int .i64 0] ∧ SpAt H' b ⟨Mem.fresh limit.toNat, fun _ _ => 0⟩ ∧ Ext H H' ∧ H.size ≤ b.s ∧ b.s < b.m ∧ b.m < b.sp)) := by
  refine HC.via fun R hR => space_New.link ?_
  unfold space_New.pt
  refine HC.mono (seg_New_c hl) ?_
  rintro _ H1 (⟨hn, rfl, rfl⟩ | ⟨hy, bm, bs, rfl, hm, e1, hbs, hbm⟩)
  · refine ⟨_, _, rfl, ?_⟩
    rw [if_neg (by decide)]
    exact hR _ _ (.inl ⟨hn, rfl, Ext.refl _⟩)
  · refine ⟨_, _, rfl, ?_⟩
    rw [if_pos rfl]
    intro b H2 hb hH2
    have hlt := hm.lt
    refine hR _ _ (.inr ⟨hy, ⟨0, 0, b, bm, bs⟩, rfl, ?_, e1.trans (Ext.push' hH2), hbs, hbm, by show bm < b; omega⟩)
    refine ⟨hm.ext (Ext.push' hH2), ⟨by show b ≠ bm; omega, by show b ≠ bs; omega⟩, _, push_get hb hH2, rfl, rfl, fun g k hg hk => ?_⟩
    have h5 : g = 0 ∨ g = 1 ∨ g = 2 ∨ g = 3 ∨ g = 4 := by omega
    have h4 : k = 0 ∨ k = 1 ∨ k = 2 ∨ k = 3 := by omega
    rcases h5 with rfl | rfl | rfl | rfl | rfl <;> rcases h4 with rfl | rfl | rfl | rfl <;> rfl
theorem spOK_fresh {limit : Nat} (h : 8 ≤ limit ∧ limit ≤ 1024) : SpOK ⟨Mem.fresh limit, fun _ _ => 0⟩ := ⟨memOK_fresh h, fun _ _ => .inl rfl⟩

structure CdAt (H : Array Obj) (b : Blk) (s : Sp) : Prop where
  sp : SpAt H b s
  ne : b.c ≠ b.sp ∧ b.c ≠ b.m ∧ b.c ≠ b.s
  c : H[b.c]? = some (.cells #[.pointer (some ⟨b.sp, 0, none⟩)] 54 (0, 0))
theorem CdAt.keep {S : List Nat} {H H' : Array Obj} {b : Blk} {s : Sp} (h : CdAt H b s) (f : Fr S H H') (h3 : b.c ∉ S) (h0 : b.sp ∉ S) (h1 : b.m ∉ S) (h2 : b.s ∉ S) : CdAt H' b s :=
  ⟨h.sp.keep f h0 h1 h2, h.ne, f.get h3 h.c⟩
theorem CdAt.ext {H H' : Array Obj} {b : Blk} {s : Sp} (h : CdAt H b s) (f : Ext H H') : CdAt H' b s := h.keep (S := []) f.fr (by simp) (by simp) (by simp) (by simp)
theorem CdAt.withSp {S : List Nat} {H H' : Array Obj} {b : Blk} {s s' : Sp} (h : CdAt H b s) (f : Fr S H H') (h3 : b.c ∉ S) (hs : SpAt H' b s') : CdAt H' b s' := ⟨hs, h.ne, f.get h3 h.c⟩
theorem CdAt.cPtr {H : Array Obj} {b : Blk} {s : Sp} (h : CdAt H b s) : hat H ⟨b.c, 0, none⟩ = some (.pointer (some ⟨b.sp, 0, none⟩)) := by rw [hat_blk h.c]; rfl
theorem CdAt.withMem {H H' : Array Obj} {b : Blk} {s : Sp} {m : Mem} {S : List Nat} (h : CdAt H b s) (f : Fr S H H') (hS : ∀ i, i ∈ S → i = b.m ∨ i = b.s) (hm : MemAt H' b.m b.s m) : CdAt H' b { s with mem := m } :=
  h.withSp f (fun hi => by have := hS _ hi; have := h.ne; omega) (h.sp.withMem f (fun hi => by have := hS _ hi; have := h.sp.ne; omega) hm)

def isAddr (w : Int) : Prop := (w % 8 = 1 ∨ w % 8 = 2 ∨ w % 8 = 3 ∨ w % 8 = 6) ∧ w / 8 < 65536
instance (w : Int) : Decidable (isAddr w) := by unfold isAddr; infer_instance
def Mem.genOf (m : Mem) (w : Int) : Int × Bool := if isAddr w ∧ w % 8 ≠ 6 then ((if m.has (w / 8 / 64) then (m.seg (w / 8 / 64).toNat).gen else 0), decide (m.has (w / 8 / 64))) else (0, false)
def Mem.younger (m : Mem) (sg : Seg) (w mark : Int) : Int := if (m.genOf w).2 = true ∧ sg.kind ≠ 3 ∧ (m.genOf w).1 < sg.gen then min mark (m.genOf w).1 else mark
def Mem.store (m : Mem) (a w : Int) : Mem × Int :=
  if m.used a then (m.set a w).mark (a / 64) (a % 64 / 16) ((m.set a w).younger ((m.set a w).seg (a / 64).toNat) w (((m.set a w).seg (a / 64).toNat).cards (a % 64 / 16).toNat))
  else (m, 18)
theorem Mem.set_has {m : Mem} {a w k : Int} : (m.set a w).has k ↔ m.has k := by
  unfold Mem.has Mem.set
  rw [Mem.upd_limit, Mem.upd_seg]
  by_cases h : k.toNat = (a / 64).toNat
  · rw [if_pos h]; simp only [Seg.set, h]
  · rw [if_neg h]
theorem card_New_c {H : Array Obj} {limit : Int} (hl : I64 limit) :
    card_New.C limit H (fun v H' => (¬ (8 ≤ limit ∧ limit ≤ 1024) ∧ v = .tuple #[.pointer none, .int .i64 1] ∧ Ext H H') ∨
      ((8 ≤ limit ∧ limit ≤ 1024) ∧ ∃ b : Blk, v = .tuple #[.pointer (some ⟨b.c, 0, none⟩), .int .i64 0] ∧ CdAt H' b ⟨Mem.fresh limit.toNat, fun _ _ => 0⟩ ∧ Ext H H' ∧ H.size ≤ b.s ∧ b.s < b.m ∧ b.m < b.sp ∧ b.sp < b.c)) := by
  refine HC.via fun R hR => card_New.link ?_
  unfold card_New.pt
  refine HC.mono (space_New_c hl) ?_
  rintro _ H1 (⟨hn, rfl, e1⟩ | ⟨hy, b, rfl, hs, e1, hbs, hbm, hsp⟩)
  · refine ⟨_, _, rfl, ?_⟩
    rw [if_neg (by decide)]
    exact hR _ _ (.inl ⟨hn, rfl, e1⟩)
  · refine ⟨_, _, rfl, ?_⟩
    rw [if_pos rfl]
    intro b1 H2 hb hH2
    have hlt : b.sp < H1.size := by obtain ⟨cs, hh, _⟩ := hs.sp; exact lt_size hh
    have hs2 := hs.ext (Ext.push' hH2)
    refine hR _ _ (.inr ⟨hy, { b with c := b1 }, rfl, ⟨⟨hs2.mem, hs2.ne, hs2.sp⟩, ⟨by show b1 ≠ b.sp; omega, by show b1 ≠ b.m; omega, by show b1 ≠ b.s; omega⟩, push_get hb hH2⟩, e1.trans (Ext.push' hH2), hbs, hbm, hsp, by show b.sp < b1; omega⟩)
end Go.Proofs.YthlohokmnajpoaaGreatDoor
