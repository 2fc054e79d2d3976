/-
  Environments that a law has made: a list of scopes, their words on the heap, their values by definition. Proves nothing of any one statement.
-/
import Derived.Test.YtfohlkiikppefaaRows20
namespace Go.Proofs.Ytfohlkiikppefaa
open Go
set_option linter.unusedVariables false

structure Sc where
  w : Int
  parent : Int
  p : Option Addr
  n : Nat
  c : Nat
  ws : List Int
def Sc.none : Sc := ⟨20, -1, .none, 0, 0, []⟩
def Sc.setW (s : Sc) (i : Nat) (v : Int) : Sc := { s with ws := s.ws.set i v }
def Sc.cells (s : Sc) : List Value := [.int .u64 s.w, .int .i64 s.parent, .slice s.p s.n s.c]
/-- the word of a place in the list; -1: Nil -/
def pw (scs : List Sc) (k : Int) : Int := if k < 0 then 20 else (scs.getD k.toNat Sc.none).w
structure ScOK (m : Mem) (scs : List Sc) (k : Nat) (s : Sc) : Prop where
  par : -1 ≤ s.parent ∧ s.parent < k
  thing : Thing m s.w 7 0 (pw scs s.parent :: s.ws)
  len : s.n = s.ws.length ∧ s.ws.length ≤ 50
structure Model (m : Mem) (scs : List Sc) : Prop where
  each : ∀ (k : Nat) (h : k < scs.length), ScOK m scs k scs[k]
  sep : ∀ (j k : Nat) (hj : j < scs.length) (hk : k < scs.length), j ≠ k → Sep scs[j].w (scs[j].ws.length + 1) scs[k].w (scs[k].ws.length + 1)

theorem pw_neg {scs : List Sc} {k : Int} (h : k < 0) : pw scs k = 20 := by unfold pw; rw [if_pos h]
theorem pw_at {scs : List Sc} {k : Int} (h : 0 ≤ k) (hk : k.toNat < scs.length) : pw scs k = scs[k.toNat].w := by unfold pw; rw [if_neg (by omega), getD_at hk]
theorem pw_append {scs : List Sc} {t : Sc} {k : Int} (h : k < scs.length) : pw (scs ++ [t]) k = pw scs k := by
  unfold pw
  by_cases h0 : k < 0
  · rw [if_pos h0, if_pos h0]
  · rw [if_neg h0, if_neg h0, getD_at (by simp; omega), getD_at (by omega), List.getElem_append_left (by omega)]
theorem pw_set {scs : List Sc} {t : Sc} {j : Nat} {k : Int} (hj : j < scs.length) (ht : t.w = scs[j].w) : pw (scs.set j t) k = pw scs k := by
  unfold pw
  by_cases h0 : k < 0
  · rw [if_pos h0, if_pos h0]
  · rw [if_neg h0, if_neg h0]
    by_cases hk : k.toNat < scs.length
    · rw [getD_at (by simpa using hk), getD_at hk, List.getElem_set]
      by_cases e : j = k.toNat
      · subst e; rw [if_pos rfl]; exact ht
      · rw [if_neg e]
    · rw [List.getD, List.getD, List.getElem?_eq_none (by simp; omega), List.getElem?_eq_none (by omega)]

theorem Model.keep {m m' : Mem} {scs : List Sc} (M : Model m scs) (hn : ∀ k, (m.seg k).n ≤ 64) (kp : Keep m m') : Model m' scs :=
  ⟨fun k h => ⟨(M.each k h).par, (M.each k h).thing.keep hn kp, (M.each k h).len⟩, M.sep⟩
theorem Model.nil {m : Mem} : Model m [] := ⟨fun k h => by simp at h, fun j k hj => by simp at hj⟩
/-- one more -/
theorem Model.snoc {m m' : Mem} {scs : List Sc} (M : Model m scs) (hn : ∀ k, (m.seg k).n ≤ 64) {t : Sc} (hm : Made m m' t.w (t.ws.length + 1)) (ht : Thing m' t.w 7 0 (pw scs t.parent :: t.ws)) (hp : -1 ≤ t.parent ∧ t.parent < scs.length) (hl : t.n = t.ws.length ∧ t.ws.length ≤ 50) : Model m' (scs ++ [t]) := by
  have M' := M.keep hn hm.keep
  refine ⟨fun k h => ?_, fun j k hj hk hjk => ?_⟩
  · by_cases hk : k < scs.length
    · rw [List.getElem_append_left hk]
      have := M'.each k hk
      exact ⟨this.par, by rw [pw_append (by have := this.par; omega)]; exact this.thing, this.len⟩
    · have hk' : k = scs.length := by simp at h; omega
      subst hk'
      rw [List.getElem_append_right (Nat.le_refl _)]
      simp only [Nat.sub_self, List.getElem_cons_zero]
      exact ⟨hp, by rw [pw_append hp.2]; exact ht, hl⟩
  · have sep1 : ∀ (j : Nat) (hj : j < scs.length), Sep scs[j].w (scs[j].ws.length + 1) t.w (t.ws.length + 1) := fun j hj => by
      have := hm.sep hn (M.each j hj).thing
      simpa using this
    by_cases h1 : j < scs.length <;> by_cases h2 : k < scs.length
    · rw [List.getElem_append_left h1, List.getElem_append_left h2]; exact M.sep j k h1 h2 hjk
    · have hk' : k = scs.length := by simp at hk; omega
      subst hk'
      rw [List.getElem_append_left h1, List.getElem_append_right (Nat.le_refl _)]
      simp only [Nat.sub_self, List.getElem_cons_zero]
      exact sep1 j h1
    · have hj' : j = scs.length := by simp at hj; omega
      subst hj'
      rw [List.getElem_append_left h2, List.getElem_append_right (Nat.le_refl _)]
      simp only [Nat.sub_self, List.getElem_cons_zero]
      exact (sep1 k h2).symm
    · simp at hj hk; omega

/-- one environment up -/
theorem Model.aboveS {m : Mem} {scs : List Sc} (M : Model m scs) {k : Int} (h0 : 0 ≤ k) (hk : k.toNat < scs.length) (n : Nat) : m.aboveN (n + 1) (pw scs k) = m.aboveN n (pw scs scs[k.toNat].parent) := by
  rw [pw_at h0 hk]
  exact (M.each _ hk).thing.aboveS n
theorem Model.above0 {m : Mem} {scs : List Sc} (M : Model m scs) {k : Int} (h0 : 0 ≤ k) (hk : k.toNat < scs.length) : m.aboveN 0 (pw scs k) = (pw scs k, 0) := by
  rw [pw_at h0 hk]
  exact (M.each _ hk).thing.above0
/-- there are no more than so many -/
theorem Model.deep {m : Mem} {scs : List Sc} (M : Model m scs) : ∀ (d : Nat) (k : Int), k < d → k < scs.length → ∀ n : Nat, (d : Int) ≤ n → m.aboveN n (pw scs k) = (0, 3)
  | 0, k, hk, _, n, _ => by rw [pw_neg (by omega)]; exact above_nil n
  | d + 1, k, hk, hl, n, hn => by
    by_cases h0 : k < 0
    · rw [pw_neg h0]; exact above_nil n
    · have hkl : k.toNat < scs.length := by omega
      have hp := (M.each _ hkl).par
      obtain ⟨n', rfl⟩ : ∃ n', n = n' + 1 := ⟨n - 1, by omega⟩
      rw [M.aboveS (by omega) hkl]
      exact M.deep d _ (by omega) (by omega) n' (by omega)

/-- a value of one is set -/
theorem Model.set {m : Mem} {scs : List Sc} (M : Model m scs) (ok : MemOK m) {j i : Nat} (hj : j < scs.length) (hi : i < scs[j].ws.length) {v : Int} :
    Model (m.store (scs[j].w / 8 + 1 + ((i + 1 : Nat) : Int)) v).1 (scs.set j (scs[j].setW i v)) := by
  have hj' := (M.each j hj)
  have e1 := hj'.thing.set ok (i := i + 1) (v := v) (by simp; omega)
  rw [List.set_cons_succ] at e1
  refine ⟨fun k h => ?_, fun a c ha hc hac => ?_⟩
  · rw [List.length_set] at h
    rw [List.getElem_set]
    by_cases e : j = k
    · subst e
      rw [if_pos rfl]
      exact ⟨hj'.par, by rw [pw_set (t := scs[j].setW i v) hj rfl]; exact e1, by show scs[j].n = (scs[j].ws.set i v).length ∧ (scs[j].ws.set i v).length ≤ 50; rw [List.length_set]; exact hj'.len⟩
    · rw [if_neg e]
      have hk := M.each k h
      refine ⟨hk.par, ?_, hk.len⟩
      rw [pw_set (t := scs[j].setW i v) hj rfl]
      have hs := M.sep k j h hj (fun h => e h.symm)
      exact hk.thing.setOther hj'.thing ok (i := i + 1) (by simp; omega) (by simpa using hs)
  · rw [List.length_set] at ha hc
    have key : ∀ (k : Nat) (hk : k < scs.length), ((scs.set j (scs[j].setW i v))[k]'(by simpa using hk)).w = scs[k].w ∧ ((scs.set j (scs[j].setW i v))[k]'(by simpa using hk)).ws.length = scs[k].ws.length := fun k hk => by
      rw [List.getElem_set]
      by_cases e : j = k
      · subst e; rw [if_pos rfl]; exact ⟨rfl, by simp [Sc.setW]⟩
      · rw [if_neg e]; exact ⟨rfl, rfl⟩
    rw [(key a ha).1, (key a ha).2, (key c hc).1, (key c hc).2]
    exact M.sep a c ha hc hac

/-! ### The list on the heap -/
structure All (H0 H : Array Obj) (b : Blk) (p : Option Addr) (n c : Nat) (scs : List Sc) (T TW : TypeId) : Prop where
  own : Own H T 3 p n c (scs.flatMap Sc.cells)
  young : ∀ q, q ∈ blks p → H0.size ≤ q ∧ q ∉ b.all
  each : ∀ s ∈ scs, Own H TW 1 s.p s.n s.c (wvs s.ws) ∧ ∀ q, q ∈ blks s.p → H0.size ≤ q ∧ q ∉ b.all ∧ q ∉ blks p
  apart : scs.Pairwise fun s t => ∀ q, q ∈ blks s.p → q ∉ blks t.p
theorem flat_at : ∀ (scs : List Sc) (k j : Nat) (hk : k < scs.length), j < 3 → (scs.flatMap Sc.cells)[k * 3 + j]? = scs[k].cells[j]?
  | s :: scs, 0, j, _, hj => by
    simp only [List.flatMap_cons, Nat.zero_mul, Nat.zero_add, List.getElem_cons_zero]
    rw [List.getElem?_append_left (by simp [Sc.cells]; omega)]
  | s :: scs, k + 1, j, hk, hj => by
    simp only [List.flatMap_cons, List.getElem_cons_succ]
    rw [List.getElem?_append_right (by simp [Sc.cells]; omega)]
    have := flat_at scs k j (by simpa using hk) hj
    rw [show (k + 1) * 3 + j - s.cells.length = k * 3 + j by simp [Sc.cells]; omega]
    exact this
theorem flat_len (scs : List Sc) : (scs.flatMap Sc.cells).length = scs.length * 3 := by
  induction scs with
  | nil => rfl
  | cons s scs ih => simp only [List.flatMap_cons, List.length_append, List.length_cons, ih]; simp [Sc.cells]; omega
theorem All.len {H0 H : Array Obj} {b : Blk} {p : Option Addr} {n c : Nat} {scs : List Sc} {T TW : TypeId} (h : All H0 H b p n c scs T TW) : n = scs.length := by
  have := h.own.len
  rw [flat_len] at this
  omega
theorem All.at {H0 H : Array Obj} {b : Blk} {p : Option Addr} {n c : Nat} {scs : List Sc} {T TW : TypeId} (h : All H0 H b p n c scs T TW) {k : Nat} (hk : k < scs.length) :
    ∃ bl, p = some ⟨bl, 0, none⟩ ∧ hat H ⟨bl, k * 3, none⟩ = some (.int .u64 scs[k].w) ∧ hat H ⟨bl, k * 3 + 1, none⟩ = some (.int .i64 scs[k].parent) ∧ hat H ⟨bl, k * 3 + 2, none⟩ = some (.slice scs[k].p scs[k].n scs[k].c) := by
  have h0 := h.own.at (j := k * 3 + 0) (v := .int .u64 scs[k].w) (by rw [flat_at scs k 0 hk (by omega)]; rfl)
  have h1 := h.own.at (j := k * 3 + 1) (v := .int .i64 scs[k].parent) (by rw [flat_at scs k 1 hk (by omega)]; rfl)
  have h2 := h.own.at (j := k * 3 + 2) (v := .slice scs[k].p scs[k].n scs[k].c) (by rw [flat_at scs k 2 hk (by omega)]; rfl)
  obtain ⟨a, rfl, h0⟩ := h0
  obtain ⟨a', ha', h1⟩ := h1
  cases ha'
  obtain ⟨a', ha', h2⟩ := h2
  cases ha'
  obtain ⟨ha, _⟩ := h.own
  rw [ha] at h0 h1 h2
  rw [addr_add_mk] at h0 h1 h2
  simp only [Nat.zero_add, Nat.add_zero] at h0 h1 h2
  exact ⟨a.block, by rw [← ha], h0, h1, h2⟩
theorem All.keep {S : List Nat} {H0 H H' : Array Obj} {b : Blk} {p : Option Addr} {n c : Nat} {scs : List Sc} {T TW : TypeId} (h : All H0 H b p n c scs T TW) (f : Fr S H H') (h1 : ∀ q, q ∈ blks p → q ∉ S) (h2 : ∀ s ∈ scs, ∀ q, q ∈ blks s.p → q ∉ S) : All H0 H' b p n c scs T TW :=
  ⟨h.own.keep f h1, h.young, fun s hs => ⟨(h.each s hs).1.keep f (h2 s hs), (h.each s hs).2⟩, h.apart⟩
theorem All.grow {H0 H H' : Array Obj} {b : Blk} {p : Option Addr} {n c : Nat} {scs : List Sc} {T TW : TypeId} (h : All H0 H b p n c scs T TW) (e : Ext H H') : All H0 H' b p n c scs T TW :=
  h.keep (S := []) e.fr (fun _ _ => by simp) (fun _ _ _ _ => by simp)
/-- the heap alone is changed -/
theorem All.heap {H0 H H' : Array Obj} {b : Blk} {p : Option Addr} {n c : Nat} {scs : List Sc} {T TW : TypeId} (h : All H0 H b p n c scs T TW) (f : Fr b.all H H') : All H0 H' b p n c scs T TW :=
  h.keep f (fun q hq => (h.young q hq).2) (fun s hs q hq => ((h.each s hs).2 q hq).2.1)
/-- a value of an entry is written -/
theorem All.put {H0 H : Array Obj} {b : Blk} {p : Option Addr} {n c : Nat} {scs : List Sc} {T TW : TypeId} (h : All H0 H b p n c scs T TW) {j i : Nat} (hj : j < scs.length) (hi : i < scs[j].ws.length) {v : Int} :
    ∃ bl, scs[j].p = some ⟨bl, 0, none⟩ ∧ CanPuts H ⟨bl, i, none⟩ 0 1 ∧ All H0 (hputs H ⟨bl, i, none⟩ [.int .u64 v] 0) b p n c (scs.set j (scs[j].setW i v)) T TW ∧ Fr [bl] H (hputs H ⟨bl, i, none⟩ [.int .u64 v] 0) ∧ H0.size ≤ bl ∧ bl ∉ b.all := by
  obtain ⟨ho, hy⟩ := h.each _ (List.getElem_mem hj)
  have hlen := ho.len
  simp only [List.length_map, Nat.mul_one] at hlen
  cases hp : scs[j].p with
  | none => rw [hp] at ho; obtain ⟨_, _, h3⟩ := ho; simp at h3; rw [h3] at hi; simp at hi
  | some a =>
    rw [hp] at ho hy
    have ho' := ho
    obtain ⟨ha, cs, hb, hs, hn, hl, hc⟩ := ho
    have hyb := hy a.block (by simp)
    have hsz : i < cs.size := by rw [hs]; omega
    refine ⟨a.block, by rw [← ha], canPuts_blk hb _ _ _ (by omega), ?_⟩
    rw [hputs_blk _ H cs _ 0 hb]
    have hfr : Fr [a.block] H (setBlk H a.block (.cells (splice cs (i + 0) [.int .u64 v]) TW (0, 0))) := Fr.set
    have hne : ∀ (k : Nat) (hk : k < scs.length), k ≠ j → ∀ q, q ∈ blks scs[k].p → q ∉ [a.block] := fun k hk hkj q hq hqa => by
      simp at hqa
      subst hqa
      rcases Nat.lt_or_gt_of_ne hkj with hlt | hgt
      · exact List.pairwise_iff_getElem.1 h.apart k j hk hj hlt _ hq (by rw [hp]; simp)
      · exact List.pairwise_iff_getElem.1 h.apart j k hj hk hgt a.block (by rw [hp]; simp) hq
    have hcells : (scs.set j (scs[j].setW i v)).flatMap Sc.cells = scs.flatMap Sc.cells := by
      have : ∀ (l : List Sc) (j : Nat) (t : Sc) (hj : j < l.length), t.cells = l[j].cells → (l.set j t).flatMap Sc.cells = l.flatMap Sc.cells := by
        intro l
        induction l with
        | nil => intro j t hj; simp at hj
        | cons s l ih =>
          intro j t hj ht
          cases j with
          | zero => simp only [List.set_cons_zero, List.flatMap_cons]; rw [ht]; rfl
          | succ j => simp only [List.set_cons_succ, List.flatMap_cons]; rw [ih j t (by simpa using hj) ht]
      exact this scs j _ hj rfl
    refine ⟨⟨?_, h.young, fun s hs' => ?_, ?_⟩, hfr, hyb.1, hyb.2.1⟩
    · rw [hcells]; exact h.own.keep hfr (fun q hq hqa => by simp at hqa; subst hqa; exact hyb.2.2 hq)
    · obtain ⟨k, hk, rfl⟩ := List.getElem_of_mem hs'
      rw [List.length_set] at hk
      rw [List.getElem_set]
      by_cases e : j = k
      · subst e
        rw [if_pos rfl]
        refine ⟨?_, fun q hq => hy q (by rw [← hp]; exact hq)⟩
        show Own _ TW 1 scs[j].p scs[j].n scs[j].c (wvs (scs[j].ws.set i v))
        rw [hp]
        refine ⟨ha, _, setBlk_get (lt_size hb), by rw [splice_size]; exact hs, hn, by simpa using hl, fun q hq => ?_⟩
        by_cases hqi : q = i
        · subst hqi
          have := splice_get_in cs [.int .u64 v] (q + 0) 0 (by simp; omega) (by simp)
          simp only [Nat.add_zero, List.getElem?_cons_zero] at this
          rw [Nat.add_zero, this]
          simp [wvs, hi]
        · have hv : (wvs (scs[j].ws.set i v))[q]? = (wvs scs[j].ws)[q]? := by
            simp only [wvs, List.getElem?_map]
            rw [List.getElem?_set_ne (by omega)]
          rw [hv, ← hc q hq]
          rcases Nat.lt_or_ge q i with h1 | h1
          · exact splice_get_lt _ _ _ _ (by omega)
          · exact splice_get_ge _ _ _ _ (by simp; omega)
      · rw [if_neg e]
        have hk' := h.each _ (List.getElem_mem hk)
        exact ⟨hk'.1.keep hfr (hne k hk (fun h => e h.symm)), hk'.2⟩
    · rw [List.pairwise_iff_getElem]
      intro x y hx hy' hxy
      rw [List.length_set] at hx hy'
      have := List.pairwise_iff_getElem.1 h.apart x y hx hy' hxy
      have key : ∀ (k : Nat) (hk : k < scs.length), ((scs.set j (scs[j].setW i v))[k]'(by simpa using hk)).p = scs[k].p := fun k hk => by
        rw [List.getElem_set]
        by_cases e : j = k
        · subst e; rw [if_pos rfl]; rfl
        · rw [if_neg e]
      rw [key x hx, key y hy']
      exact this
end Go.Proofs.Ytfohlkiikppefaa
