/- Things that were made, and slices that tell of them: for the law ObjKeeps. Proves nothing of any one statement. -/
import Derived.Test.YtfohlkiikppefaaHelp10
import Derived.Test.YtfohlkiikppefaaLaws10
set_option linter.unusedVariables false
set_option linter.unusedSimpArgs false
namespace Go.Proofs.Ytfohlkiikppefaa.objKeeps
open Go Go.Proofs.Ytfohlkiikppefaa
open Go.ChangeShapes Go.WideShapes Go.ChangeAt Go.RowKit

/-! ### The things that were made -/
structure TH where
  w : Int
  kind : Int
  p : Option Addr
  c : Nat
  ws : List Int
abbrev TH.cells (t : TH) : List Value := [.int .u64 t.w, .int .i64 t.kind, .slice t.p t.ws.length t.c]
theorem TH.cells_len (t : TH) : t.cells.length = 3 := rfl
def TH.n (t : TH) : Nat := if t.kind = 0 then 1 else t.ws.length
def Holds (m : Mem) (t : TH) : Prop := (t.kind = 0 ∧ ∃ tag a d, t.ws = [a, d] ∧ Pr m t.w tag a d) ∨ (t.kind ≠ 0 ∧ ∃ more, Thing m t.w t.kind more t.ws)
theorem Holds.word {m : Mem} {t : TH} (h : Holds m t) : IsWord t.w := by
  rcases h with ⟨_, _, _, _, _, h⟩ | ⟨_, _, h⟩
  · exact h.word
  · exact h.word
theorem Holds.keep {m m' : Mem} {t : TH} (h : Holds m t) (hn : ∀ k, (m.seg k).n ≤ 64) (k : Keep m m') : Holds m' t := by
  rcases h with ⟨h1, tag, a, d, h2, h⟩ | ⟨h1, more, h⟩
  · exact .inl ⟨h1, tag, a, d, h2, h.keep k⟩
  · exact .inr ⟨h1, more, h.keep hn k⟩
theorem Holds.used {m : Mem} {t : TH} (h : Holds m t) (hn : ∀ k, (m.seg k).n ≤ 64) {i : Nat} (hi : i ≤ t.n) : m.used (t.w / 8 + i) := by
  unfold TH.n at hi
  rcases h with ⟨h1, tag, a, d, h2, h⟩ | ⟨h1, more, h⟩
  · rw [if_pos h1] at hi; exact h.usedAll hi
  · rw [if_neg h1] at hi; exact h.usedAll hn hi
theorem Holds.sep {m m' : Mem} {t : TH} {w : Int} {n : Nat} (h : Holds m t) (hn : ∀ k, (m.seg k).n ≤ 64) (md : Made m m' w n) : Sep t.w t.n w n := fun i j hi hj e => md.fresh j hj (by rw [← e]; exact h.used hn hi)
theorem Sep.ne {w w' : Int} {n n' : Nat} (h : Sep w n w' n') : w ≠ w' := fun e => h 0 0 (Nat.zero_le _) (Nat.zero_le _) (by rw [e])
/-- a word far from a thing was set -/
theorem Holds.setFar {m : Mem} {t : TH} {x v : Int} (h : Holds m t) (hu : m.used x) (hd : ∀ j : Nat, j ≤ t.n → t.w / 8 + j ≠ x) : Holds (m.store x v).1 t := by
  unfold TH.n at hd
  rcases h with ⟨h1, tag, a, d, h2, h⟩ | ⟨h1, more, h⟩
  · rw [if_pos h1] at hd
    refine .inl ⟨h1, tag, a, d, h2, h.setOther hu ?_ ?_⟩
    · have := hd 0 (by omega); intro e; exact this (by omega)
    · have := hd 1 (by omega); intro e; exact this (by omega)
  · rw [if_neg h1] at hd
    exact .inr ⟨h1, more, h.setFar hu hd⟩

/-- the heap's side -/
structure InvH (x : Hp) (ts : List TH) : Prop where
  even : x.sp.mem.Even
  th : ∀ t ∈ ts, Holds x.sp.mem t
  wds : ∀ t ∈ ts, ∀ w ∈ t.ws, IsWord w
  sep : ts.Pairwise (fun t u => Sep t.w t.n u.w u.n)
/-- the slices' side -/
structure InvS (H0 H : Array Obj) (b : Blk) (mp : Option Addr) (mn mc : Nat) (ap : Option Addr) (an ac : Nat) (ts : List TH) : Prop where
  made : Own H 29 1 mp mn mc (wvs (ts.map TH.w))
  all : Own H 75 3 ap an ac (ts.flatMap TH.cells)
  ls : ∀ t ∈ ts, Own H 29 1 t.p t.ws.length t.c (wvs t.ws)
  ym : ∀ i ∈ blks mp, H0.size ≤ i ∧ i ∉ b.all ∧ i ∉ blks ap ∧ ∀ t ∈ ts, i ∉ blks t.p
  ya : ∀ i ∈ blks ap, H0.size ≤ i ∧ i ∉ b.all ∧ ∀ t ∈ ts, i ∉ blks t.p
  yt : ∀ t ∈ ts, ∀ i ∈ blks t.p, H0.size ≤ i ∧ i ∉ b.all
  tt : ts.Pairwise (fun t u => ∀ i ∈ blks t.p, i ∉ blks u.p)
theorem InvS.fr {H0 H H' : Array Obj} {b : Blk} {mp ap : Option Addr} {mn mc an ac : Nat} {ts : List TH} {S : List Nat} (h : InvS H0 H b mp mn mc ap an ac ts) (f : Fr S H H') (hS : ∀ i ∈ S, i ∈ b.all ∨ H.size ≤ i) : InvS H0 H' b mp mn mc ap an ac ts := by
  have no : ∀ {T : TypeId} {sz n c : Nat} {p : Option Addr} {xs : List Value}, Own H T sz p n c xs → (∀ i ∈ blks p, i ∉ b.all) → Own H' T sz p n c xs := fun ho hb =>
    ho.keep f (fun i hi his => by rcases hS i his with h | h; · exact hb i hi h
                                  · have := ho.lt i hi; omega)
  exact ⟨no h.made (fun i hi => (h.ym i hi).2.1), no h.all (fun i hi => (h.ya i hi).2.1), fun t ht => no (h.ls t ht) (fun i hi => (h.yt t ht i hi).2), h.ym, h.ya, h.yt, h.tt⟩
theorem InvS.ext {H0 H H' : Array Obj} {b : Blk} {mp ap : Option Addr} {mn mc an ac : Nat} {ts : List TH} (h : InvS H0 H b mp mn mc ap an ac ts) (e : Ext H H') : InvS H0 H' b mp mn mc ap an ac ts := h.fr (S := []) e.fr (by simp)
theorem InvS.an {H0 H : Array Obj} {b : Blk} {mp ap : Option Addr} {mn mc an ac : Nat} {ts : List TH} (h : InvS H0 H b mp mn mc ap an ac ts) : an = ts.length := by
  have h1 := h.all.len
  rw [flat_len (sz := 3) TH.cells_len] at h1
  omega
theorem InvS.mn {H0 H : Array Obj} {b : Blk} {mp ap : Option Addr} {mn mc an ac : Nat} {ts : List TH} (h : InvS H0 H b mp mn mc ap an ac ts) : mn = ts.length := by
  have h1 := h.made.len
  simp [wvs] at h1
  omega
/-- a word of one slice is set -/
theorem InvS.set {H0 H : Array Obj} {b : Blk} {mp ap : Option Addr} {mn mc an ac : Nat} {ts : List TH} (h : InvS H0 H b mp mn mc ap an ac ts) {k i : Nat} (hk : k < ts.length) (hi : i < ts[k].ws.length) (v : Int) :
    ∃ a, ts[k].p = some a ∧ CanPuts H (a.add i) 0 1 ∧ ∀ H', H' = hputs H (a.add i) [.int .u64 v] 0 → InvS H0 H' b mp mn mc ap an ac (ts.set k { ts[k] with ws := ts[k].ws.set i v }) ∧ Fr [a.block] H H' ∧ H0.size ≤ a.block ∧ a.block ∉ b.all ∧ a.block < H.size := by
  have hm : ts[k] ∈ ts := List.getElem_mem _
  have ho := h.ls _ hm
  generalize ht : ts[k] = t at *
  cases hp : t.p with
  | none => rw [hp] at ho; obtain ⟨h1, _, _⟩ := ho; omega
  | some a =>
    rw [hp] at ho
    obtain ⟨h1, h2⟩ := ho.put (i := i) hi (.int .u64 v)
    have hab := h.yt t hm a.block (by rw [hp]; simp)
    refine ⟨a, rfl, h1, fun H' hH' => ?_⟩
    obtain ⟨h3, h4⟩ := h2 H' hH'
    have hlt := ho.lt a.block (by simp)
    have e3 : (wvs t.ws).set i (.int .u64 v) = wvs (t.ws.set i v) := by simp [wvs, List.map_set]
    rw [e3] at h3
    have no : ∀ {T : TypeId} {sz n c : Nat} {p : Option Addr} {xs : List Value}, Own H T sz p n c xs → a.block ∉ blks p → Own H' T sz p n c xs := fun ho hb => ho.keep h4 (fun i hi his => by simp at his; subst his; exact hb hi)
    have hmem : ∀ u ∈ ts.set k { t with ws := t.ws.set i v }, u = { t with ws := t.ws.set i v } ∨ (u ∈ ts ∧ a.block ∉ blks u.p) := fun u hu => by
      obtain ⟨j, hj, rfl⟩ := List.getElem_of_mem hu
      rw [List.length_set] at hj
      rw [List.getElem_set]
      by_cases hjk : k = j
      · rw [if_pos hjk]; exact .inl rfl
      · rw [if_neg hjk]
        refine .inr ⟨List.getElem_mem _, fun hb => ?_⟩
        have hpw := List.pairwise_iff_getElem.1 h.tt
        rcases Nat.lt_or_gt_of_ne hjk with hlt | hgt
        · have := hpw k j hk hj hlt a.block (by rw [ht, hp]; simp)
          exact this hb
        · have := hpw j k hj hk hgt a.block hb
          rw [ht, hp] at this
          exact this (by simp)
    have hps : ∀ u ∈ ts.set k { t with ws := t.ws.set i v }, ∃ u' ∈ ts, u'.p = u.p := fun u hu => by
      rcases hmem u hu with rfl | ⟨h, _⟩
      · exact ⟨t, hm, rfl⟩
      · exact ⟨u, h, rfl⟩
    refine ⟨⟨?_, ?_, fun u hu => ?_, fun j hj => ⟨(h.ym j hj).1, (h.ym j hj).2.1, (h.ym j hj).2.2.1, fun u hu => ?_⟩, fun j hj => ⟨(h.ya j hj).1, (h.ya j hj).2.1, fun u hu => ?_⟩, fun u hu => ?_, ?_⟩, h4, hab.1, hab.2, hlt⟩
    · have e : (ts.set k { t with ws := t.ws.set i v }).map TH.w = ts.map TH.w := by
        rw [List.map_set]
        refine List.ext_getElem (by simp) fun j h1 h2 => ?_
        rw [List.getElem_set]
        by_cases hjk : k = j
        · subst hjk; rw [if_pos rfl, List.getElem_map, ht]
        · rw [if_neg hjk]
      rw [e]
      exact no h.made (fun hb => (h.ym _ hb).2.2.2 t hm (by rw [hp]; simp))
    · have e : (ts.set k { t with ws := t.ws.set i v }).flatMap TH.cells = ts.flatMap TH.cells := by
        rw [List.flatMap_def, List.flatMap_def]
        congr 1
        rw [List.map_set]
        refine List.ext_getElem (by simp) fun j h1 h2 => ?_
        rw [List.getElem_set]
        by_cases hjk : k = j
        · subst hjk; rw [if_pos rfl, List.getElem_map, ht]; simp [TH.cells]
        · rw [if_neg hjk]
      rw [e]
      exact no h.all (fun hb => (h.ya _ hb).2.2 t hm (by rw [hp]; simp))
    · rcases hmem u hu with rfl | ⟨h5, h6⟩
      · rw [List.length_set]; rw [← hp] at h3; exact h3
      · exact no (h.ls u h5) h6
    · obtain ⟨u', h5, h6⟩ := hps u hu
      rw [← h6]; exact (h.ym j hj).2.2.2 u' h5
    · obtain ⟨u', h5, h6⟩ := hps u hu
      rw [← h6]; exact (h.ya j hj).2.2 u' h5
    · obtain ⟨u', h5, h6⟩ := hps u hu
      rw [← h6]; exact h.yt u' h5
    · refine List.pairwise_iff_getElem.2 fun j1 j2 h1 h2 hlt => ?_
      rw [List.length_set] at h1 h2
      have := List.pairwise_iff_getElem.1 h.tt j1 j2 h1 h2 hlt
      rw [List.getElem_set, List.getElem_set]
      by_cases e1 : k = j1
      · subst e1
        rw [if_pos rfl, if_neg (by omega)]
        rw [ht] at this; exact this
      · by_cases e2 : k = j2
        · subst e2
          rw [if_neg e1, if_pos rfl]
          rw [ht] at this; exact this
        · rw [if_neg e1, if_neg e2]; exact this

/-- a word of a thing is set, on the heap -/
theorem InvH.set {x : Hp} {ts : List TH} (h : InvH x ts) (ok : MemOK x.sp.mem) {k : Nat} (hk : k < ts.length) {i : Nat} {v a : Int} (hv : IsWord v) (hi : i < ts[k].ws.length)
    (ha : a = if ts[k].kind = 0 then ts[k].w / 8 + i else ts[k].w / 8 + 1 + i) :
    InvH (x.setMem (x.sp.mem.store a v).1) (ts.set k { ts[k] with ws := ts[k].ws.set i v }) := by
  have hm : ts[k] ∈ ts := List.getElem_mem _
  have hn64 : ∀ k, (x.sp.mem.seg k).n ≤ 64 := fun k => (ok.seg k).n.2
  have hT := h.th _ hm
  have hpw := List.pairwise_iff_getElem.1 h.sep
  have hapart : ∀ j (hj : j < ts.length), j ≠ k → Sep ts[j].w ts[j].n ts[k].w ts[k].n := fun j hj hne => by
    rcases Nat.lt_or_gt_of_ne hne with hlt | hgt
    · exact hpw j k hj hk hlt
    · exact (hpw k j hk hj hgt).symm
  have hw0 : ∀ u ∈ ts, 0 ≤ u.w / 8 := fun u hu => by have := (h.th u hu).word.1; omega
  generalize ht : ts[k] = t at *
  obtain ⟨j0, hj0, ea⟩ : ∃ j0 : Nat, j0 ≤ t.n ∧ a = t.w / 8 + j0 := by
    unfold TH.n
    by_cases hk0 : t.kind = 0
    · rw [if_pos hk0] at ha
      rcases hT with ⟨_, tag, c, d, e, _⟩ | ⟨hh, _⟩
      · rw [e] at hi; simp at hi; exact ⟨i, by rw [if_pos hk0]; omega, ha⟩
      · exact absurd hk0 hh
    · rw [if_neg hk0] at ha
      exact ⟨i + 1, by rw [if_neg hk0]; omega, by rw [ha]; omega⟩
  have hu : x.sp.mem.used a := by rw [ea]; exact hT.used hn64 hj0
  have hN : ({ t with ws := t.ws.set i v } : TH).n = t.n := by unfold TH.n; simp
  refine ⟨h.even.store _ _, fun u hu' => ?_, fun u hu' => ?_, ?_⟩
  · obtain ⟨j, hj, rfl⟩ := List.getElem_of_mem hu'
    rw [List.length_set] at hj
    rw [List.getElem_set]
    by_cases hjk : k = j
    · rw [if_pos hjk]
      rcases hT with ⟨hk0, tag, c, d, e, hp⟩ | ⟨hk0, more, hp⟩
      · rw [if_pos hk0] at ha
        rw [e] at hi
        simp at hi
        have hi01 : (i : Int) = 0 ∨ (i : Int) = 1 := by omega
        have hs := hp.set (v := v) ok hi01
        rw [← ha] at hs
        refine .inl ⟨hk0, tag, _, _, ?_, hs⟩
        show t.ws.set i v = _
        rw [e]
        have : i = 0 ∨ i = 1 := by omega
        rcases this with rfl | rfl <;> rfl
      · rw [if_neg hk0] at ha
        have hs := hp.set (v := v) ok (i := i) hi
        rw [← ha] at hs
        exact .inr ⟨hk0, more, hs⟩
    · rw [if_neg hjk]
      refine (h.th _ (List.getElem_mem hj)).setFar hu fun jj hjj e => ?_
      exact hapart j hj (fun e => hjk e.symm) jj j0 hjj hj0 (by rw [e, ea])
  · obtain ⟨j, hj, rfl⟩ := List.getElem_of_mem hu'
    rw [List.length_set] at hj
    rw [List.getElem_set]
    by_cases hjk : k = j
    · rw [if_pos hjk]
      intro w hw
      rcases List.mem_or_eq_of_mem_set hw with hw | rfl
      · exact h.wds t hm w hw
      · exact hv
    · rw [if_neg hjk]; exact h.wds _ (List.getElem_mem hj)
  · refine List.pairwise_iff_getElem.2 fun j1 j2 h1 h2 hlt => ?_
    rw [List.length_set] at h1 h2
    have := hpw j1 j2 h1 h2 hlt
    rw [List.getElem_set, List.getElem_set]
    by_cases e1 : k = j1
    · subst e1
      rw [if_pos rfl, if_neg (by omega), hN]
      rw [ht] at this; exact this
    · by_cases e2 : k = j2
      · subst e2
        rw [if_neg e1, if_pos rfl, hN]
        rw [ht] at this; exact this
      · rw [if_neg e1, if_neg e2]; exact this
end Go.Proofs.Ytfohlkiikppefaa.objKeeps
