/-
  Things of an abstract memory: what is made stays, with its words, whatever is made behind it; what is set is set. Proves nothing of any one statement.
-/
import Derived.Test.YthlohokmnajpoaaGreatDoorPut
set_option linter.unusedVariables false
set_option linter.unusedSimpArgs false
namespace Go.Proofs.YthlohokmnajpoaaGreatDoor
open Go

structure Keep (m m' : Mem) : Prop where
  limit : m'.limit = m.limit
  used : ∀ a, m.used a → m'.used a ∧ m'.get a = m.get a ∧ (m'.seg (a / 64).toNat).kind = (m.seg (a / 64).toNat).kind ∧ (m'.seg (a / 64).toNat).gen = (m.seg (a / 64).toNat).gen ∧ (m.seg (a / 64).toNat).n ≤ (m'.seg (a / 64).toNat).n
theorem Keep.refl (m : Mem) : Keep m m := ⟨rfl, fun a h => ⟨h, rfl, rfl, rfl, Int.le_refl _⟩⟩
theorem Keep.trans {a b c : Mem} (h : Keep a b) (k : Keep b c) : Keep a c :=
  ⟨k.limit.trans h.limit, fun x hx => by
    obtain ⟨h1, h2, h3, h4, h5⟩ := h.used x hx
    obtain ⟨k1, k2, k3, k4, k5⟩ := k.used x h1
    exact ⟨k1, k2.trans h2, k3.trans h3, k4.trans h4, Int.le_trans h5 k5⟩⟩

structure Thing (m : Mem) (w kind more : Int) (ws : List Int) : Prop where
  word : IsWord w
  obj : m.isObj w
  kindEq : hk (m.get (w / 8)) = kind
  lenEq : hn (m.get (w / 8)) = ws.length
  moreEq : hm (m.get (w / 8)) = more
  get : ∀ (i : Nat) (h : i < ws.length), m.get (w / 8 + 1 + i) = ws[i]
theorem Thing.typ {m : Mem} {w kind more : Int} {ws : List Int} (h : Thing m w kind more ws) : m.typ w = kind := by unfold Mem.typ; rw [if_pos h.obj]; exact h.kindEq
theorem Thing.len {m : Mem} {w kind more : Int} {ws : List Int} (h : Thing m w kind more ws) : m.len w = ws.length := by unfold Mem.len; rw [if_pos h.obj]; exact h.lenEq
theorem Thing.le62 {m : Mem} {w kind more : Int} {ws : List Int} (h : Thing m w kind more ws) : ws.length ≤ 62 := by have := h.obj.len_lt; rw [h.lenEq] at this; omega
theorem Thing.field_in {m : Mem} {w kind more : Int} {ws : List Int} (h : Thing m w kind more ws) {i : Int} (hi : 0 ≤ i ∧ i < ws.length) : m.fieldE w kind i = 0 := by
  unfold Mem.fieldE
  rw [if_neg (by intro hh; rcases hh with hh | hh; · exact hh h.obj
                 · exact hh h.typ), if_neg (by rw [h.len]; omega)]
theorem nothing_typ {m : Mem} {w : Int} (h : ¬ m.isObj w) : m.typ w = 0 := by unfold Mem.typ; rw [if_neg h]
theorem noAddr {m : Mem} {w : Int} (h : ¬ w % 8 = 3) : ¬ m.isObj w := fun hh => h hh.1.2.1
theorem Thing.usedHead {m : Mem} {w kind more : Int} {ws : List Int} (h : Thing m w kind more ws) : m.used (w / 8) := h.obj.1.used h.word
theorem Thing.usedAt {m : Mem} {w kind more : Int} {ws : List Int} (h : Thing m w kind more ws) (hn : ∀ k, (m.seg k).n ≤ 64) {i : Nat} (hi : i < ws.length) : m.used (w / 8 + 1 + i) :=
  h.obj.used h.word (hn _) ⟨by omega, by rw [h.len]; omega⟩

theorem Thing.keep {m m' : Mem} {w kind more : Int} {ws : List Int} (h : Thing m w kind more ws) (hn : ∀ k, (m.seg k).n ≤ 64) (k : Keep m m') : Thing m' w kind more ws := by
  obtain ⟨u1, u2, u3, _, u5⟩ := k.used _ h.usedHead
  have ho := h.obj
  refine ⟨h.word, ⟨⟨ho.1.1, ho.1.2.1, u1.2.1, ?_, u1.2.2⟩, by rw [u2]; exact ho.2.1, ?_⟩, by rw [u2]; exact h.kindEq, by rw [u2]; exact h.lenEq, by rw [u2]; exact h.moreEq, fun i hi => ?_⟩
  · rw [u3, u2]; exact ho.1.2.2.2.1
  · rw [u2]; have := ho.2.2; omega
  · rw [(k.used _ (h.usedAt hn hi)).2.1]; exact h.get i hi

theorem Grown.lay {m m' : Mem} {a g k : Int} {ws : List Int} (gr : Grown m m' a ws.length g k) (ok : MemOK m) : Keep m (m'.sets a ws) ∧ (∀ x, 0 ≤ x → (m'.sets a ws).get x = if a ≤ x ∧ x < a + ws.length then ws.getD (x - a).toNat 0 else m'.get x) ∧ (∀ i : Nat, i < ws.length → (m'.sets a ws).used (a + i)) := by
  have sm := Same'.sets ws m' a
  obtain ⟨a0, a1, a2⟩ := gr.addr
  have hu : ∀ i : Nat, i < ws.length → m'.used (a + i) := fun i hi => by
    have e1 : (a + i) / 64 = a / 64 := by omega
    have e2 : (a + i) % 64 = a % 64 + i := by omega
    refine ⟨by omega, ?_, ?_⟩
    · rw [e1]; exact ⟨by omega, by rw [gr.limit]; exact a1, gr.new.1⟩
    · rw [e1, e2, gr.new.2.2.2]; omega
  have hget := fun x (hx : 0 ≤ x) => Mem.sets_get ws (m := m') (a := a) x hx a0 hu
  refine ⟨⟨sm.limit.trans gr.limit, fun x hx => ?_⟩, hget, fun i hi => sm.used.2 (hu i hi)⟩
  have x0 := hx.1
  have hseg := sm.seg (x / 64).toNat
  by_cases hj : (x / 64).toNat = (a / 64).toNat
  · have ht : (m.seg (a / 64).toNat).taken ≠ 0 := by rw [← hj]; exact hx.2.1.2.2
    obtain ⟨o1, o2, o3, o4, o5, o6⟩ := gr.old ht
    have hxn := hx.2.2
    rw [hj, o3] at hxn
    have hxa : x < a := by omega
    refine ⟨sm.used.2 ⟨x0, ⟨hx.2.1.1, by rw [gr.limit]; exact hx.2.1.2.1, by rw [hj, o6]; exact ht⟩, by rw [hj, gr.new.2.2.2]; omega⟩, ?_, ?_, ?_, ?_⟩
    · rw [hget x x0, if_neg (by omega)]; unfold Mem.get; rw [hj, o4]
    · rw [hseg.2.1, hj, gr.new.2.2.1, o2]
    · rw [hseg.1, hj, gr.new.2.1, o1]
    · rw [hseg.2.2.1, hj, gr.new.2.2.2, o3]; omega
  · have ho := gr.others _ hj
    refine ⟨sm.used.2 ⟨x0, ⟨hx.2.1.1, by rw [gr.limit]; exact hx.2.1.2.1, by rw [ho]; exact hx.2.1.2.2⟩, by rw [ho]; exact hx.2.2⟩, ?_, ?_, ?_, ?_⟩
    · rw [hget x x0, if_neg (by omega)]; unfold Mem.get; rw [ho]
    · rw [hseg.2.1, ho]
    · rw [hseg.1, ho]
    · rw [hseg.2.2.1, ho]; omega

theorem Sp.put_ok {s : Sp} (ok : SpOK s) {kind tag : Int} {ws : List Int} (hm : may 0 kind ws.length) (ht : tag = 1 ∨ tag = 2 ∨ tag = 3 ∨ tag = 6) (hw : ∀ w ∈ ws, IsWord w) (hf : (s.alloc 0 kind ws.length).2.2 = 0) :
    ∃ a : Int, (s.put kind tag ws).2 = (a * 8 + tag, 0) ∧ Grown s.mem (s.alloc 0 kind ws.length).1.mem a ws.length 0 kind ∧ (s.put kind tag ws).1.mem = (s.alloc 0 kind ws.length).1.mem.sets a ws ∧ SpOK (s.put kind tag ws).1 ∧ a < 65536 ∧ (s.put kind tag ws).1.cur = (s.alloc 0 kind ws.length).1.cur := by
  obtain ⟨ok2, gr⟩ := Sp.alloc_ok ok hf
  have hl := ok.mem.lim
  obtain ⟨a0, a1, a2⟩ := gr.addr
  refine ⟨(s.alloc 0 kind ws.length).2.1, ?_, gr, ?_, ?_, by omega, ?_⟩
  · unfold Sp.put; rw [if_pos hf]; unfold atWord; rw [if_neg (fun hh => hh ht), if_pos (by omega)]
  · unfold Sp.put; rw [if_pos hf]
  · unfold Sp.put; rw [if_pos hf]; exact ok2.sets _ hw
  · unfold Sp.put; rw [if_pos hf]

structure Made (m m' : Mem) (w : Int) (n : Nat) : Prop where
  keep : Keep m m'
  free : m.free - 1 ≤ m'.free
  count : m'.count ≤ m.count + 1
  fresh : ∀ i : Nat, i ≤ n → ¬ m.used (w / 8 + i)

theorem head_parts {kind more : Int} {n : Nat} (hkd : 1 ≤ kind ∧ kind ≤ 13) (hmo : 0 ≤ more ∧ more < 281474976710656) (hn62 : n ≤ 62) :
    headOK (more * 65536 + n * 256 + kind * 8 + 5) ∧ hk (more * 65536 + n * 256 + kind * 8 + 5) = kind ∧ hn (more * 65536 + n * 256 + kind * 8 + 5) = n ∧ hm (more * 65536 + n * 256 + kind * 8 + 5) = more := by
  unfold headOK hk hn hm
  refine ⟨⟨by omega, by omega⟩, by omega, by omega, by omega⟩

theorem Sp.make_ok0 {s : Sp} (ok : SpOK s) {kind more : Int} {ws : List Int} (hkd : 1 ≤ kind ∧ kind ≤ 13) (hmo : 0 ≤ more ∧ more < 281474976710656) (hl : ws.length ≤ 62) (hw : ∀ w ∈ ws, IsWord w) (hal : (s.alloc 0 (rawK kind) ((ws.length + 1 : Nat) : Int)).2.2 = 0) :
    (s.make kind more ws).2.2 = 0 ∧ Thing (s.make kind more ws).1.mem (s.make kind more ws).2.1 kind more ws ∧ SpOK (s.make kind more ws).1 ∧ Made s.mem (s.make kind more ws).1.mem (s.make kind more ws).2.1 ws.length := by
  have hraw : rawK kind = 2 ∨ rawK kind = 3 := by unfold rawK; split <;> omega
  generalize hhd : more * 65536 + ws.length * 256 + kind * 8 + 5 = hd
  have hparts := head_parts hkd hmo hl
  rw [hhd] at hparts
  have hhw : IsWord hd := ⟨by omega, by omega⟩
  have em : s.make kind more ws = s.put (rawK kind) 3 (hd :: ws) := by
    unfold Sp.make; rw [if_neg (by intro hh; exact hh ⟨hkd, hmo.2⟩), if_neg (by omega), hhd]
  rw [em]
  have hall : ∀ w ∈ hd :: ws, IsWord w := fun w hw' => by
    rcases List.mem_cons.1 hw' with rfl | hw'
    · exact hhw
    · exact hw w hw'
  have hmay : may 0 (rawK kind) ((hd :: ws).length : Nat) := ⟨by omega, .inr ⟨hraw, by simp; omega, by simp; omega⟩⟩
  have hal : (s.alloc 0 (rawK kind) ((hd :: ws).length : Nat)).2.2 = 0 := hal
  obtain ⟨a, e1, gr, e2, ok2, a64, _⟩ := Sp.put_ok (tag := 3) ok hmay (by omega) hall hal
  obtain ⟨kp, hget, hused⟩ := gr.lay ok.mem
  rw [e1, e2]
  obtain ⟨a0, a1, a2⟩ := gr.addr
  have sm := Same'.sets (hd :: ws) (s.alloc 0 (rawK kind) ((hd :: ws).length : Nat)).1.mem a
  simp only [List.length_cons] at a2
  have ew : (a * 8 + 3) / 8 = a := by omega
  have g0 : ((s.alloc 0 (rawK kind) ((hd :: ws).length : Nat)).1.mem.sets a (hd :: ws)).get a = hd := by
    rw [hget a a0, if_pos ⟨by omega, by simp; omega⟩]; simp
  have hu0 := hused 0 (by simp)
  rw [show a + ((0 : Nat) : Int) = a by omega] at hu0
  refine ⟨rfl, ⟨⟨by omega, by omega⟩, ?_, ?_, ?_, ?_, fun i hi => ?_⟩, ok2, ⟨kp, ?_, ?_, ?_⟩⟩
  · unfold Mem.isObj
    rw [ew, g0, hparts.2.1, hparts.2.2.1]
    refine ⟨⟨⟨by omega, by omega⟩, by omega, ?_, ?_, ?_⟩, hparts.1, ?_⟩
    · rw [ew]; exact hu0.2.1
    · rw [ew, (sm.seg _).2.1, gr.new.2.2.1]
    · rw [ew]; exact hu0.2.2
    · rw [(sm.seg _).2.2.1, gr.new.2.2.2]; simp; omega
  · rw [ew, g0]; exact hparts.2.1
  · rw [ew, g0]; exact hparts.2.2.1
  · rw [ew, g0]; exact hparts.2.2.2
  · rw [ew, hget _ (by omega), if_pos ⟨by omega, by simp; omega⟩]
    rw [show (a + 1 + (i : Int) - a).toNat = i + 1 by omega]
    simp [hi]
  · rw [sm.free]; exact gr.free
  · rw [sm.count]; exact gr.count
  · rw [ew]
    intro i hi hu
    have e1 : (a + i) / 64 = a / 64 := by omega
    have e2 : (a + i) % 64 = a % 64 + i := by omega
    by_cases h0 : (s.mem.seg (a / 64).toNat).taken = 0
    · have := hu.2.1.2.2
      rw [e1] at this
      exact this h0
    · have h3 := (gr.old h0).2.2.1
      have h4 := hu.2.2
      rw [e1, e2] at h4
      omega

theorem Sp.make_ok {s : Sp} (ok : SpOK s) {kind more : Int} {ws : List Int} (hkd : 1 ≤ kind ∧ kind ≤ 13) (hmo : 0 ≤ more ∧ more < 281474976710656) (hl : ws.length ≤ 62) (hw : ∀ w ∈ ws, IsWord w) (hf : 1 ≤ s.mem.free) :
    (s.make kind more ws).2.2 = 0 ∧ Thing (s.make kind more ws).1.mem (s.make kind more ws).2.1 kind more ws ∧ SpOK (s.make kind more ws).1 ∧ Made s.mem (s.make kind more ws).1.mem (s.make kind more ws).2.1 ws.length :=
  Sp.make_ok0 ok hkd hmo hl hw (Sp.alloc_can ok ⟨by omega, .inr ⟨by unfold rawK; split <;> omega, by omega, by omega⟩⟩ hf)
theorem Mem.store_get {m : Mem} {a w : Int} (hu : m.used a) (x : Int) (hx : 0 ≤ x) : (m.store a w).1.get x = if x = a then w else m.get x := by
  have e : m.store a w = (m.set a w).mark (a / 64) (a % 64 / 16) ((m.set a w).younger ((m.set a w).seg (a / 64).toNat) w (((m.set a w).seg (a / 64).toNat).cards (a % 64 / 16).toNat)) := by unfold Mem.store; rw [if_pos hu]
  rw [e, ← Mem.set_get (m := m) x hx hu.1]
  unfold Mem.get
  rw [(Mem.mark_seg _).2.2.2]
theorem Mem.store_used {m : Mem} {a w x : Int} : (m.store a w).1.used x ↔ m.used x := by
  unfold Mem.used
  rw [Mem.store_has, (Mem.store_seg _).2.2]
theorem MemOK.genOf {m : Mem} (ok : MemOK m) (w : Int) : 0 ≤ (m.genOf w).1 := by
  unfold Mem.genOf
  split
  · simp only
    split
    · exact (ok.seg _).gen.1
    · exact Int.le_refl _
  · exact Int.le_refl _
def Sep (w : Int) (n : Nat) (w' : Int) (n' : Nat) : Prop := ∀ i j : Nat, i ≤ n → j ≤ n' → w / 8 + i ≠ w' / 8 + j
theorem Sep.symm {w w' : Int} {n n' : Nat} (h : Sep w n w' n') : Sep w' n' w n := fun i j hi hj e => h j i hj hi e.symm
theorem Thing.usedAll {m : Mem} {w kind more : Int} {ws : List Int} (h : Thing m w kind more ws) (hn : ∀ k, (m.seg k).n ≤ 64) {i : Nat} (hi : i ≤ ws.length) : m.used (w / 8 + i) := by
  by_cases h0 : i = 0
  · subst h0; have := h.usedHead; simpa using this
  · have := h.usedAt hn (i := i - 1) (by omega)
    rw [show w / 8 + 1 + ((i - 1 : Nat) : Int) = w / 8 + i by omega] at this
    exact this
theorem Made.sep {m m' : Mem} {w : Int} {n : Nat} (h : Made m m' w n) (hn : ∀ k, (m.seg k).n ≤ 64) {w' kind' more' : Int} {ws' : List Int} (t : Thing m w' kind' more' ws') : Sep w' ws'.length w n := fun i j hi hj e => h.fresh j hj (by rw [← e]; exact t.usedAll hn hi)

theorem Thing.set {m : Mem} {w kind more v : Int} {ws : List Int} (h : Thing m w kind more ws) (ok : MemOK m) {i : Nat} (hi : i < ws.length) : Thing (m.store (w / 8 + 1 + i) v).1 w kind more (ws.set i v) := by
  have hn64 : ∀ k, (m.seg k).n ≤ 64 := fun k => (ok.seg k).n.2
  have hu := h.usedAt hn64 hi
  have w0 : 0 ≤ w / 8 := by have := h.word.1; omega
  have ho := h.obj
  have e0 : (m.store (w / 8 + 1 + i) v).1.get (w / 8) = m.get (w / 8) := by rw [Mem.store_get hu _ w0, if_neg (by omega)]
  refine ⟨h.word, ⟨⟨ho.1.1, ho.1.2.1, Mem.store_has.2 ho.1.2.2.1, ?_, ?_⟩, by rw [e0]; exact ho.2.1, ?_⟩, by rw [e0]; exact h.kindEq, by rw [e0, List.length_set]; exact h.lenEq, by rw [e0]; exact h.moreEq, fun j hj => ?_⟩
  · rw [e0, (Mem.store_seg _).2.1]; exact ho.1.2.2.2.1
  · rw [(Mem.store_seg _).2.2]; exact ho.1.2.2.2.2
  · rw [e0, (Mem.store_seg _).2.2]; exact ho.2.2
  · rw [List.length_set] at hj
    rw [Mem.store_get hu _ (by omega), List.getElem_set]
    by_cases hij : i = j
    · subst hij; rw [if_pos rfl, if_pos rfl]
    · rw [if_neg (by omega), if_neg hij]; exact h.get j hj
end Go.Proofs.YthlohokmnajpoaaGreatDoor
