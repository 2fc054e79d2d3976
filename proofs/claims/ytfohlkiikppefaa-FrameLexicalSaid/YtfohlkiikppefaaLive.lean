/-
  A heap of a law's own: what is made on it. Proves nothing of any one statement.
-/
import Derived.Test.YtfohlkiikppefaaFrame
namespace Go.Proofs.Ytfohlkiikppefaa
open Go
set_option linter.unusedVariables false

theorem View.inv {H : Array Obj} {hv : Option Addr} {b : Blk} {x : Hp} (V : View H hv (some (b, x))) : hv = some ⟨b.h, 0, none⟩ ∧ HpAt H b x ∧ SpOK x.sp := by
  cases V with
  | real h ok => exact ⟨rfl, h, ok⟩

/-- a heap that is younger than what was handed in -/
structure Live (H0 H : Array Obj) (b : Blk) (x : Hp) : Prop where
  at' : HpAt H b x
  ok : SpOK x.sp
  ext : Ext H0 H
  young : ∀ i, i ∈ b.all → H0.size ≤ i
theorem Live.view {H0 H : Array Obj} {b : Blk} {x : Hp} (h : Live H0 H b x) : View H (some ⟨b.h, 0, none⟩) (some (b, x)) := .real h.at' h.ok
theorem Live.grow {H0 H H' : Array Obj} {b : Blk} {x : Hp} (h : Live H0 H b x) (e : Ext H H') : Live H0 H' b x := ⟨h.at'.ext e, h.ok, h.ext.trans e, h.young⟩
theorem Live.step {H0 H H' : Array Obj} {b : Blk} {x x' : Hp} (h : Live H0 H b x) (V : View H' (some ⟨b.h, 0, none⟩) (some (b, x'))) (f : Fr (own (some (b, x))) H H') : Live H0 H' b x' := by
  obtain ⟨_, h', ok'⟩ := V.inv
  exact ⟨h', ok', h.ext.fr_trans f (fun i hi => h.young i (by simp [own] at hi; simp [Blk.all]; omega)), h.young⟩
/-- what else the law has stays -/
theorem Live.others {H H' : Array Obj} {b : Blk} {x : Hp} (f : Fr (own (some (b, x))) H H') : Fr b.all H H' := f.mono (fun i hi _ => by simp [own] at hi; simp [Blk.all]; omega)
theorem Live.n64 {H0 H : Array Obj} {b : Blk} {x : Hp} (h : Live H0 H b x) (k : Nat) : (x.sp.mem.seg k).n ≤ 64 := (h.ok.mem.seg k).n.2

theorem make_some (b : Blk) (x : Hp) (kind more : Int) (ws : List Int) : makeR (some (b, x)) kind more ws = (x.sp.make kind more ws).2 ∧ makeO (some (b, x)) kind more ws = some (b, { x with sp := (x.sp.make kind more ws).1 }) := by
  unfold makeR makeO Sp.make
  split
  · exact ⟨rfl, rfl⟩
  split
  · exact ⟨rfl, rfl⟩
  · exact ⟨rfl, rfl⟩

/-- what a thing that was made is -/
structure MadeAs (x x' : Hp) (w kind more : Int) (ws : List Int) : Prop where
  thing : Thing x'.sp.mem w kind more ws
  made : Made x.sp.mem x'.sp.mem w ws.length
theorem live_make {H0 H : Array Obj} {b : Blk} {x : Hp} (L : Live H0 H b x) {kind more : Int} {ws : List Int} (hkd : 1 ≤ kind ∧ kind ≤ 13) (hmo : 0 ≤ more ∧ more < 281474976710656) (hl : ws.length ≤ 62) (hw : ∀ w ∈ ws, IsWord w) (hf : 1 ≤ x.sp.mem.free) :
    ∃ (w : Int) (x' : Hp), makeR (some (b, x)) kind more ws = (w, 0) ∧ makeO (some (b, x)) kind more ws = some (b, x') ∧ MadeAs x x' w kind more ws := by
  obtain ⟨h1, h2, h3, h4⟩ := Sp.make_ok L.ok hkd hmo hl hw hf
  obtain ⟨e1, e2⟩ := make_some b x kind more ws
  exact ⟨_, _, by rw [e1, ← h1], e2, ⟨h2, h4⟩⟩
theorem live_Extend {H0 H : Array Obj} {b : Blk} {x : Hp} (L : Live H0 H b x) {lB : Option Addr} {lN lC : Nat} {parent : Int} {ws : List Int} (hp : IsWord parent) (hpar : parent = 20 ∨ x.sp.mem.typ parent = 7) (hsrc : SrcAt H lB (wvs ws)) (hlen : lN = ws.length) (hw : ∀ w ∈ ws, IsWord w)
    (hl : ws.length ≤ 61) (hf : 1 ≤ x.sp.mem.free) (hc : x.sp.mem.count < 4611686018427387904) :
    frame_Extend.C (some ⟨b.h, 0, none⟩) parent lB lN lC H (fun v H' => ∃ (w : Int) (x' : Hp), v = .tuple #[.int .u64 w, .int .i64 0] ∧ Live H0 H' b x' ∧ MadeAs x x' w 7 0 (parent :: ws) ∧ Fr b.all H H') := by
  refine HC.mono (frame_Extend_c L.view hp hsrc hlen hw hc (by omega)) ?_
  rintro _ H1 ⟨rfl, V, f⟩
  have hno : ¬ (parent ≠ 20 ∧ (mof (some (b, x))).typ parent ≠ 7) := fun h => hpar.elim h.1 h.2
  have hall : ∀ w ∈ parent :: ws, IsWord w := fun w hw' => by
    rcases List.mem_cons.1 hw' with rfl | h
    · exact hp
    · exact hw w h
  obtain ⟨w, x', e1, e2, hm⟩ := live_make L (kind := 7) (more := 0) (by decide) (by decide) (by simp; omega) hall hf
  have e3 : extR (some (b, x)) parent ws = (w, 0) := by unfold extR; rw [if_neg hno, e1]
  have e4 : extO (some (b, x)) parent ws = some (b, x') := by unfold extO; rw [if_neg hno, e2]
  rw [e4] at V
  exact ⟨w, x', by rw [e3], L.step V f, hm, Live.others f⟩
theorem live_Push {H0 H : Array Obj} {b : Blk} {x : Hp} (L : Live H0 H b x) {lB : Option Addr} {lN lC : Nat} {kind next : Int} {ws : List Int} (hk : 0 ≤ kind ∧ kind ≤ 2147483647) (hp : IsWord next) (hpar : next = 20 ∨ x.sp.mem.typ next = 8) (hsrc : SrcAt H lB (wvs ws)) (hlen : lN = ws.length) (hw : ∀ w ∈ ws, IsWord w)
    (hl : ws.length ≤ 60) (hf : 1 ≤ x.sp.mem.free) (hc : x.sp.mem.count < 4611686018427387904) :
    frame_Push.C (some ⟨b.h, 0, none⟩) kind next lB lN lC H (fun v H' => ∃ (w : Int) (x' : Hp), v = .tuple #[.int .u64 w, .int .i64 0] ∧ Live H0 H' b x' ∧ MadeAs x x' w 8 0 (kind * 8 :: next :: ws) ∧ Fr b.all H H') := by
  refine HC.mono (frame_Push_c L.view ⟨by omega, by omega⟩ hp hsrc hlen hw hc (by omega)) ?_
  rintro _ H1 ⟨rfl, V, f⟩
  have hno : ¬ (next ≠ 20 ∧ (mof (some (b, x))).typ next ≠ 8) := fun h => hpar.elim h.1 h.2
  have hall : ∀ w ∈ kind * 8 :: next :: ws, IsWord w := fun w hw' => by
    rcases List.mem_cons.1 hw' with rfl | h
    · exact ⟨by omega, by omega⟩
    rcases List.mem_cons.1 h with rfl | h
    · exact hp
    · exact hw w h
  obtain ⟨w, x', e1, e2, hm⟩ := live_make L (kind := 8) (more := 0) (by decide) (by decide) (by simp; omega) hall hf
  have e3 : pushR (some (b, x)) kind next ws = (w, 0) := by unfold pushR; rw [if_neg (by omega), if_neg hno, e1]
  have e4 : pushO (some (b, x)) kind next ws = some (b, x') := by unfold pushO; rw [if_neg (by omega), if_neg hno, e2]
  rw [e4] at V
  exact ⟨w, x', by rw [e3], L.step V f, hm, Live.others f⟩

/-! ### What is told of a thing that is a frame, an environment -/
theorem Thing.is {m : Mem} {w kind more : Int} {ws : List Int} (h : Thing m w kind more ws) {least : Int} (hl : least ≤ ws.length) : m.is w kind least := ⟨h.typ, by rw [h.len]; exact hl⟩
theorem Thing.count' {m : Mem} {w more p : Int} {ws : List Int} (h : Thing m w 7 more (p :: ws)) : m.count' w = ws.length := by
  unfold Mem.count'; rw [if_pos (h.is (by simp <;> omega)), h.len]; simp
theorem Thing.get0 {m : Mem} {w kind more p : Int} {ws : List Int} (h : Thing m w kind more (p :: ws)) : m.get (w / 8 + 1) = p := by
  have := h.get 0 (by simp); simpa using this
theorem Thing.frameKind {m : Mem} {w more k p : Int} {ws : List Int} (h : Thing m w 8 more (k * 8 :: p :: ws)) (hk : 0 ≤ k ∧ k ≤ 2147483647) : m.frameKind w = (k, 0) := by
  unfold Mem.frameKind
  have hs : signed (k * 8) = k * 8 := by unfold signed; rw [if_neg (by omega)]
  rw [h.get0, hs, if_pos ⟨h.field_in ⟨by omega, by simp <;> omega⟩, by omega, ⟨by omega, by omega⟩, by rw [h.len]; simp; omega⟩]
  rw [show k * 8 / 8 = k by omega]
theorem Thing.frameNext {m : Mem} {w more k p : Int} {ws : List Int} (h : Thing m w 8 more (k :: p :: ws)) : m.frameNext w = (p, 0) := by
  unfold Mem.frameNext
  have h1 : m.fieldE w 8 1 = 0 := h.field_in ⟨by omega, by simp <;> omega⟩
  have h2 : m.get (w / 8 + 1 + 1) = p := by have := h.get 1 (by simp); simpa using this
  rw [if_pos (h.is (by simp <;> omega)), if_pos h1, h1, h2]
theorem Thing.above0 {m : Mem} {w more p : Int} {ws : List Int} (h : Thing m w 7 more (p :: ws)) : m.aboveN 0 w = (w, 0) := by
  rw [Mem.aboveN_0, if_pos (h.is (by simp <;> omega))]
theorem Thing.aboveS {m : Mem} {w more p : Int} {ws : List Int} (h : Thing m w 7 more (p :: ws)) (n : Nat) : m.aboveN (n + 1) w = m.aboveN n p := by
  rw [Mem.aboveN_s, if_pos (h.field_in ⟨by omega, by simp <;> omega⟩), h.get0]
/-- Nil is no thing -/
theorem nil_not {m : Mem} : ¬ m.isObj 20 := noAddr (by decide)
theorem above_nil {m : Mem} (n : Nat) : m.aboveN n 20 = (0, 3) := by
  cases n with
  | zero => rw [Mem.aboveN_0, if_neg (fun h => by have := h.1; rw [nothing_typ nil_not] at this; exact absurd this (by decide))]
  | succ n => rw [Mem.aboveN_s, if_neg (by rw [nothing nil_not]; decide)]
theorem Thing.envIn {m : Mem} {w w' more p up i : Int} {ws : List Int} (h : Thing m w' 7 more (p :: ws)) (ha : m.above w up = (w', 0)) (hi : 0 ≤ i ∧ i < ws.length) : m.envE w up i = 0 ∧ m.get ((m.above w up).1 / 8 + 1 + (i + 1)) = ws.getD i.toNat 0 := by
  unfold Mem.envE
  rw [ha]
  refine ⟨?_, ?_⟩
  · rw [if_neg (fun hh => hh rfl), if_neg (by rw [h.count']; omega)]
    exact h.field_in ⟨by omega, by simp <;> omega⟩
  · have := h.get (i.toNat + 1) (by simp <;> omega)
    rw [show w' / 8 + 1 + ((i.toNat + 1 : Nat) : Int) = w' / 8 + 1 + (i + 1) by omega] at this
    show m.get (w' / 8 + 1 + (i + 1)) = _
    rw [this]
    simp
    rw [List.getElem?_eq_getElem (by omega)]; rfl
theorem Thing.envOut {m : Mem} {w w' more p up i : Int} {ws : List Int} (h : Thing m w' 7 more (p :: ws)) (ha : m.above w up = (w', 0)) (hi : i < 0 ∨ (ws.length : Int) ≤ i) : m.envE w up i = 4 := by
  unfold Mem.envE
  rw [ha, if_neg (fun hh => hh rfl), if_pos (by rw [h.count']; exact hi)]
end Go.Proofs.Ytfohlkiikppefaa
