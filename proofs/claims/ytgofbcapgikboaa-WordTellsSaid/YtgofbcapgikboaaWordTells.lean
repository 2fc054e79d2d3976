/- The law WordTells of morainelaw01 holds: called with any arguments it answers true and leaves what it was handed as it was. No condition. -/
import Derived.Test.YtgofbcapgikboaaLaws01
import Derived.Test.YtgofbcapgikboaaL01WordTells
import Derived.Test.YtgofbcapgikboaaLaw
namespace Go.Proofs.Ytgofbcapgikboaa.wordTells
open Go Go.Proofs.Ytgofbcapgikboaa
open Go.ChangeShapes Go.WideShapes Go.ChangeAt Go.RowKit
set_option linter.unusedVariables false

theorem ite_t {c : Prop} [Decidable c] {a b : Prop} (hc : c) (h : a) : if c then a else b := by rw [if_pos hc]; exact h
theorem ite_f {c : Prop} [Decidable c] {a b : Prop} (hc : ¬ c) (h : b) : if c then a else b := by rw [if_neg hc]; exact h

theorem law (w : Int) (hw : IsWord w) (H : Array Obj) :
    morainelaw01_WordTells.C w H (fun v H' => v = .bool true ∧ Ext H H') := by
  refine HC.via fun R hR => morainelaw01_WordTells.link ?_
  unfold morainelaw01_WordTells.pt
  refine HC.mono (ref01_Of_c hw) ?_
  rintro _ H1 ⟨k, t, a, x, m, rfl, hof, e1⟩
  refine ⟨k, t, a, x, m, rfl, ?_⟩
  intro b H2 hb hH2
  have e2 : Ext H1 H2 := Ext.push' hH2
  have g2 := push_get hb hH2
  obtain ⟨hc, hs⟩ := boxed (vs := [.int .i64 k, .int .i64 t, .int .i64 a, .int .i64 x, .int .u64 m]) (H1 := H2) g2 rfl rfl
  refine ⟨hc, fun H3 hH3 => ?_⟩
  obtain ⟨hrow, hE⟩ := hs H3 hH3
  have e3 : Ext H H3 := hE H (e1.trans e2) (by have := e1.size; omega)
  refine HC.mono (word_Int_c hw) ?_
  rintro _ H4 ⟨rfl, e4⟩
  rw [ite_tupb]
  refine ⟨_, _, rfl, ?_⟩
  refine HC.mono (word_Rune_c hw) ?_
  rintro _ H5 ⟨rfl, e5⟩
  rw [ite_tupb]
  refine ⟨_, _, rfl, ?_⟩
  refine HC.mono (word_Addr_c hw) ?_
  rintro _ H6 ⟨rfl, e6⟩
  rw [ite_tupb]
  refine ⟨_, _, rfl, ?_⟩
  refine HC.mono (word_Head_c hw) ?_
  rintro _ H7 ⟨rfl, e7⟩
  have e37 := ((e4.trans e5).trans e6).trans e7
  have r7 := e37.rowAt hrow
  have hhead : ∃ (p q r : Int) (d : Bool), (if w % 8 = 5 ∧ (1 ≤ w / 8 % 32 ∧ w / 8 % 32 ≤ 13 ∧ w / 256 % 256 ≤ 62) then Value.tuple #[.int .i64 (w / 8 % 32), .int .i64 (w / 256 % 256), .int .u64 (w / 65536), .bool true] else .tuple #[.int .i64 0, .int .i64 0, .int .u64 0, .bool false]) = .tuple #[.int .i64 p, .int .i64 q, .int .u64 r, .bool d] ∧
      ((w % 8 = 5 ∧ (1 ≤ w / 8 % 32 ∧ w / 8 % 32 ≤ 13 ∧ w / 256 % 256 ≤ 62) ∧ p = w / 8 % 32 ∧ q = w / 256 % 256 ∧ r = w / 65536 ∧ d = true) ∨ (¬ (w % 8 = 5 ∧ (1 ≤ w / 8 % 32 ∧ w / 8 % 32 ≤ 13 ∧ w / 256 % 256 ≤ 62)) ∧ p = 0 ∧ q = 0 ∧ r = 0 ∧ d = false)) := by
    by_cases h : w % 8 = 5 ∧ (1 ≤ w / 8 % 32 ∧ w / 8 % 32 ≤ 13 ∧ w / 256 % 256 ≤ 62)
    · rw [if_pos h]; exact ⟨_, _, _, _, rfl, .inl ⟨h.1, h.2, rfl, rfl, rfl, rfl⟩⟩
    · rw [if_neg h]; exact ⟨_, _, _, _, rfl, .inr ⟨h, rfl, rfl, rfl, rfl⟩⟩
  obtain ⟨p, q, r, d, hv, hd⟩ := hhead
  rw [hv]
  refine ⟨p, q, r, d, rfl, ?_⟩
  have kt : ∀ H', Ext H7 H' → hat H' (Addr.mk b 0 none) = some (.int .i64 k) := fun H' e => by
    have := (e.rowAt r7).1; rw [addr_add_mk] at this; exact this
  refine ⟨k, kt _ (Ext.refl _), ?_⟩
  refine HC.mono (word_May_c hw) ?_
  rintro _ H8 ⟨rfl, e8⟩
  refine ⟨_, rfl, ⟨by rw [addr_add_mk]; exact kt _ e8, trivial⟩, ?_⟩
  have hmk : mayW w = (k != 0) := by
    rcases hof with ⟨h, rfl, _⟩ | ⟨h, hl, rfl, _⟩ | ⟨h, hl, hz, rfl, _⟩ | ⟨h, h7, hl, rfl, _⟩ | ⟨h, hl, rfl, _⟩ | ⟨h, rfl, _⟩
    · rw [mayW_0 h]; rfl
    · rw [mayW_a h]; simpa using hl
    · rw [mayW_4 h, if_neg (by omega)]; rw [show (decide (w / 8 ≤ 6)) = true by simp; omega]; rfl
    · rw [mayW_4 h, if_pos h7, hl]; rfl
    · rw [mayW_5 h, decide_eq_true hl]; rfl
    · rw [h]; rfl
  rw [if_pos hmk]
  refine HC.mono (word_Tag_c hw) ?_
  rintro _ H9 ⟨rfl, e9⟩
  refine ⟨_, rfl, ⟨by rw [addr_add_mk]; exact kt _ (e8.trans e9), trivial⟩, ?_⟩
  rw [tmod_pos hw.1, w64 (by omega), if_pos rfl]
  refine HC.mono word_Truth_c ?_
  rintro _ H10 ⟨rfl, e10⟩
  have e710 := (e8.trans e9).trans e10
  have r10 := e710.rowAt r7
  refine ⟨_, rfl, ⟨by rw [addr_add_mk]; exact kt _ e710, trivial⟩, ?_⟩
  rw [if_pos rfl]
  have e0 : Ext H H10 := (e3.trans e37).trans e710
  have awake : morainelaw01_awake.C H10 (fun v H3 => ∃ x : Bool, v = .bool x ∧ R (.bool x) H3) := by
    refine HC.mono awake01_c ?_
    rintro _ H3 ⟨rfl, e3⟩
    exact ⟨true, rfl, hR _ _ ⟨rfl, e0.trans e3⟩⟩
  have rd := rowAt_hat r10
  have r0 : hat H10 (Addr.mk b 0 none) = some (.int .i64 k) := kt _ e710
  have r1 : hat H10 ((Addr.mk b 0 none).add 1) = some (.int .i64 t) := rd 1 _ rfl
  have r2 : hat H10 ((Addr.mk b 0 none).add 2) = some (.int .i64 a) := rd 2 _ rfl
  have r3 : hat H10 ((Addr.mk b 0 none).add 3) = some (.int .i64 x) := rd 3 _ rfl
  have r4 : hat H10 ((Addr.mk b 0 none).add 4) = some (.int .u64 m) := rd 4 _ rfl
  refine ⟨k, r0, ?_⟩
  rcases hof with ⟨h, rfl, rfl, rfl, rfl, rfl⟩ | ⟨h, hl, rfl, rfl, rfl, rfl, rfl⟩ | ⟨h, hl, hz, rfl, rfl, rfl, rfl, rfl⟩ | ⟨h, h7, hl, rfl, rfl, rfl, rfl, rfl⟩ | ⟨h, hl, rfl, rfl, rfl, rfl, rfl⟩ | ⟨h, rfl, rfl, rfl, rfl, rfl⟩
  · -- a fixnum
    have n1 : ¬ (w % 8 = 4 ∧ w / 8 % 32 = 7 ∧ letterB (w / 256) = true) := by omega
    have n2 : ¬ ((w % 8 = 1 ∨ w % 8 = 2 ∨ w % 8 = 3 ∨ w % 8 = 6) ∧ w / 8 < 65536) := by omega
    rcases hd with ⟨h5, _⟩ | ⟨_, rfl, rfl, rfl, rfl⟩
    · omega
    rw [if_pos h]
    rw [if_pos h]
    rw [if_neg n1]
    rw [if_neg n1]
    rw [if_neg n2]
    rw [if_neg n2]
    refine ite_t (by first | rfl | decide | simp) ?_
    refine ⟨_, r0, ?_⟩
    refine ite_t (by first | rfl | decide | simp) ?_
    refine ⟨_, r0, ?_⟩
    refine ite_t (by first | rfl | decide | simp) ?_
    refine ⟨_, r0, ?_⟩
    refine ite_t (by first | rfl | decide | simp) ?_
    refine ite_f (by first | decide | simp) ?_
    refine ⟨_, r0, ?_⟩
    refine ite_t (by first | rfl | decide | simp) ?_
    refine ⟨_, r3, ?_⟩
    refine ite_t (by first | rfl | decide | simp) ?_
    exact awake
  · -- an address
    have n0 : ¬ w % 8 = 0 := by omega
    have n1 : ¬ (w % 8 = 4 ∧ w / 8 % 32 = 7 ∧ letterB (w / 256) = true) := by omega
    rcases hd with ⟨h5, _⟩ | ⟨_, rfl, rfl, rfl, rfl⟩
    · omega
    rw [if_neg n0]
    rw [if_neg n0]
    rw [if_neg n1]
    rw [if_neg n1]
    have p2 : (w % 8 = 1 ∨ w % 8 = 2 ∨ w % 8 = 3 ∨ w % 8 = 6) ∧ w / 8 < 65536 := ⟨h, hl⟩
    rw [if_pos p2]
    try rw [if_pos p2]
    refine ite_t (by first | rfl | decide | simp) ?_
    refine ⟨_, r0, ?_⟩
    refine ite_t (by first | rfl | decide | simp) ?_
    refine ⟨_, r0, ?_⟩
    refine ite_t (by first | rfl | decide | simp) ?_
    refine ⟨_, r0, ?_⟩
    refine ite_t (by first | rfl | decide | simp) ?_
    refine ite_f (by first | decide | simp) ?_
    refine ⟨_, r0, ?_⟩
    refine ite_f (by first | decide | simp) ?_
    refine ite_t (by first | rfl | decide | simp) ?_
    refine ⟨_, r2, ?_⟩
    refine ite_t (by first | rfl | decide | simp) ?_
    exact awake
  · -- a constant
    have n0 : ¬ w % 8 = 0 := by omega
    have n1 : ¬ (w % 8 = 4 ∧ w / 8 % 32 = 7 ∧ letterB (w / 256) = true) := by omega
    have n2 : ¬ ((w % 8 = 1 ∨ w % 8 = 2 ∨ w % 8 = 3 ∨ w % 8 = 6) ∧ w / 8 < 65536) := by omega
    rcases hd with ⟨h5, _⟩ | ⟨_, rfl, rfl, rfl, rfl⟩
    · omega
    rw [if_neg n0]
    rw [if_neg n0]
    rw [if_neg n1]
    rw [if_neg n1]
    rw [if_neg n2]
    rw [if_neg n2]
    refine ite_t (by first | rfl | decide | simp) ?_
    refine ⟨_, r0, ?_⟩
    refine ite_t (by first | rfl | decide | simp) ?_
    refine ⟨_, r0, ?_⟩
    refine ite_t (by first | rfl | decide | simp) ?_
    refine ⟨_, r0, ?_⟩
    refine ite_t (by first | rfl | decide | simp) ?_
    refine ite_f (by first | decide | simp) ?_
    refine ⟨_, r0, ?_⟩
    refine ite_f (by first | decide | simp) ?_
    refine ite_f (by first | decide | simp) ?_
    refine ite_f (by first | decide | simp) ?_
    refine ite_f (by first | decide | simp) ?_
    exact awake
  · -- a character
    have n0 : ¬ w % 8 = 0 := by omega
    have n2 : ¬ ((w % 8 = 1 ∨ w % 8 = 2 ∨ w % 8 = 3 ∨ w % 8 = 6) ∧ w / 8 < 65536) := by omega
    have hb : w / 256 ≤ 1114111 := by unfold letterB at hl; simp at hl; exact hl.1
    rcases hd with ⟨h5, _⟩ | ⟨_, rfl, rfl, rfl, rfl⟩
    · omega
    rw [if_neg n0]
    rw [if_neg n0]
    have p1 : w % 8 = 4 ∧ w / 8 % 32 = 7 ∧ letterB (w / 256) = true := ⟨h, h7, hl⟩
    rw [if_pos p1]
    try rw [if_pos p1]
    rw [if_neg n2]
    rw [if_neg n2]
    refine ite_t (by first | rfl | decide | simp) ?_
    refine ⟨_, r0, ?_⟩
    refine ite_t (by first | rfl | decide | simp) ?_
    refine ⟨_, r0, ?_⟩
    refine ite_t (by first | rfl | decide | simp) ?_
    refine ⟨_, r0, ?_⟩
    refine ite_t (by first | rfl | decide | simp) ?_
    refine ite_f (by first | decide | simp) ?_
    refine ⟨_, r0, ?_⟩
    refine ite_f (by first | decide | simp) ?_
    refine ite_f (by first | decide | simp) ?_
    refine ite_t (by first | rfl | decide | simp) ?_
    refine ⟨_, r2, ?_⟩
    rw [w64 (by omega)]
    refine ite_t (by first | rfl | decide | simp) ?_
    exact awake
  · -- a header
    have n0 : ¬ w % 8 = 0 := by omega
    have n1 : ¬ (w % 8 = 4 ∧ w / 8 % 32 = 7 ∧ letterB (w / 256) = true) := by omega
    have n2 : ¬ ((w % 8 = 1 ∨ w % 8 = 2 ∨ w % 8 = 3 ∨ w % 8 = 6) ∧ w / 8 < 65536) := by omega
    rcases hd with ⟨_, _, rfl, rfl, rfl, rfl⟩ | ⟨hn, _⟩
    case inr => exact absurd ⟨h, hl⟩ hn
    rw [if_neg n0]
    rw [if_neg n0]
    rw [if_neg n1]
    rw [if_neg n1]
    rw [if_neg n2]
    rw [if_neg n2]
    refine ite_t (by first | rfl | decide | simp) ?_
    refine ⟨_, r0, ?_⟩
    refine ite_t (by first | rfl | decide | simp) ?_
    refine ⟨_, r0, ?_⟩
    refine ite_t (by first | rfl | decide | simp) ?_
    refine ⟨_, r0, ?_⟩
    refine ite_t (by first | rfl | decide | simp) ?_
    refine ite_f (by first | decide | simp) ?_
    refine ⟨_, r0, ?_⟩
    refine ite_f (by first | decide | simp) ?_
    refine ite_f (by first | decide | simp) ?_
    refine ite_f (by first | decide | simp) ?_
    refine ite_t (by first | rfl | decide | simp) ?_
    refine ⟨_, r1, ?_⟩
    refine ite_t (by first | rfl | decide | simp) ?_
    refine ⟨_, r2, ?_⟩
    refine ite_t (by first | rfl | decide | simp) ?_
    refine ⟨_, r4, ?_⟩
    refine ite_t (by first | rfl | decide | simp) ?_
    exact awake
  · -- nothing
    have n0 : ¬ w % 8 = 0 := fun h0 => by rw [mayW_0 h0] at h; cases h
    have n1 : ¬ (w % 8 = 4 ∧ w / 8 % 32 = 7 ∧ letterB (w / 256) = true) := fun h0 => by rw [mayW_4 h0.1, if_pos h0.2.1, h0.2.2] at h; cases h
    have n2 : ¬ ((w % 8 = 1 ∨ w % 8 = 2 ∨ w % 8 = 3 ∨ w % 8 = 6) ∧ w / 8 < 65536) := fun h0 => by rw [mayW_a h0.1, decide_eq_true h0.2] at h; cases h
    rcases hd with ⟨h5, hh, _⟩ | ⟨_, rfl, rfl, rfl, rfl⟩
    · rw [mayW_5 h5, decide_eq_true hh] at h; cases h
    rw [if_neg n0]
    rw [if_neg n0]
    rw [if_neg n1]
    rw [if_neg n1]
    rw [if_neg n2]
    rw [if_neg n2]
    refine ite_t (by first | rfl | decide | simp) ?_
    refine ⟨_, r0, ?_⟩
    refine ite_t (by first | rfl | decide | simp) ?_
    refine ⟨_, r0, ?_⟩
    refine ite_t (by first | rfl | decide | simp) ?_
    refine ⟨_, r0, ?_⟩
    refine ite_t (by first | rfl | decide | simp) ?_
    refine ite_f (by first | decide | simp) ?_
    refine ⟨_, r0, ?_⟩
    refine ite_f (by first | decide | simp) ?_
    refine ite_f (by first | decide | simp) ?_
    refine ite_f (by first | decide | simp) ?_
    refine ite_f (by first | decide | simp) ?_
    exact awake

set_option maxRecDepth 100000 in
theorem lifted (os : Os) (started : os.Started) (H : Type) (enc : TypeId × Value → H) :
    ReturnsInHanded {} Try.checked os 7 .any (Rows.wordTellsSpec.pre6 enc Try.prog Try.f7 Rows.wordTellsRow.domain false) (Rows.wordTellsSpec.post enc Try.prog Try.f7 false true false false) := by
  refine law_lifted (tb := 4) started (by kernel_rfl) Try.func7
    (ChangeSpec.witness6 (enc := enc) (C := Try.checked) false ⟨#[], #[.int .u64 0], []⟩ 8 (by kernel_rfl) (by kernel_rfl) (by kernel_rfl) (by kernel_rfl))
    rfl (by kernel_rfl) rfl Try.underlying4 (fun ds hds => ?_) ?_
  · match ds, hds with
    | [d0], _ => rfl
  intro W base args ds p hval hA _
  rw [Try.params7] at hA hval
  obtain ⟨v0, vs0, d0, ds0, p0, q0, hargs, rfl, rfl, h0, r0⟩ := trodAll_cons hA
  obtain ⟨rfl, rfl, rfl⟩ := trodAll_nil r0
  obtain rfl : args = #[v0] := by cases args; simp_all
  obtain ⟨a0, rfl, rfl, rfl, w0⟩ := open_int Try.underlying23 (hval 0 23 v0 rfl rfl) h0
  exact law a0 (wf_u64 w0) W.heap

theorem over : Rows.wordTellsRow.holds Try.pinned (OpenSpec.ofChange Rows.wordTellsSpec) :=
  OpenClaim.holds_of_wide 7 Try.f7 rfl rfl rfl rfl rfl rfl rfl ⟨rfl, rfl, rfl, rfl, rfl⟩ rfl rfl rfl rfl rfl (by kernel_rfl) Try.func7 (by kernel_rfl)
    (of_decide_eq_true (by kernel_rfl)) (by unfold Func.isWrapper; first | (rw [if_pos (by decide +kernel)]; kernel_rfl) | (rw [if_neg (by decide +kernel)]; exact ⟨rfl, rfl⟩))
    (fun os started H enc _ => lifted os started H enc)

theorem proved : Rows.WordTellsSaid :=
  over
#print axioms proved
end Go.Proofs.Ytgofbcapgikboaa.wordTells
