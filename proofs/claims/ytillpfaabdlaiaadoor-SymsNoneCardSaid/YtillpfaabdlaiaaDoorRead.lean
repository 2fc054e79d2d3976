/-
  What is handed to a law, read by readers: one for each type. Proves nothing of any one program.
-/
import Derived.Test.YtillpfaabdlaiaaDoorArg
set_option linter.unusedVariables false
set_option linter.unusedSimpArgs false
namespace Go.Proofs.YtillpfaabdlaiaaDoor
open Go
open Go.ChangeShapes Go.WideShapes

structure Rdr (α : Type) where
  cells : α → List Value
  ok : Nat → Array Obj → α → Prop
  mono : ∀ {B : Nat} {H H' : Array Obj} {y : α}, Ext H H' → ok B H y → ok B H' y
structure Sl (α : Type) where
  p : Option Addr
  n : Nat
  c : Nat
  xs : List α
structure SlOK {α : Type} (sz : Nat) (r : Rdr α) (B : Nat) (H : Array Obj) (s : Sl α) : Prop where
  len : s.xs.length = s.n
  le : s.n ≤ B
  cap : s.n ≤ s.c
  row : ∀ (i : Nat) (h : i < s.xs.length), ∃ a, s.p = some a ∧ RowAt H (a.add (i * sz)) 0 (r.cells s.xs[i])
  each : ∀ y ∈ s.xs, r.ok B H y
theorem SlOK.ext {α : Type} {sz : Nat} {r : Rdr α} {B : Nat} {H H' : Array Obj} {s : Sl α} (h : SlOK sz r B H s) (e : Ext H H') : SlOK sz r B H' s :=
  ⟨h.len, h.le, h.cap, fun i hi => by obtain ⟨a, h1, h2⟩ := h.row i hi; exact ⟨a, h1, e.rowAt h2⟩, fun y hy => r.mono e (h.each y hy)⟩
section
variable {Hd : Type} {enc : TypeId × Value → Hd} {P : Program} {w : World} {base : Nat} {spare : Nat → Bool} {held : Bool} {B : Nat}
theorem open_str {r : Reach} {b0 : Nat} {t : TypeId} {v : Value} {d : DataW Hd} {ps : List MemPlace} (ht : P.underlying t = some .string) (hval : Value.okWide P w r b0 t v) (hd : DataW.Trod enc P w base spare held t v d ps) : ∃ s : ByteArray, v = .string s ∧ s.size ≤ maxLen := by
  obtain ⟨s, rfl⟩ := okWide_string ht hval
  obtain ⟨fuel, hf⟩ := hd
  obtain ⟨s', h, hx, hs⟩ := DataW.trod_string ht hf
  simp [Value.cells] at h
  subst h
  exact ⟨s, rfl, hs⟩
end
end Go.Proofs.YtillpfaabdlaiaaDoor
