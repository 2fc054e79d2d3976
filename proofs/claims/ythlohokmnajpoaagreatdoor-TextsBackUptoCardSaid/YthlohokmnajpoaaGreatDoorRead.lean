/-
  What is handed to a law, read by readers: one for each type. Proves nothing of any one program.
-/
import Derived.Test.YthlohokmnajpoaaGreatDoorArg
set_option linter.unusedVariables false
set_option linter.unusedSimpArgs false
namespace Go.Proofs.YthlohokmnajpoaaGreatDoor
open Go
open Go.ChangeShapes Go.WideShapes

structure Rdr (α : Type) where
  cells : α → List Value
  ok : Nat → Array Obj → α → Prop
  mono : ∀ {B : Nat} {H H' : Array Obj} {y : α}, Ext H H' → ok B H y → ok B H' y
structure Sl (α : Type) where
  p : Option Addr
  n : Nat
  c : Nat
  xs : List α
structure SlOK {α : Type} (sz : Nat) (r : Rdr α) (B : Nat) (H : Array Obj) (s : Sl α) : Prop where
  len : s.xs.length = s.n
  le : s.n ≤ B
  cap : s.n ≤ s.c
  row : ∀ (i : Nat) (h : i < s.xs.length), ∃ a, s.p = some a ∧ RowAt H (a.add (i * sz)) 0 (r.cells s.xs[i])
  each : ∀ y ∈ s.xs, r.ok B H y
theorem SlOK.ext {α : Type} {sz : Nat} {r : Rdr α} {B : Nat} {H H' : Array Obj} {s : Sl α} (h : SlOK sz r B H s) (e : Ext H H') : SlOK sz r B H' s :=
  ⟨h.len, h.le, h.cap, fun i hi => by obtain ⟨a, h1, h2⟩ := h.row i hi; exact ⟨a, h1, e.rowAt h2⟩, fun y hy => r.mono e (h.each y hy)⟩
section
variable {Hd : Type} {enc : TypeId × Value → Hd} {P : Program} {w : World} {base : Nat} {spare : Nat → Bool} {held : Bool} {B : Nat}
end
end Go.Proofs.YthlohokmnajpoaaGreatDoor
