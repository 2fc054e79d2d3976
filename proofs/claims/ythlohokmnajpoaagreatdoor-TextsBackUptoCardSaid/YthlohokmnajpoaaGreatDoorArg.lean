/-
  What is handed to a law, read cell by cell: slices of numbers, of slices, of structs. Proves nothing of any one program.
-/
import Derived.Test.YthlohokmnajpoaaGreatDoorOwn
import Derived.Test.YthlohokmnajpoaaGreatDoorLaw
set_option linter.unusedVariables false
set_option linter.unusedSimpArgs false
namespace Go.Proofs.YthlohokmnajpoaaGreatDoor
open Go
open Go.ChangeShapes Go.WideShapes

section
variable {Hd : Type} {enc : TypeId × Value → Hd} {P : Program} {w : World} {base : Nat} {spare : Nat → Bool} {held : Bool} {B : Nat}
end

structure Nums (H : Array Obj) (k : IntKind) (p : Option Addr) (n : Nat) (xs : List Int) : Prop where
  len : xs.length = n
  src : SrcAt H p (xs.map (Value.int k))
  wf : ∀ x ∈ xs, (Lit.int k x).wf = true
theorem Nums.ext {H H' : Array Obj} {k : IntKind} {p : Option Addr} {n : Nat} {xs : List Int} (h : Nums H k p n xs) (e : Ext H H') : Nums H' k p n xs := by
  refine ⟨h.len, ?_, h.wf⟩
  cases p with
  | none => exact h.src
  | some a => exact e.rowAt h.src
theorem Nums.at {H : Array Obj} {k : IntKind} {p : Option Addr} {n : Nat} {xs : List Int} (h : Nums H k p n xs) {i : Nat} (hi : i < xs.length) : ∃ a, p = some a ∧ hat H (a.add (i * 1)) = some (.int k xs[i]) := by
  cases p with
  | none => have : xs.map (Value.int k) = [] := h.src; simp at this; subst this; simp at hi
  | some a =>
    refine ⟨a, rfl, ?_⟩
    have := rowAt_hat (show RowAt H a 0 _ from h.src) i (.int k xs[i]) (by simp [hi])
    rw [Nat.zero_add] at this; rw [Nat.mul_one]; exact this
structure NumsOf where
  p : Option Addr
  n : Nat
  c : Nat
  xs : List Int
structure Numss (B : Nat) (H : Array Obj) (k : IntKind) (p : Option Addr) (n : Nat) (L : List NumsOf) : Prop where
  len : L.length = n
  src : SrcAt H p (L.map fun y => Value.slice y.p y.n y.c)
  each : ∀ y ∈ L, Nums H k y.p y.n y.xs ∧ y.n ≤ B
theorem Numss.ext {B : Nat} {H H' : Array Obj} {k : IntKind} {p : Option Addr} {n : Nat} {L : List NumsOf} (h : Numss B H k p n L) (e : Ext H H') : Numss B H' k p n L := by
  refine ⟨h.len, ?_, fun y hy => ⟨(h.each y hy).1.ext e, (h.each y hy).2⟩⟩
  cases p with
  | none => exact h.src
  | some a => exact e.rowAt h.src
theorem Numss.at {B : Nat} {H : Array Obj} {k : IntKind} {p : Option Addr} {n : Nat} {L : List NumsOf} (h : Numss B H k p n L) {i : Nat} (hi : i < L.length) : ∃ a, p = some a ∧ hat H (a.add (i * 1)) = some (.slice L[i].p L[i].n L[i].c) ∧ Nums H k L[i].p L[i].n L[i].xs ∧ L[i].n ≤ B := by
  cases p with
  | none => have : L.map (fun y => Value.slice y.p y.n y.c) = [] := h.src; simp at this; subst this; simp at hi
  | some a =>
    refine ⟨a, rfl, ?_, h.each _ (List.getElem_mem _)⟩
    have := rowAt_hat (show RowAt H a 0 _ from h.src) i (.slice L[i].p L[i].n L[i].c) (by simp [hi])
    rw [Nat.zero_add] at this; rw [Nat.mul_one]; exact this
section
variable {Hd : Type} {enc : TypeId × Value → Hd} {P : Program} {w : World} {base : Nat} {spare : Nat → Bool} {held : Bool} {B : Nat}
end
end Go.Proofs.YthlohokmnajpoaaGreatDoor
