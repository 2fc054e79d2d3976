/-
  Function values, and ranges over functions, said of heaps. Proves nothing of any one program.
-/
import Derived.Test.YtfohlkiikppefaaIter
import Derived.Shelf.Abstract
import Derived.RangeFuncNested
set_option linter.unusedVariables false
set_option linter.unusedSimpArgs false
namespace Go.Proofs.Ytfohlkiikppefaa
open Go
variable {ds : List Deferred} {ro : Option Nat}

/-! ### Function values -/
/-- what is asked behind a call -/
def Back (R : Value → Array Obj → Prop) (w : World) : Ending → World → Prop := fun e w' => ∃ v, e = .returned v ∧ Same w w' ∧ R v w'.heap
/-- a function value that is a function of the program, called -/
def FE (P : Program) (fv : Value) (args : Array Value) (H : Array Obj) (R : Value → Array Obj → Prop) : Prop :=
  ∃ (f : FuncId) (first caps : Array Value), fv = .func (.func f) first caps ∧ Enters P f ∧ HC P f (first ++ args ++ caps) H R
/-- a function value that is a loop's 'yield', called -/
def YC (P : Program) (fv : Value) (args : Array Value) (H : Array Obj) (R : Value → Array Obj → Prop) : Prop :=
  ∃ l, fv = .func (.yield l) #[] #[] ∧ ∀ w, w.heap = H → ∃ fn tmps assign body, (Instr.yield l args).run P w = .ok (.round l fn tmps assign body) w ∧ RoundIn Fence.wide 0 P l fn tmps assign body w (Back R w)
def FC (P : Program) (fv : Value) (args : Array Value) (H : Array Obj) (R : Value → Array Obj → Prop) : Prop := FE P fv args H R ∨ YC P fv args H R
theorem FE.mono {P : Program} {fv : Value} {args : Array Value} {H : Array Obj} {R R' : Value → Array Obj → Prop} (h : FE P fv args H R) (hr : ∀ v H', R v H' → R' v H') : FE P fv args H R' := by
  obtain ⟨f, first, caps, hf, he, hc⟩ := h
  exact ⟨f, first, caps, hf, he, hc.mono hr⟩
theorem YC.mono {P : Program} {fv : Value} {args : Array Value} {H : Array Obj} {R R' : Value → Array Obj → Prop} (h : YC P fv args H R) (hr : ∀ v H', R v H' → R' v H') : YC P fv args H R' := by
  obtain ⟨l, hf, hc⟩ := h
  refine ⟨l, hf, fun w hw => ?_⟩
  obtain ⟨fn, tmps, assign, body, h1, h2⟩ := hc w hw
  exact ⟨fn, tmps, assign, body, h1, h2.mono fun e w' ⟨v, h3, h4, h5⟩ => ⟨v, h3, h4, hr _ _ h5⟩⟩
theorem FC.mono {P : Program} {fv : Value} {args : Array Value} {H : Array Obj} {R R' : Value → Array Obj → Prop} (h : FC P fv args H R) (hr : ∀ v H', R v H' → R' v H') : FC P fv args H R' :=
  h.elim (fun h => .inl (h.mono hr)) (fun h => .inr (h.mono hr))
section
variable {P : Program} {n : Nat} {w0 : World} {e e' : Env} {H H' : Array Obj} {Q : Exit → Act → World → Prop} {K : Act → World → Prop} {c x y : Code}

/-! ### A range over a function -/
end
end Go.Proofs.Ytfohlkiikppefaa
