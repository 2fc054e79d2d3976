/-
  Lists on a heap: pairs, List. Proves nothing of any one statement.
-/
import Derived.Test.YthlohokmnajpoaaGreatDoorCons
import Derived.Test.YthlohokmnajpoaaGreatDoorRow
import Derived.Test.YthlohokmnajpoaaGreatDoorFnsC
set_option linter.unusedVariables false
set_option linter.unusedSimpArgs false
namespace Go.Proofs.YthlohokmnajpoaaGreatDoor
open Go

def Chain (m : Mem) : Int → List (Int × Int) → Int → Prop
  | w, [], last => w = last ∧ IsWord last ∧ ¬ m.isPair last
  | w, pa :: l, last => w = pa.1 ∧ ∃ tag d, Pr m pa.1 tag pa.2 d ∧ Chain m d l last
theorem Chain.word {m : Mem} {w last : Int} : ∀ {l : List (Int × Int)}, Chain m w l last → IsWord w
  | [], h => by obtain ⟨rfl, h, _⟩ := h; exact h
  | _ :: _, h => by obtain ⟨rfl, _, _, h, _⟩ := h; exact h.word

structure ListInv (H0 : Array Obj) (hv : Option Addr) (m : Mem) (rc : LoopState → Option Code → Obj) (st : LoopState) (pe : Option Code) (lp D b b2 b3 b4 lo : Nat) (cars : List Int) (H : Array Obj) : Prop where
  view : ∃ o, View H hv o ∧ mof o = m
  loop : H[lp]? = some (rc st pe)
  dfr : H[D]? = some (.deferred (some []))
  gb : H[b]? = some (.cells #[.pointer hv] 30 (0, 0))
  gb2 : H[b2]? = some (.cells #[.slice none 0 0] 43 (0, 0))
  gb3 : H[b3]? = some (.cells #[.bool false] 4 (0, 0))
  row : ∃ (B : Option Addr) (c : Nat), H[b4]? = some (.cells #[.slice B cars.length c] 43 (0, 0)) ∧ Own H 35 1 B cars.length c (wvs cars) ∧ ∀ i ∈ blks B, lo ≤ i
  ext : Ext H0 H
theorem ListInv.keep {H0 : Array Obj} {hv : Option Addr} {m : Mem} {rc : LoopState → Option Code → Obj} {st : LoopState} {pe : Option Code} {lp D b b2 b3 b4 lo : Nat} {cars : List Int} {H H' : Array Obj} {S : List Nat}
    (h : ListInv H0 hv m rc st pe lp D b b2 b3 b4 lo cars H) (f : Fr S H H') (hS : ∀ i ∈ S, H0.size ≤ i ∧ i < lo ∧ i ≠ lp ∧ i ≠ D ∧ i ≠ b ∧ i ≠ b2 ∧ i ≠ b3 ∧ i ≠ b4) (hvw : ∃ o, View H' hv o ∧ mof o = m) : ListInv H0 hv m rc st pe lp D b b2 b3 b4 lo cars H' := by
  obtain ⟨B, c, g4, how, hy⟩ := h.row
  refine ⟨hvw, f.get (fun hi => (hS _ hi).2.2.1 rfl) h.loop, f.get (fun hi => (hS _ hi).2.2.2.1 rfl) h.dfr, f.get (fun hi => (hS _ hi).2.2.2.2.1 rfl) h.gb, f.get (fun hi => (hS _ hi).2.2.2.2.2.1 rfl) h.gb2, f.get (fun hi => (hS _ hi).2.2.2.2.2.2.1 rfl) h.gb3,
    ⟨B, c, f.get (fun hi => (hS _ hi).2.2.2.2.2.2.2 rfl) g4, how.keep f (fun i hi hs => by have := hy i hi; have := (hS _ hs).2.1; omega), hy⟩, h.ext.fr_trans f (fun i hi => (hS _ hi).1)⟩
end Go.Proofs.YthlohokmnajpoaaGreatDoor
