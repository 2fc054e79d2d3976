/-
  lists.List on a heap: the cars of what hangs together. Proves nothing of any one statement.
-/
import Derived.Test.YthlohokmnajpoaaGreatDoorLists
set_option linter.unusedVariables false
set_option linter.unusedSimpArgs false
namespace Go.Proofs.YthlohokmnajpoaaGreatDoor
open Go

theorem Chain.nth {m : Mem} {w last : Int} : ∀ {l : List (Int × Int)}, Chain m w l last → ∀ (k : Nat) (h : k < l.length), ∃ tag d, Pr m l[k].1 tag l[k].2 d
  | [], _, k, h => by simp at h
  | pa :: l, hc, 0, _ => by obtain ⟨_, tag, d, hp, _⟩ := hc; exact ⟨tag, d, hp⟩
  | pa :: l, hc, k + 1, h => by
    obtain ⟨_, tag, d, _, hr⟩ := hc
    exact Chain.nth hr k (by simpa using h)
theorem setBlk_at {H : Array Obj} {i : Nat} {o o' : Obj} (h : H[i]? = some o) : (setBlk H i o')[i]? = some o' := setBlk_get (lt_size h)
end Go.Proofs.YthlohokmnajpoaaGreatDoor
