/-
  Rows of frames: what is pushed, one by one, stands there, the last one first. Proves nothing of any one statement.
-/
import Derived.Test.YtfohlkiikppefaaLaws20
namespace Go.Proofs.Ytfohlkiikppefaa
open Go
set_option linter.unusedVariables false

theorem getD_at {α : Type} {l : List α} {i : Nat} (h : i < l.length) (d : α) : l.getD i d = l[i] := by
  rw [List.getD, List.getElem?_eq_getElem h]; rfl

/-- a row of frames: their kinds, and where it ends -/
def Chain (m : Mem) : List Int → Int → Int → Prop
  | [], w, t => w = t
  | k :: ks, w, t => ∃ p f, Thing m w 8 0 (k * 8 :: p :: f) ∧ Chain m ks p t
theorem Chain.keep {m m' : Mem} (hn : ∀ k, (m.seg k).n ≤ 64) (kp : Keep m m') : ∀ {ks : List Int} {w t : Int}, Chain m ks w t → Chain m' ks w t
  | [], _, _, h => h
  | _ :: _, _, _, ⟨p, f, h1, h2⟩ => ⟨p, f, h1.keep hn kp, Chain.keep hn kp h2⟩
theorem Chain.append {m : Mem} : ∀ {ks ls : List Int} {w t u : Int}, Chain m ks w t → Chain m ls t u → Chain m (ks ++ ls) w u
  | [], ls, w, t, u, h, h2 => by rw [show w = t from h]; exact h2
  | _ :: _, _, _, _, _, ⟨p, f, h1, h3⟩, h2 => ⟨p, f, h1, Chain.append h3 h2⟩
/-- the first of a row, Nil or a frame -/
def Rowish (m : Mem) (w : Int) : Prop := IsWord w ∧ (w = 20 ∨ m.typ w = 8)
end Go.Proofs.Ytfohlkiikppefaa
