/-
  lists: same, tail, find. Proves nothing of any one statement.
-/
import Derived.Test.YthlohokmnajpoaaListsN
set_option linter.unusedVariables false
set_option linter.unusedSimpArgs false
namespace Go.Proofs.Ythlohokmnajpoaa
open Go

def Plain (m : Mem) (kind a b : Int) : Prop := a ≠ b → kind ≠ 0 → ¬ (m.isPair a ∧ m.isPair b) ∧ m.typ a ≠ 1 ∧ m.typ a ≠ 2 ∧ m.typ a ≠ 3
theorem judge_same_c {H : Array Obj} {hv : Option Addr} {o : Option (Blk × Hp)} {kind a b cnt : Int} {jb : Nat} (hV : ∀ H', Fr [jb] H H' → View H' hv o) (hj : H[jb]? = some (.cells #[.pointer hv, .int .i64 cnt] 67 (0, 0)))
    (hp : Plain (mof o) kind a b) (ha : IsWord a ∧ IsWord b) (hn : cnt + 1 ≤ 20000) (h0 : 0 ≤ cnt) :
    lists_judge_same.C (some ⟨jb, 0, none⟩) kind a b H (fun v H' => ∃ k : Int, v = .tuple #[.bool (a == b), .int .i64 0] ∧ Fr [jb] H H' ∧ H'[jb]? = some (.cells #[.pointer hv, .int .i64 k] 67 (0, 0)) ∧ cnt ≤ k ∧ k ≤ cnt + 1) := by
  refine HC.via fun R hR => lists_judge_same.link ?_
  unfold lists_judge_same.pt
  by_cases h0' : kind = 0
  · rw [if_pos h0']; exact hR _ _ ⟨cnt, rfl, Fr.refl _ _, hj, Int.le_refl _, by omega⟩
  rw [if_neg h0']
  by_cases h1 : kind = 1
  · rw [if_pos h1]
    refine HC.mono (judge_value_c (hV _ (Fr.refl _ _)) (by rw [hat_blk hj]; rfl) ha.1 (fun h => (hp h h0').2.2.2)) ?_
    rintro _ H1 ⟨rfl, e1⟩
    exact ⟨_, rfl, hR _ _ ⟨cnt, rfl, e1.fr, e1.get hj, Int.le_refl _, by omega⟩⟩
  rw [if_neg h1]
  have hE : Eqs (mof o) [(a, b)] 1 (a == b) := by
    by_cases h : a = b
    · rw [show (a == b) = true by simp [h]]; exact .same h .done
    · rw [show (a == b) = false by simp [h]]; exact .apart h ha.1 ha.2 (hp h h0').1 (hp h h0').2
  refine HC.mono (judge_equal_c hV hj hE ha hn h0) ?_
  rintro _ H1 ⟨k, rfl, f, g, h1, h2⟩
  exact ⟨_, _, rfl, hR _ _ ⟨k, rfl, f, g, h1, by omega⟩⟩
end Go.Proofs.Ythlohokmnajpoaa
