/-
  lists: same, tail, find. Proves nothing of any one statement.
-/
import Derived.Test.YthlohokmnajpoaaListsN
set_option linter.unusedVariables false
set_option linter.unusedSimpArgs false
namespace Go.Proofs.Ythlohokmnajpoaa
open Go

theorem lists_truth_c {H : Array Obj} {q : Bool} : lists_truth.C q H (fun v H' => v = .int .u64 (if q = true then 12 else 4) ∧ H' = H) := by
  refine HC.via fun R hR => lists_truth.link ?_
  unfold lists_truth.pt
  cases q
  · rw [if_neg (by decide)]; exact hR _ _ ⟨rfl, rfl⟩
  · rw [if_pos rfl]; exact hR _ _ ⟨rfl, rfl⟩
theorem lists_told_c {H : Array Obj} {q : Bool} : lists_told.C q 0 H (fun v H' => v = .tuple #[.int .u64 (if q = true then 12 else 4), .int .i64 0] ∧ H' = H) := by
  refine HC.via fun R hR => lists_told.link ?_
  unfold lists_told.pt
  rw [if_pos rfl]
  refine HC.mono lists_truth_c ?_
  rintro _ _ ⟨rfl, rfl⟩
  exact ⟨_, rfl, hR _ _ ⟨rfl, rfl⟩⟩
def Plain (m : Mem) (kind a b : Int) : Prop := a ≠ b → kind ≠ 0 → ¬ (m.isPair a ∧ m.isPair b) ∧ m.typ a ≠ 1 ∧ m.typ a ≠ 2 ∧ m.typ a ≠ 3
theorem judge_same_c {H : Array Obj} {hv : Option Addr} {o : Option (Blk × Hp)} {kind a b cnt : Int} {jb : Nat} (hV : ∀ H', Fr [jb] H H' → View H' hv o) (hj : H[jb]? = some (.cells #[.pointer hv, .int .i64 cnt] 67 (0, 0)))
    (hp : Plain (mof o) kind a b) (ha : IsWord a ∧ IsWord b) (hn : cnt + 1 ≤ 20000) (h0 : 0 ≤ cnt) :
    lists_judge_same.C (some ⟨jb, 0, none⟩) kind a b H (fun v H' => ∃ k : Int, v = .tuple #[.bool (a == b), .int .i64 0] ∧ Fr [jb] H H' ∧ H'[jb]? = some (.cells #[.pointer hv, .int .i64 k] 67 (0, 0)) ∧ cnt ≤ k ∧ k ≤ cnt + 1) := by
  refine HC.via fun R hR => lists_judge_same.link ?_
  unfold lists_judge_same.pt
  by_cases h0' : kind = 0
  · rw [if_pos h0']; exact hR _ _ ⟨cnt, rfl, Fr.refl _ _, hj, Int.le_refl _, by omega⟩
  rw [if_neg h0']
  by_cases h1 : kind = 1
  · rw [if_pos h1]
    refine HC.mono (judge_value_c (hV _ (Fr.refl _ _)) (by rw [hat_blk hj]; rfl) ha.1 (fun h => (hp h h0').2.2.2)) ?_
    rintro _ H1 ⟨rfl, e1⟩
    exact ⟨_, rfl, hR _ _ ⟨cnt, rfl, e1.fr, e1.get hj, Int.le_refl _, by omega⟩⟩
  rw [if_neg h1]
  have hE : Eqs (mof o) [(a, b)] 1 (a == b) := by
    by_cases h : a = b
    · rw [show (a == b) = true by simp [h]]; exact .same h .done
    · rw [show (a == b) = false by simp [h]]; exact .apart h ha.1 ha.2 (hp h h0').1 (hp h h0').2
  refine HC.mono (judge_equal_c hV hj hE ha hn h0) ?_
  rintro _ H1 ⟨k, rfl, f, g, h1, h2⟩
  exact ⟨_, _, rfl, hR _ _ ⟨k, rfl, f, g, h1, by omega⟩⟩
theorem lists_Equal_c {H : Array Obj} {hv : Option Addr} {o : Option (Blk × Hp)} {a b : Int} {n : Nat} {r : Bool} (V : View H hv o) (heq : Eqs (mof o) [(a, b)] n r) (ha : IsWord a ∧ IsWord b) (hn : n ≤ 20000) :
    lists_Equal.C hv a b H (fun v H' => v = .tuple #[.bool r, .int .i64 0] ∧ Ext H H') := by
  refine HC.via fun R hR => lists_Equal.link ?_
  unfold lists_Equal.pt
  intro b2 H1 hb hH1
  have e1 : Ext H H1 := Ext.push' hH1
  refine HC.mono (judge_equal_c (fun H' f => V.fr0 e1 f (fun i hi => by simp at hi; omega)) (push_get hb hH1) heq ha (by omega) (Int.le_refl _)) ?_
  rintro _ H2 ⟨k, rfl, f, g, _, _⟩
  exact ⟨_, _, rfl, hR _ _ ⟨rfl, e1.fr_trans f (fun i hi => by simp at hi; omega)⟩⟩
end Go.Proofs.Ythlohokmnajpoaa
