/-
  A slice ranged over from behind. Proves nothing of any one statement.
-/
import Derived.Test.YthlohokmnajpoaaGreatDoorListsL
import Derived.Test.YthlohokmnajpoaaGreatDoorFslices
set_option linter.unusedVariables false
set_option linter.unusedSimpArgs false
namespace Go.Proofs.YthlohokmnajpoaaGreatDoor
open Go

theorem back_loop {H : Array Obj} {yield : Value} {b : Nat} {sB : Option Addr} {sN sC : Nat} {ws : List Int} {R0 : Array Obj → Prop} (Inv : Nat → Array Obj → Prop)
    (hb : H[b]? = some (.cells #[.slice sB sN sC] 43 (0, 0))) (hn : sN = ws.length) (hl : ws.length ≤ 1000000) (h0 : Inv 0 H)
    (hsrc : ∀ j A, Inv j A → SrcAt A sB (wvs ws))
    (hstep : ∀ (k : Nat) (h : k < ws.length) (A : Array Obj), Inv (ws.length - 1 - k) A → FC Tryz.prog yield #[.int .i64 (k : Int), .int .u64 ws[k]] A (fun v A' => ∃ x : Bool, v = .bool x ∧ (x = true → Inv (ws.length - k) A' ∧ A'[b]? = A[b]?) ∧ (x = false → R0 A')))
    (hend : ∀ A, Inv ws.length A → R0 A) :
    slices_Backward_api_Word_api_Word_1.C yield (some ⟨b, 0, none⟩) H (fun v A => v = .tuple #[] ∧ R0 A) := by
  subst hn
  refine HC.via fun R hR => slices_Backward_api_Word_api_Word_1.link ?_
  unfold slices_Backward_api_Word_api_Word_1.pt
  refine ⟨_, rfl, sB, ws.length, sC, by rw [hat_blk hb]; rfl, fun i A => ∃ j : Nat, i = (ws.length : Int) - 1 - j ∧ j ≤ ws.length ∧ Inv j A ∧ A[b]? = some (.cells #[.slice sB ws.length sC] 43 (0, 0)), fun i _ => (i + 1).toNat, ⟨0, by rw [w64 (by omega)]; omega, by omega, h0, hb⟩, ?_⟩
  intro i A hinv
  obtain ⟨j, hi, hj, hI, g⟩ := hinv
  by_cases h : i ≥ 0
  · rw [if_pos h]
    obtain ⟨k, hik⟩ : ∃ k : Nat, i = k := ⟨i.toNat, by omega⟩
    have hk : k < ws.length := by omega
    have hjk : j = ws.length - 1 - k := by omega
    subst hik
    rw [hjk] at hI
    have hs := hsrc _ _ hI
    obtain ⟨a, ha, hr⟩ : ∃ a, sB = some a ∧ RowAt A a 0 (wvs ws) := by
      cases sB with
      | none => rw [SrcAt_none] at hs; simp [wvs] at hs; subst hs; simp at hk
      | some a => exact ⟨a, rfl, hs⟩
    have hx := rowAt_hat hr k (.int .u64 ws[k]) (by simp [wvs])
    rw [Nat.zero_add] at hx
    refine ⟨_, _, _, by rw [hat_blk g]; rfl, a, ha, ⟨by omega, by omega⟩, ws[k], by rw [show Int.toNat (k : Int) * 1 = k by omega]; exact hx, ?_⟩
    refine (hstep k hk A hI).mono ?_
    rintro v A' ⟨x, rfl, ht, hf⟩
    refine ⟨x, rfl, ?_⟩
    by_cases hx : x = true
    · rw [if_pos hx]
      obtain ⟨hI', hk'⟩ := ht hx
      refine ⟨⟨ws.length - k, by rw [w64 (by omega)]; omega, by omega, hI', hk'.trans g⟩, ?_⟩
      show (IntKind.wrap .i64 ((k : Int) - 1) + 1).toNat < ((k : Int) + 1).toNat
      rw [w64 (by omega)]; omega
    · rw [if_neg hx]
      exact hR _ _ ⟨rfl, hf (by simpa using hx)⟩
  · rw [if_neg h]
    have hjl : j = ws.length := by omega
    exact hR _ _ ⟨rfl, hend A (hjl ▸ hI)⟩
end Go.Proofs.YthlohokmnajpoaaGreatDoor
