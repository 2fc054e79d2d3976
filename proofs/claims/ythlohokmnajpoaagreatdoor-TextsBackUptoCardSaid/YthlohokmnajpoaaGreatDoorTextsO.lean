/-
  Texts in order: slices.Compare, stands, rises; primitives 20 to 22, and 25. Proves nothing of any one statement.
-/
import Derived.Test.YthlohokmnajpoaaGreatDoorTexts
import Derived.Test.YthlohokmnajpoaaGreatDoorFnsC
import Derived.Test.YthlohokmnajpoaaGreatDoorFslices
set_option linter.unusedVariables false
set_option linter.unusedSimpArgs false
namespace Go.Proofs.YthlohokmnajpoaaGreatDoor
open Go

theorem src_at {H : Array Obj} {B : Option Addr} {vs : List Value} (h : SrcAt H B vs) {k : Nat} {v : Value} (hk : vs[k]? = some v) : ∃ a, B = some a ∧ hat H (a.add (Int.toNat (k : Int) * 1)) = some v := by
  cases B with
  | none => have h0 : vs = [] := h
            subst h0; simp at hk
  | some a =>
    refine ⟨a, rfl, ?_⟩
    rw [show Int.toNat (k : Int) * 1 = k by omega]
    have := rowAt_hat h k v hk
    rwa [Nat.zero_add] at this
theorem conv_runes (s : ByteArray) : ∀ (k i : Nat) (acc : Array Value), (Conv.runesFrom s k i acc).toList = acc.toList ++ (runesFrom s k i).map (Value.int .i32)
  | 0, _, acc => by simp [Conv.runesFrom, runesFrom]
  | k + 1, i, acc => by
    unfold Conv.runesFrom runesFrom
    by_cases h : i < s.size
    · rw [if_pos h, if_pos h]
      show (Conv.runesFrom s k (i + (Utf8.decode s i).2) (acc.push (.int .i32 (Int.ofNat (Utf8.decode s i).1)))).toList = _
      rw [conv_runes s k]; simp
    · rw [if_neg h, if_neg h]; simp
theorem runes_inj {k : IntKind} : ∀ {us vs : List Int}, us.map (Value.int k) = vs.map (Value.int k) → us = vs
  | [], [], _ => rfl
  | [], b :: vs, h => by simp at h
  | a :: us, [], h => by simp at h
  | a :: us, b :: vs, h => by
    simp only [List.map_cons, List.cons.injEq, Value.int.injEq, true_and] at h
    rw [h.1, runes_inj h.2]
theorem runesOf_len (s : ByteArray) : (runesOf s).length ≤ s.size := by have := runesFrom_len s (s.size - 0) 0; show (runesFrom s (s.size - 0) 0).length ≤ s.size; omega
theorem torunes_in {e : TypeId} {s : ByteArray} {H : Array Obj} {K : Option Addr → Nat → Nat → Array Obj → Prop} (hl : s.size ≤ 70368744177664)
    (hk : ∀ (c b : Nat) H', b = H.size → Own H' e 1 (some ⟨b, 0, none⟩) (runesOf s).length c (i32s (runesOf s)) → Ext H H' → K (some ⟨b, 0, none⟩) (runesOf s).length c H') : torunesK e s H K := by
  intro rs hrs
  have h1 := conv_runes s s.size 0 #[]
  rw [hrs] at h1
  have hrr : rs = runesOf s := by
    have h2 : rs.map (Value.int .i32) = (runesFrom s s.size 0).map (Value.int .i32) := by simpa using h1
    have := runes_inj h2
    rw [this]; rfl
  subst hrr
  have := runesOf_len s
  refine ⟨by omega, fun c b H' hc hb hH' => hk c b H' hb ?_ (Ext.push' hH')⟩
  refine ⟨rfl, _, push_get hb hH', by simp; omega, hc, by simp [i32s], fun j hj => ?_⟩
  rw [Array.getElem?_append_left (by simp; omega)]; simp [i32s]
theorem enc_size (r : Int) : (Utf8.encode r).size ≤ 4 := by
  unfold Utf8.encode
  simp only []
  repeat' split
  all_goals first | exact Nat.le_refl 4 | exact (by decide : 1 ≤ 4) | exact (by decide : 2 ≤ 4) | exact (by decide : 3 ≤ 4)
theorem catR_size : ∀ rs : List Int, (catR rs).size ≤ 4 * rs.length
  | [] => Nat.le_refl 0
  | r :: rs => by
    have := enc_size r
    have := catR_size rs
    show (Utf8.encode r ++ catR rs).size ≤ _
    rw [ba_size, List.length_cons]; omega
end Go.Proofs.YthlohokmnajpoaaGreatDoor
