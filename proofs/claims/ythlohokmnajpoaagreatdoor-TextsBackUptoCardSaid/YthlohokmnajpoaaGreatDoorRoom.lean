/-
  Room for pairs. Proves nothing of any one statement.
-/
import Derived.Test.YthlohokmnajpoaaGreatDoorCons
set_option linter.unusedVariables false
set_option linter.unusedSimpArgs false
namespace Go.Proofs.YthlohokmnajpoaaGreatDoor
open Go

def Sp.room (s : Sp) : Int := 32 * s.mem.free + (if s.cur 0 0 ≠ 0 then (64 - (s.mem.seg (s.cur 0 0 - 1).toNat).n) / 2 else 0)
theorem Sp.alloc_room {s : Sp} (ok : SpOK s) (hr : 1 ≤ s.room) : (s.alloc 0 0 2).2.2 = 0 ∧ s.room - 1 ≤ (s.alloc 0 0 2).1.room := by
  have hm : may 0 0 2 := by decide
  by_cases hc : s.cur 0 0 ≠ 0 ∧ (s.mem.bump (s.cur 0 0 - 1) 2).2.2 = 0
  · have ha : s.alloc 0 0 2 = ({ s with mem := (s.mem.bump (s.cur 0 0 - 1) 2).1 }, (s.mem.bump (s.cur 0 0 - 1) 2).2.1, 0) := by
      unfold Sp.alloc; rw [if_neg (fun hh => hh hm)]; exact if_pos hc
    obtain ⟨_, _, hn, hb⟩ := Mem.bump_ok ok.mem hc.2
    rw [ha]
    refine ⟨rfl, ?_⟩
    unfold Sp.room
    rw [if_pos hc.1]
    show 32 * s.mem.free + _ - 1 ≤ 32 * (s.mem.bump (s.cur 0 0 - 1) 2).1.free + (if s.cur 0 0 ≠ 0 then (64 - ((s.mem.bump (s.cur 0 0 - 1) 2).1.seg (s.cur 0 0 - 1).toNat).n) / 2 else 0)
    rw [if_pos hc.1, hb]
    show 32 * s.mem.free + _ - 1 ≤ 32 * (s.mem.upd _ _).free + (64 - ((s.mem.upd _ _).seg _).n) / 2
    rw [Mem.upd_same, Mem.upd_free]
    show 32 * s.mem.free + _ - 1 ≤ 32 * s.mem.free + (64 - ((s.mem.seg (s.cur 0 0 - 1).toNat).n + 2)) / 2
    omega
  · have h0 : (if s.cur 0 0 ≠ 0 then (64 - (s.mem.seg (s.cur 0 0 - 1).toNat).n) / 2 else 0) ≤ 0 := by
      by_cases hz : s.cur 0 0 ≠ 0
      · rw [if_pos hz]
        have hcur := ok.cur 0 0
        rcases hcur with h | ⟨h1, h2, _, _⟩
        · exact absurd h hz
        have hlt : ¬ ((s.mem.seg (s.cur 0 0 - 1).toNat).n + 2 ≤ 64) := fun hle => hc ⟨hz, Mem.bump_can h2 (by decide) hle⟩
        omega
      · rw [if_neg hz]; exact Int.le_refl _
    have hf : 1 ≤ s.mem.free := by unfold Sp.room at hr; omega
    refine ⟨Sp.alloc_can ok hm hf, ?_⟩
    have hte : s.mem.take 0 0 = ({ s.mem with count := s.mem.count + 1, free := s.mem.free - 1 }.upd s.mem.first (Seg.new 0 0 (s.mem.count + 1)), (s.mem.first : Int), 0) := by
      unfold Mem.take
      rw [if_neg (by decide), if_neg (by omega)]
    have hal := Sp.alloc_can ok hm hf
    have ha : s.alloc 0 0 2 = ({ mem := ((s.mem.take 0 0).1.bump (s.mem.take 0 0).2.1 2).1, cur := (s.setCur 0 0 ((s.mem.take 0 0).2.1 + 1)).cur }, ((s.mem.take 0 0).1.bump (s.mem.take 0 0).2.1 2).2.1, ((s.mem.take 0 0).1.bump (s.mem.take 0 0).2.1 2).2.2) := by
      unfold Sp.alloc; rw [if_neg (fun hh => hh hm)]
      rw [show Int.toNat 0 = 0 from rfl, if_neg hc, if_pos (by rw [hte])]
    have hb : ∀ (m : Mem) (k d : Int), (m.bump k d).2.2 = 0 → (m.bump k d).1 = m.upd k.toNat ((m.seg k.toNat).bump d) := by
      intro m k d h
      unfold Mem.bump at h ⊢
      by_cases h1 : m.has k
      · rw [if_neg (fun hh => hh h1)] at h ⊢
        by_cases h2 : d < 1
        · rw [if_pos h2] at h; exact absurd h (by show ¬ (1 : Int) = 0; decide)
        rw [if_neg h2] at h ⊢
        by_cases h3 : 64 - (m.seg k.toNat).n < d
        · rw [if_pos h3] at h; exact absurd h (by show ¬ (2 : Int) = 0; decide)
        rw [if_neg h3]
      · rw [if_pos h1] at h; exact absurd h (by show ¬ (19 : Int) = 0; decide)
    rw [ha] at hal ⊢
    have h1 := hb _ _ _ hal
    have hcur : (s.setCur 0 0 ((s.mem.take 0 0).2.1 + 1)).cur 0 0 = (s.mem.take 0 0).2.1 + 1 := by simp [Sp.setCur]
    unfold Sp.room
    show 32 * s.mem.free + _ - 1 ≤ 32 * ((s.mem.take 0 0).1.bump (s.mem.take 0 0).2.1 2).1.free + (if (s.setCur 0 0 ((s.mem.take 0 0).2.1 + 1)).cur 0 0 ≠ 0 then (64 - (((s.mem.take 0 0).1.bump (s.mem.take 0 0).2.1 2).1.seg ((s.setCur 0 0 ((s.mem.take 0 0).2.1 + 1)).cur 0 0 - 1).toNat).n) / 2 else 0)
    rw [hcur, h1, hte]
    have ht : ((s.mem.first : Int) + 1 - 1).toNat = ((s.mem.first : Int)).toNat := by omega
    rw [if_pos (show (s.mem.first : Int) + 1 ≠ 0 by omega)]
    show 32 * s.mem.free + _ - 1 ≤ 32 * (s.mem.free - 1) + (64 - ((Mem.upd _ ((s.mem.first : Int)).toNat _).seg ((s.mem.first : Int) + 1 - 1).toNat).n) / 2
    rw [ht, Mem.upd_same]
    show 32 * s.mem.free + _ - 1 ≤ 32 * (s.mem.free - 1) + (64 - (((Mem.upd _ s.mem.first _).seg ((s.mem.first : Int)).toNat).n + 2)) / 2
    rw [show ((s.mem.first : Int)).toNat = s.mem.first by omega, Mem.upd_same]
    show 32 * s.mem.free + _ - 1 ≤ 32 * (s.mem.free - 1) + (64 - (0 + 2)) / 2
    omega
theorem Sp.cons_room {s : Sp} (ok : SpOK s) (hr : 1 ≤ s.room) {x y : Int} : (s.alloc 0 (1 - 1) 2).2.2 = 0 ∧ s.room - 1 ≤ (s.put 0 1 [x, y]).1.room := by
  obtain ⟨hal, h⟩ := Sp.alloc_room ok hr
  refine ⟨hal, ?_⟩
  have hal' : (s.alloc 0 0 (([x, y] : List Int).length : Nat)).2.2 = 0 := hal
  unfold Sp.put
  rw [if_pos hal']
  have hs := Same'.sets [x, y] (s.alloc 0 0 2).1.mem (s.alloc 0 0 2).2.1
  refine Int.le_trans h ?_
  show (s.alloc 0 0 2).1.room ≤ Sp.room { (s.alloc 0 0 2).1 with mem := (s.alloc 0 0 2).1.mem.sets (s.alloc 0 0 2).2.1 [x, y] }
  unfold Sp.room
  show _ ≤ 32 * ((s.alloc 0 0 2).1.mem.sets (s.alloc 0 0 2).2.1 [x, y]).free + (if (s.alloc 0 0 2).1.cur 0 0 ≠ 0 then (64 - (((s.alloc 0 0 2).1.mem.sets (s.alloc 0 0 2).2.1 [x, y]).seg ((s.alloc 0 0 2).1.cur 0 0 - 1).toNat).n) / 2 else 0)
  rw [hs.free, (hs.seg _).2.2.1]
  exact Int.le_refl _
theorem live_Cons_room {H0 H : Array Obj} {b : Blk} {x : Hp} (L : Live H0 H b x) (he : x.sp.mem.Even) {a d : Int} (ha : IsWord a) (hd : IsWord d) (hr : 1 ≤ x.sp.room) (hc : x.sp.mem.count < 4611686018427387904) :
    obj_Heap_Cons.C (some ⟨b.h, 0, none⟩) a d H (fun v H' => ∃ (w : Int) (x' : Hp), v = .tuple #[.int .u64 w, .int .i64 0] ∧ Live H0 H' b x' ∧ ConsAs x x' w 1 a d ∧ Fr b.all H H' ∧ x.sp.room - 1 ≤ x'.sp.room) := by
  refine HC.mono (obj_Cons_c L.view ha hd hc) ?_
  rintro _ H1 ⟨rfl, V, f⟩
  obtain ⟨hal, hroom⟩ := Sp.cons_room L.ok hr (x := a) (y := d)
  obtain ⟨h1, h2, h3, h4, h5⟩ := Sp.cons_ok0 L.ok he (tag := 1) (.inl rfl) ha hd hal
  have e1 : putR (some (b, x)) 0 1 [a, d] = ((x.sp.put 0 1 [a, d]).2.1, 0) := Prod.ext rfl h1
  have e2 : putO (some (b, x)) 0 1 [a, d] = some (b, { x with sp := (x.sp.put 0 1 [a, d]).1 }) := rfl
  rw [e2] at V
  exact ⟨(x.sp.put 0 1 [a, d]).2.1, { x with sp := (x.sp.put 0 1 [a, d]).1 }, by rw [e1], L.step V f, ⟨h2, h4, h5, rfl, rfl, rfl⟩, Live.others f, hroom⟩
end Go.Proofs.YthlohokmnajpoaaGreatDoor
