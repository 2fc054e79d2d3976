/-
  What the laws of lists have in common. Proves nothing of any one statement.
-/
import Derived.Test.YthlohokmnajpoaaGreatListsP
import Derived.Test.YthlohokmnajpoaaGreatRead
import Derived.Test.YthlohokmnajpoaaGreatL22awake
set_option linter.unusedVariables false
set_option linter.unusedSimpArgs false
namespace Go.Proofs.YthlohokmnajpoaaGreat
open Go
open Go.ChangeShapes Go.WideShapes

theorem not_pair_fix {m : Mem} {a : Int} (h : a % 8 = 0) : ¬ m.isPair a := fun hp => by
  rcases hp.1 with h' | h'
  · have := h'.2.1; omega
  · have := h'.2.1; omega

theorem RowAs.chain {x x' : Hp} {w : Int} {l : List (Int × Int)} (h : RowAs x x' w 20 l) : Chain x'.sp.mem w l 20 := by
  have := Links.chain (chain_nil x'.sp.mem) h.links
  rwa [List.append_nil] at this
theorem RowAs.len {x x' : Hp} {w t : Int} {l : List (Int × Int)} {ws : List Int} (h : RowAs x x' w t l) (hm : l.map (·.2) = ws) : l.length = ws.length := by rw [← hm]; simp
theorem Chain.drop {m : Mem} {last : Int} : ∀ {l : List (Int × Int)} {w : Int} {k : Nat} (h : k < l.length), Chain m w l last → Chain m l[k].1 (l.drop k) last
  | pa :: l, w, 0, _, hc => by obtain ⟨rfl, hr⟩ := hc; exact ⟨rfl, hr⟩
  | pa :: l, w, k + 1, h, hc => by
    obtain ⟨rfl, tag, d, hp, hr⟩ := hc
    exact Chain.drop (l := l) (by simpa using h) hr

section
variable {Hd : Type} {enc : TypeId × Value → Hd} {P : Program} {w : World} {base : Nat} {spare : Nat → Bool} {held : Bool} {B : Nat}
end
theorem fresh_room (n : Nat) : Sp.room ⟨Mem.fresh n, fun _ _ => 0⟩ = 32 * (n : Int) := by
  unfold Sp.room; rw [if_neg (by simp)]; simp [Mem.fresh]
theorem awake22_c {H : Array Obj} : morainelaw22_awake.C H (fun v H' => v = .bool true ∧ Ext H H') := by
  refine HC.via fun R hR => morainelaw22_awake.link ?_
  unfold morainelaw22_awake.pt
  refine HC.mono (obj_New_c ⟨by decide, by decide⟩) ?_
  rintro _ H1 (⟨hn, _⟩ | ⟨_, b, x, rfl, V1, hx, e1, hy⟩)
  · exact absurd ⟨by decide, by decide⟩ hn
  have L1 : Live H H1 b x := ⟨V1.inv.2.1, V1.inv.2.2, e1, hy⟩
  have hc : x.sp.mem.count = 0 := by subst hx; rfl
  have hv : x.sp.mem.Even := by subst hx; exact even_fresh _
  have hr : x.sp.room = 256 := by subst hx; exact fresh_room 8
  clear hx V1
  refine ⟨_, _, rfl, ?_⟩
  rw [if_pos rfl, onPtr_some]
  intro b1 H2 hb1 hH2
  have g2 := push_get hb1 hH2
  have e2 : Ext H1 H2 := Ext.push' hH2
  have L2 := L1.grow e2
  refine HC.mono (apply_list L2 hv (ws := [8, 16, 24]) (rowAt_blk g2 _ 0 0 (fun j hj => by simp [wvs])) rfl (fun i hi h => by simp at hi; have := L1.lt h; omega) (fun w hw => by simp at hw; omega) (by simp; omega) (by simp) (by simp; omega)) ?_
  rintro _ H3 ⟨w, x3, l, rfl, L3, R3, hm, f3⟩
  obtain ⟨⟨p0, a0⟩, l, rfl⟩ : ∃ p l', l = p :: l' := by cases l with | nil => simp at hm | cons p l' => exact ⟨p, l', rfl⟩
  obtain ⟨⟨p1, a1⟩, l, rfl⟩ : ∃ p l', l = p :: l' := by cases l with | nil => simp at hm | cons p l' => exact ⟨p, l', rfl⟩
  obtain ⟨⟨p2, a2⟩, l, rfl⟩ : ∃ p l', l = p :: l' := by cases l with | nil => simp at hm | cons p l' => exact ⟨p, l', rfl⟩
  simp only [List.map_cons, List.cons.injEq, List.map_eq_nil_iff] at hm
  obtain ⟨rfl, rfl, rfl, rfl⟩ := hm
  have C3 := R3.chain
  have hr3 := R3.room
  have hc3 := R3.count
  simp at hr3 hc3
  refine ⟨_, _, rfl, fun b2 H4 hb2 hH4 => ?_⟩
  have L4 := L3.grow (Ext.push' hH4)
  refine HC.mono (apply_length L4 (push_get hb2 hH4) C3 (by simp)) ?_
  rintro _ H5 ⟨rfl, e5⟩
  refine ⟨_, _, rfl, fun b3 H6 hb3 hH6 => ?_⟩
  have L6 := (L4.grow e5).grow (Ext.push' hH6)
  obtain ⟨rfl, t0, d0, q0, rfl, t1, d1, q1, _⟩ := C3
  refine HC.mono (apply_cadr L6 (push_get hb3 hH6) q0 q1) ?_
  rintro _ H7 ⟨rfl, e7⟩
  refine ⟨_, _, rfl, fun b4 H8 hb4 hH8 => ?_⟩
  have L8 := (L6.grow e7).grow (Ext.push' hH8)
  refine HC.mono (apply_reverse L8 R3.even (push_get hb4 hH8) R3.chain (by simp) (by simp; omega) (by simp; omega)) ?_
  rintro _ H9 ⟨w9, x9, l9, rfl, L9, R9, hm9, f9⟩
  refine ⟨_, _, rfl, ?_⟩
  obtain ⟨⟨u0, c0⟩, l9, rfl⟩ : ∃ p l', l9 = p :: l' := by cases l9 with | nil => simp at hm9 | cons p l' => exact ⟨p, l', rfl⟩
  simp only [List.map_cons, List.map_nil, List.reverse_cons, List.reverse_nil, List.nil_append, List.cons_append, List.cons.injEq] at hm9
  obtain ⟨rfl, _⟩ := hm9
  obtain ⟨rfl, t9, d9, q9, _⟩ := R9.chain
  refine HC.mono (live_Car L9 q9) ?_
  rintro _ H10 ⟨rfl, e10⟩
  refine ⟨_, _, rfl, fun b5 H11 hb5 hH11 => ?_⟩
  have L11 := (L9.grow e10).grow (Ext.push' hH11)
  refine HC.mono (apply_car_no L11 (push_get hb5 hH11) (by decide) (not_pair_fix (by decide))) ?_
  rintro _ H12 ⟨rfl, e12⟩
  refine ⟨_, _, rfl, fun b6 H13 hb6 hH13 => ?_⟩
  have L13 := (L11.grow e12).grow (Ext.push' hH13)
  refine HC.mono (apply_cons_no L13) ?_
  rintro _ H14 ⟨rfl, e14⟩
  refine ⟨_, _, rfl, hR _ _ ⟨by rfl, (L13.grow e14).ext⟩⟩
end Go.Proofs.YthlohokmnajpoaaGreat
