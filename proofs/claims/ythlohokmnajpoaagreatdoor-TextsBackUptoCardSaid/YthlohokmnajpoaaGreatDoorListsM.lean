/-
  Lists that are made: lists.row. Proves nothing of any one statement.
-/
import Derived.Test.YthlohokmnajpoaaGreatDoorListsR
import Derived.Test.YthlohokmnajpoaaGreatDoorRoom
set_option linter.unusedVariables false
set_option linter.unusedSimpArgs false
namespace Go.Proofs.YthlohokmnajpoaaGreatDoor
open Go

def Bx (l : List (Nat × Obj)) (H : Array Obj) : Prop := ∀ p ∈ l, H[p.1]? = some p.2
theorem Bx.fr {S : List Nat} {l : List (Nat × Obj)} {H H' : Array Obj} (h : Bx l H) (f : Fr S H H') (hS : ∀ p ∈ l, p.1 ∉ S) : Bx l H' := fun p hp => f.get (hS p hp) (h p hp)
theorem Bx.ext {l : List (Nat × Obj)} {H H' : Array Obj} (h : Bx l H) (e : Ext H H') : Bx l H' := fun p hp => e.get (h p hp)
theorem Bx.nil {H : Array Obj} : Bx [] H := fun p hp => by cases hp
theorem Bx.cons {b : Nat} {o : Obj} {l : List (Nat × Obj)} {H : Array Obj} (h : H[b]? = some o) (k : Bx l H) : Bx ((b, o) :: l) H := fun p hp => by
  rcases List.mem_cons.1 hp with rfl | hp
  · exact h
  · exact k p hp
theorem Bx.head {b : Nat} {o : Obj} {l : List (Nat × Obj)} {H : Array Obj} (h : Bx ((b, o) :: l) H) : H[b]? = some o := h (b, o) (List.mem_cons_self ..)
theorem Bx.tail {p : Nat × Obj} {l : List (Nat × Obj)} {H : Array Obj} (h : Bx (p :: l) H) : Bx l H := fun q hq => h q (List.mem_cons_of_mem _ hq)
theorem Bx.nth {l : List (Nat × Obj)} {H : Array Obj} (h : Bx l H) (i : Nat) {b : Nat} {o : Obj} (e : l[i]? = some (b, o)) : H[b]? = some o := h (b, o) (List.mem_of_getElem? e)
theorem Bx.lt {l : List (Nat × Obj)} {H : Array Obj} (h : Bx l H) : ∀ p ∈ l, p.1 < H.size := fun p hp => lt_size (h p hp)

theorem SrcAt.keep {S : List Nat} {H H' : Array Obj} {p : Option Addr} {xs : List Value} (h : SrcAt H p xs) (f : Fr S H H') (hd : ∀ i ∈ blks p, i ∉ S) : SrcAt H' p xs := by
  cases p with
  | none => exact h
  | some a => exact f.rowAt (hd _ (by simp)) h
theorem Live.lt {H0 H : Array Obj} {b : Blk} {x : Hp} (L : Live H0 H b x) {i : Nat} (hi : i ∈ b.all) : i < H.size := L.at'.lt i hi
theorem Live.keep {S : List Nat} {H0 H H' : Array Obj} {b : Blk} {x : Hp} (L : Live H0 H b x) (f : Fr S H H') (h0 : ∀ i ∈ S, H0.size ≤ i) (hS : ∀ i ∈ S, i ∉ b.all) : Live H0 H' b x :=
  ⟨L.at'.keep f hS, L.ok, L.ext.fr_trans f h0, L.young⟩

theorem Chain.keep {m m' : Mem} {last : Int} (k : Keep m m') (hl : ∀ m : Mem, ¬ m.isPair last) : ∀ {l : List (Int × Int)} {w : Int}, Chain m w l last → Chain m' w l last
  | [], w, h => ⟨h.1, h.2.1, hl m'⟩
  | pa :: l, w, h => by
    obtain ⟨rfl, tag, d, hp, hr⟩ := h
    exact ⟨rfl, tag, d, hp.keep k, Chain.keep k hl hr⟩
theorem nil_noPair (m : Mem) : ¬ m.isPair 20 := fun h => by
  rcases h.1 with h | h
  · exact absurd h.2.1 (by decide)
  · exact absurd h.2.1 (by decide)

def Links (m : Mem) : Int → List (Int × Int) → Int → Prop
  | w, [], last => w = last
  | w, pa :: l, last => w = pa.1 ∧ ∃ d, Pr m pa.1 1 pa.2 d ∧ Links m d l last
theorem Links.keep {m m' : Mem} {last : Int} (k : Keep m m') : ∀ {l : List (Int × Int)} {w : Int}, Links m w l last → Links m' w l last
  | [], w, h => h
  | pa :: l, w, h => by
    obtain ⟨rfl, d, hp, hr⟩ := h
    exact ⟨rfl, d, hp.keep k, Links.keep k hr⟩
theorem Links.chain {m : Mem} {t last : Int} {l' : List (Int × Int)} (c : Chain m t l' last) : ∀ {l : List (Int × Int)} {w : Int}, Links m w l t → Chain m w (l ++ l') last
  | [], w, h => by
    have h : w = t := h
    rw [h]; exact c
  | pa :: l, w, h => by
    obtain ⟨rfl, d, hp, hr⟩ := h
    exact ⟨rfl, 1, d, hp, Links.chain c hr⟩
theorem Links.word {m : Mem} {w last : Int} (hl : IsWord last) : ∀ {l : List (Int × Int)}, Links m w l last → IsWord w
  | [], h => by
    have h : w = last := h
    rw [h]; exact hl
  | _ :: _, h => by obtain ⟨rfl, _, h, _⟩ := h; exact h.word
theorem chain_nil (m : Mem) : Chain m 20 [] 20 := ⟨rfl, by decide, nil_noPair m⟩

structure RowAs (x x' : Hp) (w tail : Int) (l : List (Int × Int)) : Prop where
  links : Links x'.sp.mem w l tail
  keep : Keep x.sp.mem x'.sp.mem
  even : x'.sp.mem.Even
  room : x.sp.room - l.length ≤ x'.sp.room
  count : x'.sp.mem.count ≤ x.sp.mem.count + l.length
  rest : x'.sy = x.sy ∧ x'.en = x.en ∧ x'.ep = x.ep
theorem RowAs.cons {x x1 x2 : Hp} {w w2 tail a : Int} {l : List (Int × Int)} (h : RowAs x x1 w tail l) (c : ConsAs x1 x2 w2 1 a w) (hr : x1.sp.room - 1 ≤ x2.sp.room) : RowAs x x2 w2 tail ((w2, a) :: l) :=
  ⟨⟨rfl, w, c.pr, h.links.keep c.made.keep⟩, h.keep.trans c.made.keep, c.even, by have := h.room; simp; omega, by have := h.count; have := c.made.count; simp; omega, ⟨c.rest.1.trans h.rest.1, c.rest.2.1.trans h.rest.2.1, c.rest.2.2.trans h.rest.2.2⟩⟩

theorem back_c {H : Array Obj} {sB : Option Addr} {sN sC : Nat} :
    slices_Backward_api_Word_api_Word.C sB sN sC H (fun v H' => ∃ p : Nat, v = .func (.func 162) #[] #[.pointer (some ⟨p, 0, none⟩)] ∧ H'[p]? = some (.cells #[.slice sB sN sC] 43 (0, 0)) ∧ H.size ≤ p ∧ Ext H H') := by
  refine HC.via fun R hR => slices_Backward_api_Word_api_Word.link ?_
  unfold slices_Backward_api_Word_api_Word.pt
  intro b H1 hb hH1
  exact hR _ _ ⟨b, rfl, push_get hb hH1, by omega, Ext.push' hH1⟩
end Go.Proofs.YthlohokmnajpoaaGreatDoor
