/-
  On a heap of a law's own: strings, vectors, whatever is made; what is told of it. Proves nothing of any one statement.
-/
import Derived.Test.YthlohokmnajpoaaGreatDoorText
import Derived.Test.YthlohokmnajpoaaGreatDoorCons
set_option linter.unusedVariables false
set_option linter.unusedSimpArgs false
namespace Go.Proofs.YthlohokmnajpoaaGreatDoor
open Go

structure MadeOn (x x' : Hp) (w kind more : Int) (ws : List Int) : Prop where
  thing : Thing x'.sp.mem w kind more ws
  made : Made x.sp.mem x'.sp.mem w ws.length
  even : x'.sp.mem.Even
  rest : x'.sy = x.sy ∧ x'.en = x.en ∧ x'.ep = x.ep
theorem live_made {H0 H : Array Obj} {b : Blk} {x : Hp} (L : Live H0 H b x) (he : x.sp.mem.Even) {kind more : Int} {ws : List Int} (hkd : 1 ≤ kind ∧ kind ≤ 13) (hmo : 0 ≤ more ∧ more < 281474976710656) (hl : ws.length ≤ 62) (hw : ∀ w ∈ ws, IsWord w) (hf : 1 ≤ x.sp.mem.free) :
    ∃ (w : Int) (x' : Hp), makeR (some (b, x)) kind more ws = (w, 0) ∧ makeO (some (b, x)) kind more ws = some (b, x') ∧ MadeOn x x' w kind more ws := by
  obtain ⟨w, x', e1, e2, hm⟩ := live_make L hkd hmo hl hw hf
  obtain ⟨h1, h2, h3, h4⟩ := live_make_even L he hw e2
  exact ⟨w, x', e1, e2, hm.thing, hm.made, h1, h2, h3, h4⟩
theorem live_Make {H0 H : Array Obj} {b : Blk} {x : Hp} (L : Live H0 H b x) (he : x.sp.mem.Even) {lB : Option Addr} {lN lC : Nat} {kind more : Int} {ws : List Int} (hkd : 1 ≤ kind ∧ kind ≤ 13) (hmo : 0 ≤ more ∧ more < 281474976710656) (hsrc : SrcAt H lB (wvs ws)) (hlen : lN = ws.length) (hw : ∀ w ∈ ws, IsWord w)
    (hl : ws.length ≤ 62) (hf : 1 ≤ x.sp.mem.free) (hc : x.sp.mem.count < 4611686018427387904) :
    obj_Heap_Make.C (some ⟨b.h, 0, none⟩) kind more lB lN lC H (fun v H' => ∃ (w : Int) (x' : Hp), v = .tuple #[.int .u64 w, .int .i64 0] ∧ Live H0 H' b x' ∧ MadeOn x x' w kind more ws ∧ Fr b.all H H') := by
  refine HC.mono (obj_Make_c (ws := ws) L.view hsrc hlen hw (by omega) ⟨by omega, by omega⟩ hc (by omega)) ?_
  rintro _ H1 ⟨rfl, V, f⟩
  obtain ⟨w, x', e1, e2, hm⟩ := live_made L he hkd hmo hl hw hf
  rw [e2] at V
  exact ⟨w, x', by rw [e1], L.step V f, hm, Live.others f⟩
theorem live_String {H0 H : Array Obj} {b : Blk} {x : Hp} (L : Live H0 H b x) (he : x.sp.mem.Even) {s : ByteArray} (hl : (runesOf s).length ≤ 62) (hf : 1 ≤ x.sp.mem.free) (hc : x.sp.mem.count < 4611686018427387904) :
    obj_Heap_String.C (some ⟨b.h, 0, none⟩) s H (fun v H' => ∃ (w : Int) (x' : Hp), v = .tuple #[.int .u64 w, .int .i64 0] ∧ Live H0 H' b x' ∧ MadeOn x x' w 2 0 (runesOf s) ∧ Fr b.all H H') := by
  refine HC.mono (obj_String_c (s := s) L.view hc) ?_
  rintro _ H1 ⟨rfl, V, f⟩
  obtain ⟨w, x', e1, e2, hm⟩ := live_made L he (kind := 2) (more := 0) (by decide) (by decide) hl (runesOf_word s) hf
  have e3 : strR (some (b, x)) s = (w, 0) := by unfold strR; rw [if_neg (by omega), e1]
  have e4 : strO (some (b, x)) s = some (b, x') := by unfold strO; rw [if_neg (by omega), e2]
  rw [e4] at V
  exact ⟨w, x', by rw [e3], L.step V f, hm, Live.others f⟩

theorem live_Get {H0 H : Array Obj} {b : Blk} {x : Hp} (L : Live H0 H b x) {w kind more i : Int} {ws : List Int} (t : Thing x.sp.mem w kind more ws) (hi : 0 ≤ i ∧ i < ws.length) :
    obj_Heap_Get.C (some ⟨b.h, 0, none⟩) w kind i H (fun v H' => v = .tuple #[.int .u64 (ws.getD i.toNat 0), .int .i64 0] ∧ Ext H H') := by
  have h62 := t.le62
  refine HC.mono (obj_Get_c (i := i) L.view t.word ⟨by omega, by omega⟩) ?_
  rintro _ H1 ⟨rfl, e⟩
  have hm : mof (some (b, x)) = x.sp.mem := rfl
  have hg := t.get i.toNat (by omega)
  rw [show w / 8 + 1 + ((i.toNat : Nat) : Int) = w / 8 + 1 + i by omega] at hg
  rw [hm, t.field_in hi, if_pos rfl, hg]
  exact ⟨by rw [List.getD, List.getElem?_eq_getElem (by omega)]; rfl, e⟩
end Go.Proofs.YthlohokmnajpoaaGreatDoor
