/-
  On a heap of a law's own: strings, vectors, whatever is made; what is told of it. Proves nothing of any one statement.
-/
import Derived.Test.YtillpfaabdlaiaaText
import Derived.Test.YtillpfaabdlaiaaCons
set_option linter.unusedVariables false
set_option linter.unusedSimpArgs false
namespace Go.Proofs.Ytillpfaabdlaiaa
open Go

structure MadeOn (x x' : Hp) (w kind more : Int) (ws : List Int) : Prop where
  thing : Thing x'.sp.mem w kind more ws
  made : Made x.sp.mem x'.sp.mem w ws.length
  even : x'.sp.mem.Even
  rest : x'.sy = x.sy ∧ x'.en = x.en ∧ x'.ep = x.ep
theorem live_made {H0 H : Array Obj} {b : Blk} {x : Hp} (L : Live H0 H b x) (he : x.sp.mem.Even) {kind more : Int} {ws : List Int} (hkd : 1 ≤ kind ∧ kind ≤ 13) (hmo : 0 ≤ more ∧ more < 281474976710656) (hl : ws.length ≤ 62) (hw : ∀ w ∈ ws, IsWord w) (hf : 1 ≤ x.sp.mem.free) :
    ∃ (w : Int) (x' : Hp), makeR (some (b, x)) kind more ws = (w, 0) ∧ makeO (some (b, x)) kind more ws = some (b, x') ∧ MadeOn x x' w kind more ws := by
  obtain ⟨w, x', e1, e2, hm⟩ := live_make L hkd hmo hl hw hf
  obtain ⟨h1, h2, h3, h4⟩ := live_make_even L he hw e2
  exact ⟨w, x', e1, e2, hm.thing, hm.made, h1, h2, h3, h4⟩
theorem live_make_any {H0 H : Array Obj} {b : Blk} {x : Hp} (L : Live H0 H b x) (he : x.sp.mem.Even) {kind more : Int} {ws : List Int} (hw : ∀ w ∈ ws, IsWord w) (hmo : IsWord more) :
    ∃ (w e : Int) (x' : Hp), makeR (some (b, x)) kind more ws = (w, e) ∧ makeO (some (b, x)) kind more ws = some (b, x') ∧ ((e = 0 ∧ (1 ≤ kind ∧ kind ≤ 13) ∧ MadeOn x x' w kind more ws) ∨ (e ≠ 0 ∧ x' = x)) := by
  obtain ⟨m1, m2⟩ := make_some b x kind more ws
  by_cases hkd : (1 ≤ kind ∧ kind ≤ 13) ∧ more < 281474976710656
  case neg =>
    have e1 : x.sp.make kind more ws = (x.sp, 0, 1) := by unfold Sp.make; rw [if_pos hkd]
    exact ⟨0, 1, x, by rw [m1, e1], by rw [m2, e1], .inr ⟨by decide, rfl⟩⟩
  by_cases hl : ws.length ≤ 62
  case neg =>
    have e1 : x.sp.make kind more ws = (x.sp, 0, 6) := by unfold Sp.make; rw [if_neg (fun h => h hkd), if_pos (by omega)]
    exact ⟨0, 6, x, by rw [m1, e1], by rw [m2, e1], .inr ⟨by decide, rfl⟩⟩
  have hmo' : 0 ≤ more ∧ more < 281474976710656 := ⟨hmo.1, hkd.2⟩
  by_cases hal : (x.sp.alloc 0 (rawK kind) ((ws.length + 1 : Nat) : Int)).2.2 = 0
  · obtain ⟨h1, h2, h3, h4⟩ := Sp.make_ok0 L.ok hkd.1 hmo' hl hw hal
    exact ⟨_, _, _, m1, m2, .inl ⟨h1, hkd.1, h2, h4, Sp.make_even L.ok he kind more ws hw, rfl, rfl, rfl⟩⟩
  · obtain ⟨h1, h2⟩ := Sp.make_no L.ok hkd.1 hmo' hl hal
    exact ⟨_, _, _, m1, by rw [m2, h1], .inr ⟨h2, rfl⟩⟩
theorem live_String {H0 H : Array Obj} {b : Blk} {x : Hp} (L : Live H0 H b x) (he : x.sp.mem.Even) {s : ByteArray} (hl : (runesOf s).length ≤ 62) (hf : 1 ≤ x.sp.mem.free) (hc : x.sp.mem.count < 4611686018427387904) :
    obj_Heap_String.C (some ⟨b.h, 0, none⟩) s H (fun v H' => ∃ (w : Int) (x' : Hp), v = .tuple #[.int .u64 w, .int .i64 0] ∧ Live H0 H' b x' ∧ MadeOn x x' w 2 0 (runesOf s) ∧ Fr b.all H H') := by
  refine HC.mono (obj_String_c (s := s) L.view hc) ?_
  rintro _ H1 ⟨rfl, V, f⟩
  obtain ⟨w, x', e1, e2, hm⟩ := live_made L he (kind := 2) (more := 0) (by decide) (by decide) hl (runesOf_word s) hf
  have e3 : strR (some (b, x)) s = (w, 0) := by unfold strR; rw [if_neg (by omega), e1]
  have e4 : strO (some (b, x)) s = some (b, x') := by unfold strO; rw [if_neg (by omega), e2]
  rw [e4] at V
  exact ⟨w, x', by rw [e3], L.step V f, hm, Live.others f⟩
theorem live_Vector {H0 H : Array Obj} {b : Blk} {x : Hp} (L : Live H0 H b x) (he : x.sp.mem.Even) {n fill : Int} (hn : 0 ≤ n ∧ n ≤ 62) (hfl : IsWord fill) (hf : 1 ≤ x.sp.mem.free) (hc : x.sp.mem.count < 4611686018427387904) :
    obj_Heap_Vector.C (some ⟨b.h, 0, none⟩) n fill H (fun v H' => ∃ (w : Int) (x' : Hp), v = .tuple #[.int .u64 w, .int .i64 0] ∧ Live H0 H' b x' ∧ MadeOn x x' w 1 0 (List.replicate n.toNat fill) ∧ Fr b.all H H') := by
  refine HC.mono (obj_Vector_c (n := n) L.view hfl hc) ?_
  rintro _ H1 ⟨rfl, V, f⟩
  have hw : ∀ w ∈ List.replicate n.toNat fill, IsWord w := fun w hw => by rw [List.eq_of_mem_replicate hw]; exact hfl
  obtain ⟨w, x', e1, e2, hm⟩ := live_made L he (kind := 1) (more := 0) (by decide) (by decide) (by simp; omega) hw hf
  have e3 : vecR (some (b, x)) n fill = (w, 0) := by unfold vecR; rw [if_neg (by omega), if_neg (by omega), e1]
  have e4 : vecO (some (b, x)) n fill = some (b, x') := by unfold vecO; rw [if_neg (by omega), e2]
  rw [e4] at V
  exact ⟨w, x', by rw [e3], L.step V f, hm, Live.others f⟩

theorem live_Get {H0 H : Array Obj} {b : Blk} {x : Hp} (L : Live H0 H b x) {w kind more i : Int} {ws : List Int} (t : Thing x.sp.mem w kind more ws) (hi : 0 ≤ i ∧ i < ws.length) :
    obj_Heap_Get.C (some ⟨b.h, 0, none⟩) w kind i H (fun v H' => v = .tuple #[.int .u64 (ws.getD i.toNat 0), .int .i64 0] ∧ Ext H H') := by
  have h62 := t.le62
  refine HC.mono (obj_Get_c (i := i) L.view t.word ⟨by omega, by omega⟩) ?_
  rintro _ H1 ⟨rfl, e⟩
  have hm : mof (some (b, x)) = x.sp.mem := rfl
  have hg := t.get i.toNat (by omega)
  rw [show w / 8 + 1 + ((i.toNat : Nat) : Int) = w / 8 + 1 + i by omega] at hg
  rw [hm, t.field_in hi, if_pos rfl, hg]
  exact ⟨by rw [List.getD, List.getElem?_eq_getElem (by omega)]; rfl, e⟩
theorem live_Car {H0 H : Array Obj} {b : Blk} {x : Hp} (L : Live H0 H b x) {w tag a d : Int} (t : Pr x.sp.mem w tag a d) :
    obj_Heap_Car.C (some ⟨b.h, 0, none⟩) w H (fun v H' => v = .tuple #[.int .u64 a, .int .i64 0] ∧ Ext H H') := by
  refine HC.mono (obj_Car_c L.view t.word) ?_
  rintro _ H1 ⟨rfl, e⟩
  have hm : mof (some (b, x)) = x.sp.mem := rfl
  rw [hm, t.half.1, if_pos rfl, show w / 8 + 0 = w / 8 by omega, t.car]
  exact ⟨rfl, e⟩
theorem live_Cdr {H0 H : Array Obj} {b : Blk} {x : Hp} (L : Live H0 H b x) {w tag a d : Int} (t : Pr x.sp.mem w tag a d) :
    obj_Heap_Cdr.C (some ⟨b.h, 0, none⟩) w H (fun v H' => v = .tuple #[.int .u64 d, .int .i64 0] ∧ Ext H H') := by
  refine HC.mono (obj_Cdr_c L.view t.word) ?_
  rintro _ H1 ⟨rfl, e⟩
  have hm : mof (some (b, x)) = x.sp.mem := rfl
  rw [hm, t.half.2, if_pos rfl, t.cdr]
  exact ⟨rfl, e⟩
theorem Pr.type {m : Mem} {w tag a d : Int} (h : Pr m w tag a d) : m.typ w = 0 := nothing_typ h.notObj
end Go.Proofs.Ytillpfaabdlaiaa
