/-
  The walk of 'awake' of morainelaw10.
-/
import Derived.Test.YtillpfaabdlaiaaLiveT
import Derived.Test.YtillpfaabdlaiaaLx
set_option linter.unusedVariables false
set_option linter.unusedSimpArgs false
namespace Go.Proofs.Ytillpfaabdlaiaa
open Go

theorem awake10_c {H : Array Obj} : morainelaw10_awake.C H (fun v H' => v = .bool true ∧ Ext H H') := by
  refine HC.via fun R hR => morainelaw10_awake.link ?_
  unfold morainelaw10_awake.pt
  refine HC.mono (obj_New_c (by decide)) ?_
  rintro _ H1 (⟨hn, _⟩ | ⟨_, b, x, rfl, V1, hx, e1, hy⟩)
  · exact absurd (by decide) hn
  refine ⟨_, _, rfl, ?_⟩
  rw [if_pos rfl, onPtr_some]
  have L1 : Live H H1 b x := ⟨V1.inv.2.1, V1.inv.2.2, e1, hy⟩
  have f1 : x.sp.mem.free = 8 := by subst hx; rfl
  have c1 : x.sp.mem.count = 0 := by subst hx; rfl
  have v1 : x.sp.mem.Even := by subst hx; exact even_fresh _
  have hp0 : putR (some (b, x)) 0 1 [8, 20] = (1, 0) := by subst hx; rfl
  clear hx V1
  refine HC.mono (obj_Cons_c L1.view (x := 8) (y := 20) (by decide) (by decide) (show x.sp.mem.count < _ by omega)) ?_
  rintro _ H2 ⟨rfl, V2, fr2⟩
  obtain ⟨p, x2, q1, q2, m2⟩ := live_cons L1 v1 (tag := 1) (a := 8) (d := 20) (.inl rfl) (by decide) (by decide) (by omega)
  have q2' : putO (some (b, x)) 0 1 [8, 20] = some (b, x2) := q2
  have hp : p = 1 := by have q1' : putR (some (b, x)) 0 1 [8, 20] = (p, 0) := q1; rw [hp0] at q1'; exact (congrArg Prod.fst q1').symm
  rw [q2'] at V2
  have L2 := L1.step V2 fr2
  rw [hp0]
  refine ⟨_, _, rfl, ?_⟩
  subst hp
  have f2 := m2.made.free
  have c2 := m2.made.count
  refine HC.mono (live_Car L2 m2.pr) ?_
  rintro _ H3 ⟨rfl, e3⟩
  refine ⟨_, _, rfl, ?_⟩
  have L3 := L2.grow e3
  refine HC.mono (live_Cdr L3 m2.pr) ?_
  rintro _ H4 ⟨rfl, e4⟩
  refine ⟨_, _, rfl, ?_⟩
  have L4 := L3.grow e4
  refine HC.mono (live_Vector L4 m2.even (by decide) (by decide) (by omega) (by omega)) ?_
  rintro _ H5 ⟨v, x5, rfl, L5, m5, _⟩
  refine ⟨_, _, rfl, ?_⟩
  have f5 := m5.made.free
  have c5 := m5.made.count
  refine HC.mono (live_Get L5 m5.thing (i := 2) (by decide)) ?_
  rintro _ H6 ⟨rfl, e6⟩
  refine ⟨_, _, rfl, ?_⟩
  have L6 := L5.grow e6
  refine HC.mono (obj_Get_c (i := 3) L6.view m5.thing.word (by decide)) ?_
  rintro _ H7 ⟨rfl, e7⟩
  refine ⟨_, _, rfl, ?_⟩
  have L7 := L6.grow e7
  have hm : mof (some (b, x5)) = x5.sp.mem := rfl
  rw [hm, m5.thing.field_out (i := 3) (.inr (by decide))]
  have hr : runesOf (ByteArray.mk #[97, 195, 177]) = [97, 241] := by rfl
  refine HC.mono (live_String (s := ByteArray.mk #[97, 195, 177]) L7 m5.even (by rw [hr]; decide) (by omega) (by omega)) ?_
  rintro _ H8 ⟨s, x8, rfl, L8, m8, _⟩
  refine ⟨_, _, rfl, ?_⟩
  refine HC.mono (obj_Text_c L8.view m8.thing.word) ?_
  rintro _ H9 ⟨rfl, e9⟩
  have hm8 : mof (some (b, x8)) = x8.sp.mem := rfl
  rw [hm8, if_pos ⟨m8.thing.obj, m8.thing.typ⟩, m8.thing.words, hr]
  refine ⟨_, _, rfl, ?_⟩
  rw [if_pos rfl, if_pos rfl, if_pos rfl, if_pos rfl, if_pos rfl, if_pos rfl, if_pos rfl, if_pos (by rfl), if_pos rfl, if_pos rfl, if_pos rfl, if_pos (by rfl), if_pos rfl]
  refine HC.mono (obj_Len_c (L8.grow e9).view m8.thing.word) ?_
  rintro _ H10 ⟨rfl, e10⟩
  refine ⟨_, rfl, hR _ _ ⟨?_, (L8.grow e9).ext.trans e10⟩⟩
  rw [hm8, m8.thing.len, hr]; rfl
end Go.Proofs.Ytillpfaabdlaiaa
