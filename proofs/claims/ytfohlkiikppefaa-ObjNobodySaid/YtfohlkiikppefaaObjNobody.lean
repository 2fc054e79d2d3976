/- The law ObjNobody of morainelaw10 holds: called with any arguments it answers true and leaves what it was handed as it was. No condition. -/
import Derived.Test.YtfohlkiikppefaaLaws10
import Derived.Test.YtfohlkiikppefaaL10ObjNobody
import Derived.Test.YtfohlkiikppefaaLaw
set_option linter.unusedVariables false
set_option linter.unusedSimpArgs false
namespace Go.Proofs.Ytfohlkiikppefaa.objNobody
open Go Go.Proofs.Ytfohlkiikppefaa
open Go.ChangeShapes Go.WideShapes Go.ChangeAt Go.RowKit

theorem noObj (w : Int) : ¬ (mof none).isObj w := fun h => nohas h.1.2.2.1
theorem noPair (w : Int) : ¬ (mof none).isPair w := fun h => h.1.elim (fun h => nohas h.2.2.1) (fun h => nohas h.2.2.1)

theorem law (w kind i : Int) (hw : IsWord w) (hk : I64 kind) (hi : I64 i) (H : Array Obj) :
    morainelaw10_ObjNobody.C w kind i H (fun v H' => v = .bool true ∧ Ext H H') := by
  refine HC.via fun R hR => morainelaw10_ObjNobody.link ?_
  unfold morainelaw10_ObjNobody.pt
  intro b H1 hb hH1 b2 H2 hb2 hH2
  have e1 : Ext H H1 := Ext.push' hH1
  have e2 : Ext H1 H2 := Ext.push' hH2
  have g1 := e2.get (push_get hb hH1)
  have g2 := push_get hb2 hH2
  refine ⟨fun k H' => (0 ≤ k ∧ k ≤ 2) ∧ Ext H2 H', fun k _ => (2 - k).toNat, ⟨by omega, Ext.refl _⟩, ?_⟩
  rintro k H3 ⟨hk, e3⟩
  have e03 := (e1.trans e2).trans e3
  by_cases hlt : k < 2
  case neg =>
    rw [if_neg hlt]
    refine obj_Heap_Copy.link ?_
    unfold obj_Heap_Copy.pt
    rw [onPtr_none]
    refine ⟨_, rfl, ?_⟩
    rw [onPtr_none]
    refine HC.mono awake10_c ?_
    rintro _ H4 ⟨rfl, e4⟩
    exact ⟨true, rfl, hR _ _ ⟨rfl, e03.trans e4⟩⟩
  rw [if_pos hlt]
  have hx : ∃ x : Option Addr, hat H3 ((Addr.mk b2 0 none).add (k.toNat * 1)) = some (.pointer x) ∧ View H3 x none := by
    rw [addr_add_mk, Nat.zero_add, Nat.mul_one, hat_blk (e3.get g2)]
    have : k = 0 ∨ k = 1 := by omega
    rcases this with rfl | rfl
    · exact ⟨none, rfl, .nobody⟩
    · exact ⟨_, rfl, .empty (by rw [hat_blk (e3.get g1)]; rfl)⟩
  obtain ⟨x, hx, V3⟩ := hx
  refine ⟨⟨hk.1, hlt⟩, x, hx, ?_⟩
  have c0 : cntOK none := (by decide : (0 : Int) < 4611686018427387904)
  have fe : ∀ {A B : Array Obj}, Fr (own none) A B → Ext A B := fun f => f.ext (by simp [Go.Proofs.Ytfohlkiikppefaa.own])
  refine HC.mono (obj_Cons_c V3 hw hw c0) ?_
  rintro _ H4 ⟨rfl, V4, f4⟩
  refine ⟨_, _, rfl, ?_⟩
  have e34 := e3.trans (fe f4)
  refine HC.mono (obj_Weak_c V4 hw hw c0) ?_
  rintro _ H5 ⟨rfl, V5, f5⟩
  refine ⟨_, _, rfl, ?_⟩
  have e35 := e34.trans (fe f5)
  refine HC.mono (obj_Vector_c V5 hw c0) ?_
  rintro _ H6 ⟨rfl, V6, f6⟩
  refine ⟨_, _, rfl, ?_⟩
  have e36 := e35.trans (fe f6)
  have w2 : vecO none 3 w = none := rfl
  rw [show vecO (putO (putO none 0 1 [w, w]) 1 2 [w, w]) 3 w = none from rfl] at V6
  refine HC.mono (obj_String_c V6 c0) ?_
  rintro _ H7 ⟨rfl, V7, f7⟩
  refine ⟨_, _, rfl, ?_⟩
  have e37 := e36.trans (fe f7)
  rw [show strO none (ByteArray.mk #[97]) = none from rfl] at V7
  refine HC.mono (obj_Car_c V7 hw) ?_
  rintro _ H8 ⟨rfl, e8⟩
  refine ⟨_, _, rfl, ?_⟩
  have V8 := V7.ext e8
  refine HC.mono (obj_Get_c V8 hw hi) ?_
  rintro _ H9 ⟨rfl, e9⟩
  refine ⟨_, _, rfl, ?_⟩
  have V9 := V8.ext e9
  refine HC.mono (obj_Text_c V9 hw) ?_
  rintro _ H10 ⟨rfl, e10⟩
  rw [if_neg (fun h => noObj w h.1)]
  refine ⟨_, _, rfl, ?_⟩
  have V10 := V9.ext e10
  refine HC.mono (obj_Next_c V10) ?_
  rintro _ H11 ⟨V11, f11⟩
  rw [show nextO none = none from rfl] at V11
  have e11 : Ext H10 H11 := f11.ext (by simp [hown])
  have hc0 : (mof none).halfE w 0 = 3 := by unfold Mem.halfE; rw [if_neg (noPair w)]
  have hg0 : (mof none).fieldE w kind i = 3 := nothing (noObj w) i
  rw [hc0, hg0, if_pos (by rfl), if_pos (by rfl), if_pos (by rfl), if_pos (by rfl), if_pos (by rfl), if_pos (by rfl), if_pos (by rfl)]
  refine HC.mono (obj_SetCar_c V11 hw hw) ?_
  rintro _ H12 ⟨rfl, V12, f12⟩
  refine ⟨_, rfl, ?_⟩
  have hs0 : hsetE none w 0 w = 3 := by unfold hsetE; rw [if_neg (noPair w)]
  rw [hs0, if_pos rfl]
  rw [show hsetO none w 0 w = none from rfl] at V12
  refine HC.mono (obj_Set_c V12 hw hi hw) ?_
  rintro _ H13 ⟨rfl, V13, f13⟩
  refine ⟨_, rfl, ?_⟩
  have hs1 : setE none w kind i w = 3 := by unfold setE; rw [hg0, if_neg (by decide)]
  rw [hs1, if_pos rfl]
  rw [show setO none w kind i w = none from rfl] at V13
  refine HC.mono (obj_Pair_c V13 hw) ?_
  rintro _ H14 ⟨rfl, e14⟩
  refine ⟨_, rfl, ?_⟩
  rw [if_neg (by simpa using noPair w)]
  refine HC.mono (obj_Type_c (V13.ext e14) hw) ?_
  rintro _ H15 ⟨rfl, e15⟩
  refine ⟨_, rfl, ?_⟩
  rw [nothing_typ (noObj w), if_pos rfl]
  refine HC.mono (obj_Size_c ((V13.ext e14).ext e15) hw) ?_
  rintro _ H16 ⟨rfl, e16⟩
  refine ⟨_, rfl, ?_⟩
  have hz : (mof none).sizeOf w = 0 := by unfold Mem.sizeOf; rw [if_neg (noPair w), if_neg (noObj w)]
  rw [hz, if_pos rfl]
  refine HC.mono (obj_Epoch_c (((V13.ext e14).ext e15).ext e16)) ?_
  rintro _ H17 ⟨rfl, rfl⟩
  refine ⟨_, rfl, ?_⟩
  rw [show epO none = 0 from rfl, if_pos rfl, w64 (n := k + 1) (by omega)]
  refine ⟨⟨by omega, ?_⟩, by show (2 - (k + 1)).toNat < (2 - k).toNat; omega⟩
  exact (((((((((e37.trans e8).trans e9).trans e10).trans e11).trans (fe f12)).trans (fe f13)).trans e14).trans e15).trans e16)

set_option maxRecDepth 100000 in
theorem lifted (os : Os) (started : os.Started) (H : Type) (enc : TypeId × Value → H) :
    ReturnsInHanded {} Try.checked os 9 .any (Rows.objNobodySpec.pre6 enc Try.prog Try.f9 Rows.objNobodyRow.domain false) (Rows.objNobodySpec.post enc Try.prog Try.f9 false true false false) := by
  refine law_lifted (tb := 4) started (by kernel_rfl) Try.func9
    (ChangeSpec.witness6 (enc := enc) (C := Try.checked) false ⟨#[], #[.int .u64 0, .int .i64 0, .int .i64 0], []⟩ 8 (by kernel_rfl) (by kernel_rfl) (by kernel_rfl) (by kernel_rfl))
    rfl (by kernel_rfl) rfl Try.underlying4 (fun ds hds => ?_) ?_
  · match ds, hds with
    | [d0, d1, d2], _ => rfl
  intro W base args ds p hval hA _
  rw [Try.params9] at hA hval
  obtain ⟨v0, vs0, d0, ds0, p0, q0, hargs, rfl, rfl, h0, r0⟩ := trodAll_cons hA
  obtain ⟨v1, vs1, d1, ds1, p1, q1, rfl, rfl, rfl, h1, r1⟩ := trodAll_cons r0
  obtain ⟨v2, vs2, d2, ds2, p2, q2, rfl, rfl, rfl, h2, r2⟩ := trodAll_cons r1
  obtain ⟨rfl, rfl, rfl⟩ := trodAll_nil r2
  obtain rfl : args = #[v0, v1, v2] := by cases args; simp_all
  obtain ⟨a0, rfl, rfl, rfl, w0⟩ := open_int Try.underlying29 (hval 0 29 v0 rfl rfl) h0
  obtain ⟨a1, rfl, rfl, rfl, w1⟩ := open_int Try.underlying3 (hval 1 3 v1 rfl rfl) h1
  obtain ⟨a2, rfl, rfl, rfl, w2⟩ := open_int Try.underlying3 (hval 2 3 v2 rfl rfl) h2
  exact law a0 a1 a2 (wf_u64 w0) (wf_i64 w1) (wf_i64 w2) W.heap

theorem over : Rows.objNobodyRow.holds Try.pinned (OpenSpec.ofChange Rows.objNobodySpec) :=
  OpenClaim.holds_of_wide 9 Try.f9 rfl rfl rfl rfl rfl rfl rfl ⟨rfl, rfl, rfl, rfl, rfl⟩ rfl rfl rfl rfl rfl (by kernel_rfl) Try.func9 (by kernel_rfl)
    (of_decide_eq_true (by kernel_rfl)) (by unfold Func.isWrapper; first | (rw [if_pos (by decide +kernel)]; kernel_rfl) | (rw [if_neg (by decide +kernel)]; exact ⟨rfl, rfl⟩))
    (fun os started H enc _ => lifted os started H enc)

theorem proved : Rows.ObjNobodySaid :=
  over
#print axioms proved
end Go.Proofs.Ytfohlkiikppefaa.objNobody
