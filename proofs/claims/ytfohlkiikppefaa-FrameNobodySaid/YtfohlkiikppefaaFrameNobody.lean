/- The law FrameNobody of morainelaw20 holds: called with any arguments it answers true and leaves what it was handed as it was. No condition. -/
import Derived.Test.YtfohlkiikppefaaLaws20
import Derived.Test.YtfohlkiikppefaaL20FrameNobody
import Derived.Test.YtfohlkiikppefaaLaw
namespace Go.Proofs.Ytfohlkiikppefaa.frameNobody
open Go Go.Proofs.Ytfohlkiikppefaa
open Go.ChangeShapes Go.WideShapes Go.ChangeAt Go.RowKit
set_option linter.unusedVariables false

theorem noObj (w : Int) : ¬ (mof none).isObj w := fun h => nohas h.1.2.2.1
theorem noAbove (n : Nat) (w : Int) : (mof none).aboveN n w = (0, 3) := by
  cases n with
  | zero => rw [Mem.aboveN_0, if_neg (fun h => by have := h.1; rw [nothing_typ (noObj w)] at this; exact absurd this (by decide))]
  | succ n => rw [Mem.aboveN_s, if_neg (by rw [nothing (noObj w)]; decide)]
theorem noIs {w kind least : Int} (hk : kind ≠ 0) : ¬ (mof none).is w kind least := fun h => by have := h.1; rw [nothing_typ (noObj w)] at this; exact hk this.symm

theorem law (w up i : Int) (hw : IsWord w) (hu : I64 up) (hi : I64 i) (H : Array Obj) :
    morainelaw20_FrameNobody.C w up i H (fun v H' => v = .bool true ∧ Ext H H') := by
  refine HC.via fun R hR => morainelaw20_FrameNobody.link ?_
  unfold morainelaw20_FrameNobody.pt
  intro b H1 hb hH1 b2 H2 hb2 hH2
  have e1 : Ext H H1 := Ext.push' hH1
  have e2 : Ext H1 H2 := Ext.push' hH2
  have g1 := e2.get (push_get hb hH1)
  have g2 := push_get hb2 hH2
  refine ⟨fun k H' => (0 ≤ k ∧ k ≤ 2) ∧ Ext H2 H', fun k _ => (2 - k).toNat, ⟨by omega, Ext.refl _⟩, ?_⟩
  rintro k H3 ⟨hk, e3⟩
  have e03 := (e1.trans e2).trans e3
  by_cases hlt : k < 2
  case neg =>
    rw [if_neg hlt]
    refine HC.mono awake20_c ?_
    rintro _ H4 ⟨rfl, e4⟩
    exact ⟨true, rfl, hR _ _ ⟨rfl, e03.trans e4⟩⟩
  rw [if_pos hlt]
  have hx : ∃ x : Option Addr, hat H3 ((Addr.mk b2 0 none).add (k.toNat * 1)) = some (.pointer x) ∧ View H3 x none := by
    rw [addr_add_mk, Nat.zero_add, Nat.mul_one, hat_blk (e3.get g2)]
    have : k = 0 ∨ k = 1 := by omega
    rcases this with rfl | rfl
    · exact ⟨none, rfl, .nobody⟩
    · exact ⟨_, rfl, .empty (by rw [hat_blk (e3.get g1)]; rfl)⟩
  obtain ⟨x, hx, V3⟩ := hx
  refine ⟨⟨hk.1, hlt⟩, x, hx, ?_⟩
  have hww : ∀ u ∈ [w], IsWord u := fun u hu => by rw [List.mem_singleton.1 hu]; exact hw
  have c0 : cntOK none := (by decide : (0 : Int) < 4611686018427387904)
  intro b4 H4 hb4 hH4
  have e4 : Ext H3 H4 := Ext.push' hH4
  refine HC.mono (frame_Extend_c (ws := [w]) (V3.ext e4) (by decide) (rowAt_blk (push_get hb4 hH4) _ 0 0 (fun j hj => by simp)) rfl hww c0 (by simp)) ?_
  rintro _ H5 ⟨rfl, V5, f5⟩
  refine ⟨_, _, rfl, ?_⟩
  have E1 : extR none 20 [w] = (0, 2) := by unfold extR; rw [if_neg (fun h => h.1 rfl)]; rfl
  have E2 : extO none 20 [w] = none := by unfold extO; rw [if_neg (fun h => h.1 rfl)]; rfl
  rw [E2] at V5
  rw [E1]
  have e05 : Ext H H5 := (e03.trans e4).trans (f5.ext (by simp [Go.Proofs.Ytfohlkiikppefaa.own]))
  intro b6 H6 hb6 hH6
  have e6 : Ext H5 H6 := Ext.push' hH6
  refine HC.mono (frame_Push_c (ws := [w]) (V5.ext e6) (by decide) (by decide) (rowAt_blk (push_get hb6 hH6) _ 0 0 (fun j hj => by simp)) rfl hww c0 (by simp)) ?_
  rintro _ H7 ⟨rfl, V7, f7⟩
  refine ⟨_, _, rfl, ?_⟩
  have P1 : pushR none 0 20 [w] = (0, 2) := by unfold pushR; rw [if_neg (by decide), if_neg (fun h => h.1 rfl)]; rfl
  have P2 : pushO none 0 20 [w] = none := by unfold pushO; rw [if_neg (by decide), if_neg (fun h => h.1 rfl)]; rfl
  rw [P2] at V7
  rw [P1]
  have e57 : Ext H5 H7 := e6.trans (f7.ext (by simp [Go.Proofs.Ytfohlkiikppefaa.own]))
  have e07 := e05.trans e57
  have A0 : (mof none).above w 0 = (0, 3) := by unfold Mem.above; rw [if_neg (by decide)]; exact noAbove _ _
  have G0 : (mof none).envE w 0 i = 3 := by unfold Mem.envE; rw [A0, if_pos (by decide)]
  refine HC.mono (frame_Get_c V7 hw (by decide) hi) ?_
  rintro _ H8 ⟨rfl, e8⟩
  refine ⟨_, _, rfl, ?_⟩
  rw [G0]
  have V8 := V7.ext e8
  refine HC.mono (frame_Kind_c V8 hw) ?_
  rintro _ H9 ⟨rfl, e9⟩
  refine ⟨_, _, rfl, ?_⟩
  have K0 : (mof none).frameKind w = (0, 3) := by unfold Mem.frameKind; rw [if_neg (fun h => by have := h.1; rw [nothing (noObj w)] at this; exact absurd this (by decide))]
  rw [K0]
  have V9 := V8.ext e9
  refine HC.mono (frame_Next_c V9 hw) ?_
  rintro _ H10 ⟨rfl, e10⟩
  refine ⟨_, _, rfl, ?_⟩
  have N0 : (mof none).frameNext w = (0, 3) := by unfold Mem.frameNext; rw [if_neg (noIs (by decide))]
  rw [N0]
  have V10 := V9.ext e10
  refine HC.mono (frame_Field_c V10 hw hi) ?_
  rintro _ H11 ⟨rfl, e11⟩
  rw [if_neg (noIs (by decide))]
  refine ⟨_, _, rfl, ?_⟩
  have V11 := V10.ext e11
  refine HC.mono (frame_Get_c V11 hw hu hi) ?_
  rintro _ H12 ⟨rfl, e12⟩
  refine ⟨_, _, rfl, ?_⟩
  have V12 := V11.ext e12
  have e012 := ((((e07.trans e8).trans e9).trans e10).trans e11).trans e12
  have G1 : (mof none).envE w up i = 3 ∨ (mof none).envE w up i = 4 := by
    unfold Mem.envE
    by_cases hr : up < 0 ∨ 65536 < up
    · have : (mof none).above w up = (0, 4) := by unfold Mem.above; rw [if_pos hr]
      rw [this, if_pos (by decide)]; exact .inr rfl
    · have : (mof none).above w up = (0, 3) := by unfold Mem.above; rw [if_neg hr]; exact noAbove _ _
      rw [this, if_pos (by decide)]; exact .inl rfl
  have tail : frame_Put.C x w 0 i w H12 (fun v_8 H13 => ∃ x_2 : Int, v_8 = .int .i64 x_2 ∧
                 if x_2 = 3 then (
                  frame_Count.C x w H13 (fun v_9 H14 => ∃ x_3 : Int, v_9 = .int .i64 x_3 ∧
                   if x_3 = 0 then (
                    frame_Fields.C x w H14 (fun v_10 H15 => ∃ x_4 : Int, v_10 = .int .i64 x_4 ∧
                     if x_4 = 0 then
                      (((0 ≤ IntKind.wrap .i64 (k + 1) ∧ IntKind.wrap .i64 (k + 1) ≤ 2) ∧ Ext H2 H15) ∧ (2 - IntKind.wrap .i64 (k + 1)).toNat < (2 - k).toNat)
                     else
                     R (.bool false) H15))
                   else
                   R (.bool false) H14))
                 else
                 R (.bool false) H13) := by
    refine HC.mono (frame_Put_c V12 hw (by decide) hi hw) ?_
    rintro _ H13 ⟨rfl, V13, f13⟩
    refine ⟨_, rfl, ?_⟩
    have U1 : eputE none w 0 i w = 3 := by unfold eputE; rw [A0, if_pos (by decide)]
    have U2 : eputO none w 0 i w = none := by unfold eputO; rw [A0, if_pos (by decide)]
    rw [U2] at V13
    rw [U1, if_pos rfl]
    have C0 : (mof none).count' w = 0 := by unfold Mem.count'; rw [if_neg (noIs (by decide))]
    have F0 : (mof none).fields w = 0 := by unfold Mem.fields; rw [if_neg (noIs (by decide))]
    refine HC.mono (frame_Count_c V13 hw) ?_
    rintro _ H14 ⟨rfl, e14⟩
    refine ⟨_, rfl, ?_⟩
    rw [C0, if_pos rfl]
    refine HC.mono (frame_Fields_c (V13.ext e14) hw) ?_
    rintro _ H15 ⟨rfl, e15⟩
    refine ⟨_, rfl, ?_⟩
    rw [F0, if_pos rfl, w64 (n := k + 1) (by omega)]
    have e212 : Ext H2 H12 := ((((((e3.trans e4).trans (f5.ext (by simp [Go.Proofs.Ytfohlkiikppefaa.own]))).trans e57).trans e8).trans e9).trans (e10.trans e11)).trans e12
    exact ⟨⟨by omega, ((e212.trans (f13.ext (by simp [Go.Proofs.Ytfohlkiikppefaa.own]))).trans e14).trans e15⟩, by omega⟩
  rw [if_pos rfl, if_pos rfl, if_pos rfl, if_pos rfl, if_pos rfl, if_pos rfl]
  rcases G1 with G1 | G1
  · rw [G1, if_pos rfl]; exact tail
  · rw [G1, if_neg (by decide), if_pos rfl]; exact tail

set_option maxRecDepth 100000 in
theorem lifted (os : Os) (started : os.Started) (H : Type) (enc : TypeId × Value → H) :
    ReturnsInHanded {} Try.checked os 6 .any (Rows.frameNobodySpec.pre6 enc Try.prog Try.f6 Rows.frameNobodyRow.domain false) (Rows.frameNobodySpec.post enc Try.prog Try.f6 false true false false) := by
  refine law_lifted (tb := 4) started (by kernel_rfl) Try.func6
    (ChangeSpec.witness6 (enc := enc) (C := Try.checked) false ⟨#[], #[.int .u64 0, .int .i64 0, .int .i64 0], []⟩ 8 (by kernel_rfl) (by kernel_rfl) (by kernel_rfl) (by kernel_rfl))
    rfl (by kernel_rfl) rfl Try.underlying4 (fun ds hds => ?_) ?_
  · match ds, hds with
    | [d0, d1, d2], _ => rfl
  intro W base args ds p hval hA _
  rw [Try.params6] at hA hval
  obtain ⟨v0, vs0, d0, ds0, p0, q0, hargs, rfl, rfl, h0, r0⟩ := trodAll_cons hA
  obtain ⟨v1, vs1, d1, ds1, p1, q1, rfl, rfl, rfl, h1, r1⟩ := trodAll_cons r0
  obtain ⟨v2, vs2, d2, ds2, p2, q2, rfl, rfl, rfl, h2, r2⟩ := trodAll_cons r1
  obtain ⟨rfl, rfl, rfl⟩ := trodAll_nil r2
  obtain rfl : args = #[v0, v1, v2] := by cases args; simp_all
  obtain ⟨a0, rfl, rfl, rfl, w0⟩ := open_int Try.underlying29 (hval 0 29 v0 rfl rfl) h0
  obtain ⟨a1, rfl, rfl, rfl, w1⟩ := open_int Try.underlying3 (hval 1 3 v1 rfl rfl) h1
  obtain ⟨a2, rfl, rfl, rfl, w2⟩ := open_int Try.underlying3 (hval 2 3 v2 rfl rfl) h2
  exact law a0 a1 a2 (wf_u64 w0) (wf_i64 w1) (wf_i64 w2) W.heap

theorem over : Rows.frameNobodyRow.holds Try.pinned (OpenSpec.ofChange Rows.frameNobodySpec) :=
  OpenClaim.holds_of_wide 6 Try.f6 rfl rfl rfl rfl rfl rfl rfl ⟨rfl, rfl, rfl, rfl, rfl⟩ rfl rfl rfl rfl rfl (by kernel_rfl) Try.func6 (by kernel_rfl)
    (of_decide_eq_true (by kernel_rfl)) (by unfold Func.isWrapper; first | (rw [if_pos (by decide +kernel)]; kernel_rfl) | (rw [if_neg (by decide +kernel)]; exact ⟨rfl, rfl⟩))
    (fun os started H enc _ => lifted os started H enc)

theorem proved : Rows.FrameNobodySaid :=
  over
#print axioms proved
end Go.Proofs.Ytfohlkiikppefaa.frameNobody
