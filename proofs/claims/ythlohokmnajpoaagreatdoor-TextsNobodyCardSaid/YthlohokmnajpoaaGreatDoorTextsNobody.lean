/- The law TextsNobody of morainelaw23 holds: called with any arguments it answers true and leaves what it was handed as it was. No condition. -/
import Derived.Test.YthlohokmnajpoaaGreatDoorLaws23
import Derived.Test.YthlohokmnajpoaaGreatDoorWords
import Derived.Test.YthlohokmnajpoaaGreatDoorLx
import Derived.Test.YthlohokmnajpoaaGreatDoorLawL
import Derived.Test.YthlohokmnajpoaaGreatDoorArg
import Derived.Test.YthlohokmnajpoaaGreatDoorTie
import Derived.Test.YthlohokmnajpoaaGreatDoorCards
set_option linter.unusedVariables false
set_option linter.unusedSimpArgs false
namespace Go.Proofs.YthlohokmnajpoaaGreatDoor.textsNobody
open Go Go.Proofs.YthlohokmnajpoaaGreatDoor
open Go.ChangeShapes Go.WideShapes Go.ChangeAt Go.RowKit

set_option maxRecDepth 100000 in
theorem prims_c {H : Array Obj} : texts_Prims.C H (fun v H' => (∃ B c, v = .slice B 32 c) ∧ Ext H H') := by
  refine HC.via fun R hR => texts_Prims.link ?_
  unfold texts_Prims.pt
  refine HC.mono texts_table_c ?_
  rintro _ H1 ⟨ps, rfl, hps, _, e1⟩
  have hl : ps.length = 32 := by have := congrArg List.length hps; rw [List.length_map] at this; exact this
  refine ⟨_, rfl, by rw [flat_len (sz := 4) (fun _ => rfl), hl], fun B n c i A => ∃ k : Nat, i = k ∧ n = k ∧ k ≤ 32 ∧ (∃ xs, Own A 123 3 B k c xs) ∧ (∀ i ∈ blks B, H.size ≤ i) ∧ Ext H A, fun _ _ _ i _ => (32 - i).toNat, ⟨0, rfl, rfl, by omega, ⟨[], own_nil⟩, by simp, e1⟩, ?_⟩
  rintro B n c i A ⟨k, rfl, rfl, hk, ⟨xs, how⟩, hy, eA⟩
  by_cases hlt : (n : Int) < 32
  · rw [if_pos hlt]
    have hn : n < ps.length := by omega
    refine ⟨ps[n].name, ps[n].least, ps[n].most, ps[n].kb, ps[n].kn, ps[n].kc, ⟨⟨by omega, by omega⟩, by rw [Int.toNat_natCast]; exact p23_take ps n hn⟩, fun b H3 hb hH3 => ?_⟩
    obtain ⟨c4, p4⟩ := box_new (n := 4) (vs := [.string ps[n].name, .int .i64 ps[n].least, .int .i64 ps[n].most, .slice ps[n].kb ps[n].kn ps[n].kc]) hb hH3 rfl rfl
    refine ⟨c4, fun H4 hH4 => ?_⟩
    obtain ⟨g4, e4⟩ := p4 H4 hH4
    refine ⟨ps[n].name, ps[n].least, ps[n].most, rowAt_blk g4 _ 0 0 (fun j hj => by
      have : j = 0 ∨ j = 1 ∨ j = 2 := by simp at hj; omega
      rcases this with rfl | rfl | rfl <;> rfl), fun b2 H5 hb2 hH5 => ?_⟩
    have e5 : Ext H4 H5 := Ext.push' hH5
    refine own_append (ys := [.string ps[n].name, .int .i64 ps[n].least, .int .i64 ps[n].most]) (how.ext (e4.trans e5)) (rowAt_blk (push_get hb2 hH5) _ 0 0 (fun j hj => by simp)) (by simp) rfl rfl (by omega) ?_
    intro p' c' H6 how6 f6 hnew
    rw [w64 (by omega)]
    refine ⟨⟨n + 1, by omega, rfl, by omega, ⟨_, how6⟩, fun i hi => ?_, (eA.trans (e4.trans e5)).fr_trans f6 (fun i hi => hy i hi)⟩, by show ((32 : Int) - (n + 1)).toNat < ((32 : Int) - n).toNat; omega⟩
    rcases hnew i hi with h | h
    · exact hy i h
    · have := eA.size; have := (e4.trans e5).size; omega
  · rw [if_neg hlt]
    obtain rfl : n = 32 := by omega
    exact hR _ _ ⟨⟨B, c, rfl⟩, eA⟩
theorem apply_out {H : Array Obj} {hv : Option Addr} {o : Option (Blk × Hp)} {n : Int} {B : Option Addr} {N C : Nat} (V : View H hv o) (hn : o = none ∨ n < 0 ∨ 32 ≤ n) : texts_Apply.C hv n B N C H (fun v H' => v = .tuple #[.int .u64 0, .int .i64 1] ∧ H = H') := by
  refine HC.via fun R hR => texts_Apply.link ?_
  unfold texts_Apply.pt
  cases V with
  | nobody => exact hR _ _ ⟨rfl, rfl⟩
  | empty h => rw [onPtr_some]; exact ⟨_, h, hR _ _ ⟨rfl, rfl⟩⟩
  | real h ok =>
    rw [onPtr_some]
    refine ⟨_, h.hPtr, ?_⟩
    rw [onPtr_some, if_pos (by
      rcases hn with h | h | h
      · cases h
      · rw [decide_eq_true h]; rfl
      · rw [decide_eq_true (show n ≥ 32 from h)]; simp)]
    exact hR _ _ ⟨rfl, rfl⟩

theorem law (n : Int) (aB : Option Addr) (aN aC : Nat) (xs : List Int) (H : Array Obj) (hn : -9223372036854775808 ≤ n ∧ n ≤ 9223372036854775807) (A : Nums H .u64 aB aN xs) (_ : aN ≤ maxLen) :
    morainelaw23_TextsNobody.C n aB aN aC H (fun v H' => v = .bool true ∧ Ext H H') := by
  refine HC.via fun R hR => morainelaw23_TextsNobody.link ?_
  unfold morainelaw23_TextsNobody.pt
  by_cases hbig : (aN : Int) > 100
  · rw [if_pos hbig]
    refine HC.mono awake23_c ?_
    rintro _ H1 ⟨rfl, e1⟩
    exact ⟨_, rfl, hR _ _ ⟨rfl, e1⟩⟩
  rw [if_neg hbig]
  refine HC.mono (apply_out .nobody (.inl rfl)) ?_
  rintro _ H2 ⟨rfl, rfl⟩
  refine ⟨_, _, rfl, fun b H3 hb hH3 => ?_⟩
  have e3 : Ext H H3 := Ext.push' hH3
  refine HC.mono (apply_out (.empty (by rw [hat_blk (push_get hb hH3)]; rfl)) (.inl rfl)) ?_
  rintro _ H4 ⟨rfl, rfl⟩
  refine ⟨_, _, rfl, HC.mono (obj_New_c ⟨by decide, by decide⟩) ?_⟩
  rintro _ H5 (⟨hno, _⟩ | ⟨_, k, x, rfl, V5, hx, e5, hy⟩)
  · exact absurd ⟨by decide, by decide⟩ hno
  refine ⟨_, _, rfl, ?_⟩
  rw [if_neg (by decide)]
  have L5 : Live H H5 k x := ⟨V5.inv.2.1, V5.inv.2.2, e3.trans e5, fun i hi => by have := hy i hi; have := e3.size; omega⟩
  have hw0 : x.sp.mem.words [] = 0 := by subst hx; exact words_fresh _ _
  clear hx V5
  by_cases hneg : n < 0
  · rw [if_pos hneg]
    refine HC.mono (apply_out L5.view (.inr (.inl hneg))) ?_
    rintro _ H6 ⟨rfl, rfl⟩
    refine ⟨_, _, rfl, ?_⟩
    rw [if_pos rfl, if_pos rfl]
    refine ⟨_, rfl, _, L5.at'.hPtr, _, rfl, _, L5.at'.cd.cPtr, HC.mono (space_Words_c (gs := []) L5.at'.cd.sp L5.ok rfl rfl (by decide)) ?_⟩
    rintro _ H7 ⟨rfl, e7⟩
    refine ⟨_, rfl, ?_⟩
    rw [if_pos hw0]
    refine HC.mono awake23_c ?_
    rintro _ H8 ⟨rfl, e8⟩
    exact ⟨_, rfl, hR _ _ ⟨rfl, (L5.ext.trans e7).trans e8⟩⟩
  rw [if_neg hneg]
  refine HC.mono prims_c ?_
  rintro _ H9 ⟨⟨Bp, cp, rfl⟩, e9⟩
  refine ⟨_, _, _, rfl, ?_⟩
  have L9 := L5.grow e9
  by_cases hge : n ≥ ((32 : Nat) : Int)
  · rw [if_pos hge]
    refine HC.mono (apply_out L9.view (.inr (.inr hge))) ?_
    rintro _ H10 ⟨rfl, rfl⟩
    refine ⟨_, _, rfl, ?_⟩
    rw [if_pos rfl, if_pos rfl]
    refine ⟨_, rfl, _, L9.at'.hPtr, _, rfl, _, L9.at'.cd.cPtr, HC.mono (space_Words_c (gs := []) L9.at'.cd.sp L9.ok rfl rfl (by decide)) ?_⟩
    rintro _ H11 ⟨rfl, e11⟩
    refine ⟨_, rfl, ?_⟩
    rw [if_pos hw0]
    refine HC.mono awake23_c ?_
    rintro _ H12 ⟨rfl, e12⟩
    exact ⟨_, rfl, hR _ _ ⟨rfl, (L9.ext.trans e11).trans e12⟩⟩
  rw [if_neg hge]
  refine HC.mono awake23_c ?_
  rintro _ H13 ⟨rfl, e13⟩
  exact ⟨_, rfl, hR _ _ ⟨rfl, L9.ext.trans e13⟩⟩


set_option maxRecDepth 100000 in
theorem lifted (os : Os) (started : os.Started) (H : Type) (enc : TypeId × Value → H) :
    ReturnsInHanded {} Tryz.checked os 9 .any (fun w args => (Rows.textsNobodySpec.pre enc Tryz.prog Tryz.f9 Rows.textsNobodyRow.domain false w args ∧ laidMetH Tryz.prog Rows.textsNobodyRow.laid w) ∧ sizedMet enc Tryz.prog Tryz.f9 (OpenSpec.ofChange Rows.textsNobodySpec) false w args)
      (Rows.textsNobodySpec.post enc Tryz.prog Tryz.f9 false true false false) := by
  refine law_lifted_laid (tb := 4) started (by kernel_rfl) Tryz.func9
    (ChangeSpec.witness_shaped (enc := enc) (C := Tryz.checked) (os := os) (X := fun w _ => laidMetH Tryz.prog Rows.textsNobodyRow.laid w) false (World.laidAll Tryz.prog os Rows.textsNobodyRow.laid) #[.int .i64 0, .slice none 0 0] 8 (World.laidAll_os _ _ _)
      (World.shaped_of_ZipB (by kernel_rfl) (by kernel_rfl)) (by kernel_rfl) (by kernel_rfl) (by kernel_rfl)
      (by rw [MakeChecks.laidMetH_plain _ _ _ (by kernel_rfl)]; exact laidMet_laidAll _ (by kernel_rfl) (by kernel_rfl)))
    rfl (by kernel_rfl) rfl Tryz.underlying4 (fun ds hds => ?_) ?_
  · match ds, hds with
    | [d0, d1], _ => rfl
  intro W base args ds p _ hval hA _
  rw [Tryz.params9] at hA hval
  obtain ⟨v0, vs0, d0, ds0, p0, q0, hargs, rfl, rfl, h0, r0⟩ := trodAll_cons hA
  obtain ⟨v1, vs1, d1, ds1, p1, q1, rfl, rfl, rfl, h1, r1⟩ := trodAll_cons r0
  obtain ⟨rfl, rfl, rfl⟩ := trodAll_nil r1
  obtain rfl : args = #[v0, v1] := by cases args; simp_all
  obtain ⟨a0, rfl, rfl, rfl, w0⟩ := open_int Tryz.underlying3 (hval 0 3 v0 rfl rfl) h0
  obtain ⟨p1, n1, c1, x1, rfl, w1, u1⟩ := open_nums Tryz.underlying43 Tryz.underlying35 (by kernel_rfl) (B := maxLen) (.inl rfl) (hval 1 43 v1 rfl rfl) h1
  exact law a0 p1 n1 c1 x1 W.heap (wf_i64 w0) w1 u1

theorem over : Rows.TextsNobodySaid :=
  OpenClaim.holds_of_wide 9 Tryz.f9 rfl rfl rfl rfl rfl rfl rfl ⟨rfl, rfl, rfl, rfl, rfl⟩ rfl rfl rfl rfl rfl (by kernel_rfl) Tryz.func9 (by kernel_rfl)
    (of_decide_eq_true (by kernel_rfl)) (by unfold Func.isWrapper; first | (rw [if_pos (by decide +kernel)]; kernel_rfl) | (rw [if_neg (by decide +kernel)]; exact ⟨rfl, rfl⟩))
    (fun os started H enc _ => lifted os started H enc)
theorem proved : Rows.TextsNobodyCardSaid :=
  Claim7.holds_tied_plain_at .later [] [.data, .pinned] true (true, "7894965f36cbce92406310930e64986d2ea7bf966cf13c5e6d826dd7bc3f29f6") false over (fun _ h => by cases h) (by kernel_rfl) (fun _ h => by cases h) textsNobody_row_tie rfl ⟨rfl, rfl⟩ (by kernel_rfl) rfl
    (fun f fn hf hfn => by
      obtain rfl : f = 9 := Option.some.inj ((show Tryz.prog.funcNamed "moraine/morainelaw23.TextsNobody" = some 9 by kernel_rfl).symm.trans hf) |>.symm
      obtain rfl : fn = Tryz.f9 := (Option.some.inj (Tryz.func9.symm.trans hfn)).symm
      exact ⟨by kernel_rfl, fun j t ht => by
        rw [Tryz.params9] at ht
        have hm : t ∈ [3, 43] := by simpa using Array.mem_of_getElem? ht
        have hall : ([3, 43].all fun u => !Tryz.prog.wantsStandIn u) = true := by kernel_rfl
        exact (show Tryz.prog.wantsStandIn t = false by simpa using List.all_eq_true.1 hall t hm)⟩)
    (by kernel_rfl)
#print axioms proved
end Go.Proofs.YthlohokmnajpoaaGreatDoor.textsNobody
