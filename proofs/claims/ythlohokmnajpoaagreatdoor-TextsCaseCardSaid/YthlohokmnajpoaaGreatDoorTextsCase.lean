/-
  TextsCase: the letters by their case.
-/
import Derived.Test.YthlohokmnajpoaaGreatDoorLaws23
import Derived.Test.YthlohokmnajpoaaGreatDoorLaw
import Derived.Test.YthlohokmnajpoaaGreatDoorL23TextsCase
import Derived.Test.YthlohokmnajpoaaGreatDoorLawL
import Derived.Test.YthlohokmnajpoaaGreatDoorTie
import Derived.Test.YthlohokmnajpoaaGreatDoorCards
set_option linter.unusedVariables false
set_option linter.unusedSimpArgs false
namespace Go.Proofs.YthlohokmnajpoaaGreatDoor.textsCase
open Go
open Go.ChangeShapes Go.WideShapes Go.ChangeAt Go.RowKit

theorem chr_word {c : Int} (h0 : 0 ≤ c) (hl : letterB c = true) : IsWord (c * 256 + 60) ∧ isChr (c * 256 + 60) ∧ (c * 256 + 60) / 256 = c := by
  have hc : c ≤ 1114111 := by unfold letterB at hl; simp only [Bool.and_eq_true, decide_eq_true_eq] at hl; exact hl.1
  have e : (c * 256 + 60) / 256 = c := by omega
  exact ⟨⟨by omega, by omega⟩, ⟨by omega, by omega, by rw [e]; exact hl⟩, e⟩
theorem wrd23 {c : Int} (h0 : 0 ≤ c) (hc : c ≤ 1114111) : ior .u64 (ishl .u64 (IntKind.wrap .u64 c) 8) 60 = c * 256 + 60 := by
  rw [wu64 (n := c) (by omega)]
  have e8 : ishl .u64 c 8 = c * 256 := by rw [ishl_u64 8 8 rfl (by decide)]; show c * 256 % _ = _; omega
  rw [e8, ior_add (x := c * 256) 8 (by omega) (by show c * 256 % 256 = 0; omega) (by decide) (by decide)]
theorem does_up {H0 H : Array Obj} {k : Blk} {x : Hp} {b : Nat} {c : Int} (L : Live H0 H k x) (h0 : 0 ≤ c) (hl : letterB c = true) (hb : H[b]? = some (.cells #[.int .u64 (c * 256 + 60)] 35 (0, 0))) :
    morainelaw23_does.C (some ⟨k.h, 0, none⟩) 5 (some ⟨b, 0, none⟩) 1 1 H (fun v H' => v = .tuple #[.int .u64 (upC c * 256 + 60), .bool true] ∧ Ext H H') := by
  obtain ⟨h1, h2, h3⟩ := chr_word h0 hl
  refine HC.mono (does23_c (Q := fun ra rb H' => ra = upC c * 256 + 60 ∧ rb = 0 ∧ Ext H H') (HC.mono (apply_onChar (.inl rfl) L hb h1 h2 (r := upC c * 256 + 60) (fun A => by rw [h3]; exact texts_up_c h0 hl)) (fun v A h => ⟨_, _, h.1, rfl, rfl, h.2⟩))) ?_
  rintro _ A ⟨ra, rb, rfl, rfl, rfl, e⟩
  exact ⟨rfl, e⟩
theorem does_low {H0 H : Array Obj} {k : Blk} {x : Hp} {b : Nat} {c : Int} (L : Live H0 H k x) (h0 : 0 ≤ c) (hl : letterB c = true) (hb : H[b]? = some (.cells #[.int .u64 (c * 256 + 60)] 35 (0, 0))) :
    morainelaw23_does.C (some ⟨k.h, 0, none⟩) 6 (some ⟨b, 0, none⟩) 1 1 H (fun v H' => v = .tuple #[.int .u64 (lowC c * 256 + 60), .bool true] ∧ Ext H H') := by
  obtain ⟨h1, h2, h3⟩ := chr_word h0 hl
  refine HC.mono (does23_c (Q := fun ra rb H' => ra = lowC c * 256 + 60 ∧ rb = 0 ∧ Ext H H') (HC.mono (apply_onChar (.inr (.inl rfl)) L hb h1 h2 (r := lowC c * 256 + 60) (fun A => by rw [h3]; exact texts_low_c h0 hl)) (fun v A h => ⟨_, _, h.1, rfl, rfl, h.2⟩))) ?_
  rintro _ A ⟨ra, rb, rfl, rfl, rfl, e⟩
  exact ⟨rfl, e⟩
theorem does_alpha {H0 H : Array Obj} {k : Blk} {x : Hp} {b : Nat} {c : Int} (L : Live H0 H k x) (h0 : 0 ≤ c) (hl : letterB c = true) (hb : H[b]? = some (.cells #[.int .u64 (c * 256 + 60)] 35 (0, 0))) :
    morainelaw23_does.C (some ⟨k.h, 0, none⟩) 7 (some ⟨b, 0, none⟩) 1 1 H (fun v H' => v = .tuple #[.int .u64 (truthW (alphaC c)), .bool true] ∧ Ext H H') := by
  obtain ⟨h1, h2, h3⟩ := chr_word h0 hl
  refine HC.mono (does23_c (Q := fun ra rb H' => ra = truthW (alphaC c) ∧ rb = 0 ∧ Ext H H') (HC.mono (apply_onChar (.inr (.inr rfl)) L hb h1 h2 (r := truthW (alphaC c)) (fun A => by rw [h3]; exact texts_alpha_c h0)) (fun v A h => ⟨_, _, h.1, rfl, rfl, h.2⟩))) ?_
  rintro _ A ⟨ra, rb, rfl, rfl, rfl, e⟩
  exact ⟨rfl, e⟩
theorem case_facts {c : Int} (h0 : 0 ≤ c) (hl : letterB c = true) : (0 ≤ upC c ∧ letterB (upC c) = true) ∧ (0 ≤ lowC c ∧ letterB (lowC c) = true) ∧ lowC (upC c) = lowC c ∧ upC (lowC c) = upC c ∧ upC (upC c) = upC c ∧ lowC (lowC c) = lowC c ∧ alphaC (upC c) = alphaC c ∧ alphaC (lowC c) = alphaC c ∧
    (alphaC c = true → upC c ≠ lowC c) ∧ (alphaC c = false → upC c = c ∧ lowC c = c) := by
  have hl' : c ≤ 1114111 ∧ (c < 55296 ∨ c > 57343) := by unfold letterB at hl; simpa using hl
  have hL : ∀ d : Int, d ≤ 1114111 ∧ (d < 55296 ∨ d > 57343) → letterB d = true := fun d h => by unfold letterB; simpa using h
  have hA : ∀ d : Int, alphaC d = decide ((97 ≤ d ∧ d ≤ 122) ∨ (65 ≤ d ∧ d ≤ 90)) := fun d => by unfold alphaC; simp
  have up : (97 ≤ c ∧ c ≤ 122) ∧ upC c = c - 32 ∨ ¬ (97 ≤ c ∧ c ≤ 122) ∧ upC c = c := by unfold upC; split <;> simp_all
  have low : (65 ≤ c ∧ c ≤ 90) ∧ lowC c = c + 32 ∨ ¬ (65 ≤ c ∧ c ≤ 90) ∧ lowC c = c := by unfold lowC; split <;> simp_all
  refine ⟨⟨by omega, hL _ (by omega)⟩, ⟨by omega, hL _ (by omega)⟩, ?_, ?_, ?_, ?_, ?_, ?_, ?_, ?_⟩
  · generalize upC c = u at *; generalize lowC c = l at *; unfold lowC; split <;> omega
  · generalize upC c = u at *; generalize lowC c = l at *; unfold upC; split <;> omega
  · generalize upC c = u at *; generalize lowC c = l at *; unfold upC; split <;> omega
  · generalize upC c = u at *; generalize lowC c = l at *; unfold lowC; split <;> omega
  · rw [hA, hA]; generalize upC c = u at *; exact decide_eq_decide.2 (by omega)
  · rw [hA, hA]; generalize lowC c = l at *; exact decide_eq_decide.2 (by omega)
  · rw [hA]; intro h; have := of_decide_eq_true h; omega
  · rw [hA]; intro h; have := of_decide_eq_false h; omega
theorem textsCase_c {H : Array Obj} {c : Int} (hc : -2147483648 ≤ c ∧ c ≤ 2147483647) : morainelaw23_TextsCase.C c H (fun v H' => v = .bool true ∧ Ext H H') := by
  refine HC.via fun R hR => morainelaw23_TextsCase.link ?_
  unfold morainelaw23_TextsCase.pt
  refine HC.mono (obj_New_c ⟨by decide, by decide⟩) ?_
  rintro _ H1 (⟨hn, _⟩ | ⟨_, k, x, rfl, V1, hx, e1, hy⟩)
  · exact absurd ⟨by decide, by decide⟩ hn
  have L1 : Live H H1 k x := ⟨V1.inv.2.1, V1.inv.2.2, e1, hy⟩
  clear hx V1
  refine ⟨_, _, rfl, ?_⟩
  by_cases hout : (c < 0 ∨ c > 1114111) ∨ (c ≥ 55296 ∧ c ≤ 57343)
  · rw [if_pos (by simpa using hout)]
    refine ⟨fun q A => q = true ∧ Ext H A, ?_, ?_⟩
    · rw [if_pos rfl]
      refine HC.mono awake23_c ?_
      rintro _ A ⟨rfl, e⟩
      exact ⟨_, rfl, rfl, e1.trans e⟩
    rintro _ A ⟨rfl, e⟩
    exact hR _ _ ⟨rfl, e⟩
  rw [if_neg (by simpa using hout)]
  have h0 : 0 ≤ c := by omega
  have h1 : c ≤ 1114111 := by omega
  have hl : letterB c = true := by unfold letterB; simp; omega
  rw [wrd23 h0 h1]
  obtain ⟨⟨u0, ul⟩, ⟨l0, ll⟩, hlu, hul, huu, hll, au, al, hne, heq⟩ := case_facts h0 hl
  intro b H4 hb hH4
  have L4 := L1.grow (Ext.push' hH4)
  refine HC.mono (does_up L4 h0 hl (push_get hb hH4)) ?_
  rintro _ H5 ⟨rfl, e5⟩
  refine ⟨_, _, rfl, fun b2 H6 hb2 hH6 => ?_⟩
  have L6 := (L4.grow e5).grow (Ext.push' hH6)
  refine HC.mono (does_low L6 h0 hl (push_get hb2 hH6)) ?_
  rintro _ H7 ⟨rfl, e7⟩
  refine ⟨_, _, rfl, fun b3 H8 hb3 hH8 => ?_⟩
  have L8 := (L6.grow e7).grow (Ext.push' hH8)
  refine HC.mono (does_low L8 u0 ul (push_get hb3 hH8)) ?_
  rintro _ H9 ⟨rfl, e9⟩
  refine ⟨_, _, rfl, fun b4 H10 hb4 hH10 => ?_⟩
  have L10 := (L8.grow e9).grow (Ext.push' hH10)
  refine HC.mono (does_up L10 l0 ll (push_get hb4 hH10)) ?_
  rintro _ H11 ⟨rfl, e11⟩
  rw [hlu, hul]
  refine ⟨_, _, rfl, fun b5 H12 hb5 hH12 => ?_⟩
  have L12 := (L10.grow e11).grow (Ext.push' hH12)
  refine HC.mono (does_up L12 l0 ll (push_get hb5 hH12)) ?_
  rintro _ H13 ⟨rfl, e13⟩
  rw [hul]
  refine ⟨_, _, rfl, fun b6 H14 hb6 hH14 => ?_⟩
  have L14 := (L12.grow e13).grow (Ext.push' hH14)
  refine HC.mono (does_low L14 u0 ul (push_get hb6 hH14)) ?_
  rintro _ H15 ⟨rfl, e15⟩
  rw [hlu]
  refine ⟨_, _, rfl, fun b7 H16 hb7 hH16 => ?_⟩
  have L16 := (L14.grow e15).grow (Ext.push' hH16)
  refine HC.mono (does_alpha L16 h0 hl (push_get hb7 hH16)) ?_
  rintro _ H17 ⟨rfl, e17⟩
  refine ⟨_, _, rfl, fun b8 H18 hb8 hH18 => ?_⟩
  have L18 := (L16.grow e17).grow (Ext.push' hH18)
  refine HC.mono (does_alpha L18 u0 ul (push_get hb8 hH18)) ?_
  rintro _ H19 ⟨rfl, e19⟩
  refine ⟨_, _, rfl, fun b9 H20 hb9 hH20 => ?_⟩
  have L20 := (L18.grow e19).grow (Ext.push' hH20)
  refine HC.mono (does_alpha L20 l0 ll (push_get hb9 hH20)) ?_
  rintro _ H21 ⟨rfl, e21⟩
  have LE := (L20.grow e21).ext
  rw [au, al]
  refine ⟨_, _, rfl, ?_⟩
  rw [if_neg (by simp)]
  by_cases ha : alphaC c = true
  · have hn := hne ha
    have ht : truthW (alphaC c) = 12 := by rw [ha]; rfl
    rw [ht, if_pos (by rw [bne_iff_ne.2 (show upC c * 256 + 60 ≠ lowC c * 256 + 60 by omega)]; rfl), if_pos rfl]
    refine HC.mono awake23_c ?_
    rintro _ A ⟨rfl, e⟩
    exact ⟨_, rfl, hR _ _ ⟨rfl, LE.trans e⟩⟩
  · have ha' : alphaC c = false := by simpa using ha
    obtain ⟨hu, hw⟩ := heq ha'
    have ht : truthW (alphaC c) = 4 := by rw [ha']; rfl
    rw [ht, hu, hw, if_pos (by simp), if_neg (by decide), if_pos rfl, if_pos rfl]
    refine HC.mono awake23_c ?_
    rintro _ A ⟨rfl, e⟩
    exact ⟨_, rfl, hR _ _ ⟨rfl, LE.trans e⟩⟩

set_option maxRecDepth 100000 in
theorem lifted (os : Os) (started : os.Started) (H : Type) (enc : TypeId × Value → H) :
    ReturnsInHanded {} Tryz.checked os 7 .any (fun w args => (Rows.textsCaseSpec.pre enc Tryz.prog Tryz.f7 Rows.textsCaseRow.domain false w args ∧ laidMetH Tryz.prog Rows.textsCaseRow.laid w) ∧ sizedMet enc Tryz.prog Tryz.f7 (OpenSpec.ofChange Rows.textsCaseSpec) false w args)
      (Rows.textsCaseSpec.post enc Tryz.prog Tryz.f7 false true false false) := by
  refine law_lifted_laid (tb := 4) started (by kernel_rfl) Tryz.func7
    (ChangeSpec.witness_shaped (enc := enc) (C := Tryz.checked) (os := os) (X := fun w _ => laidMetH Tryz.prog Rows.textsCaseRow.laid w) false (World.laidAll Tryz.prog os Rows.textsCaseRow.laid) #[.int .i32 0] 8 (World.laidAll_os _ _ _)
      (World.shaped_of_ZipB (by kernel_rfl) (by kernel_rfl)) (by kernel_rfl) (by kernel_rfl) (by kernel_rfl)
      (by rw [MakeChecks.laidMetH_plain _ _ _ (by kernel_rfl)]; exact laidMet_laidAll _ (by kernel_rfl) (by kernel_rfl)))
    rfl (by kernel_rfl) rfl Tryz.underlying4 (fun ds hds => ?_) ?_
  · match ds, hds with
    | [d0], _ => rfl
  intro W base args ds p _ hval hA _
  rw [Tryz.params7] at hA hval
  obtain ⟨v0, vs0, d0, ds0, p0, q0, hargs, rfl, rfl, h0, r0⟩ := trodAll_cons hA
  obtain ⟨rfl, rfl, rfl⟩ := trodAll_nil r0
  obtain rfl : args = #[v0] := by cases args; simp_all
  obtain ⟨a0, rfl, rfl, rfl, w0⟩ := open_int Tryz.underlying21 (hval 0 21 v0 rfl rfl) h0
  exact textsCase_c (wf_i32 w0)

theorem over : Rows.TextsCaseSaid :=
  OpenClaim.holds_of_wide 7 Tryz.f7 rfl rfl rfl rfl rfl rfl rfl ⟨rfl, rfl, rfl, rfl, rfl⟩ rfl rfl rfl rfl rfl (by kernel_rfl) Tryz.func7 (by kernel_rfl)
    (of_decide_eq_true (by kernel_rfl)) (by unfold Func.isWrapper; first | (rw [if_pos (by decide +kernel)]; kernel_rfl) | (rw [if_neg (by decide +kernel)]; exact ⟨rfl, rfl⟩))
    (fun os started H enc _ => lifted os started H enc)
theorem proved : Rows.TextsCaseCardSaid :=
  Claim7.holds_tied_plain_at .later [] [.data, .pinned] true (true, "7894965f36cbce92406310930e64986d2ea7bf966cf13c5e6d826dd7bc3f29f6") false over (fun _ h => by cases h) (by kernel_rfl) (fun _ h => by cases h) textsCase_row_tie rfl ⟨rfl, rfl⟩ (by kernel_rfl) rfl
    (fun f fn hf hfn => by
      obtain rfl : f = 7 := Option.some.inj ((show Tryz.prog.funcNamed "moraine/morainelaw23.TextsCase" = some 7 by kernel_rfl).symm.trans hf) |>.symm
      obtain rfl : fn = Tryz.f7 := (Option.some.inj (Tryz.func7.symm.trans hfn)).symm
      exact ⟨by kernel_rfl, fun j t ht => by
        rw [Tryz.params7] at ht
        have hm : t ∈ [21] := by simpa using Array.mem_of_getElem? ht
        have hall : ([21].all fun u => !Tryz.prog.wantsStandIn u) = true := by kernel_rfl
        exact (show Tryz.prog.wantsStandIn t = false by simpa using List.all_eq_true.1 hall t hm)⟩)
    (by kernel_rfl)
#print axioms proved
end Go.Proofs.YthlohokmnajpoaaGreatDoor.textsCase
