/- The law ListsNobody of morainelaw22 holds: called with any arguments it answers true and leaves what it was handed as it was. No condition. -/
import Derived.Test.YthlohokmnajpoaaGreatLaws22
import Derived.Test.YthlohokmnajpoaaGreatWords
import Derived.Test.YthlohokmnajpoaaGreatL22ListsNobody
set_option linter.unusedVariables false
set_option linter.unusedSimpArgs false
namespace Go.Proofs.YthlohokmnajpoaaGreat.listsNobody
open Go Go.Proofs.YthlohokmnajpoaaGreat
open Go.ChangeShapes Go.WideShapes Go.ChangeAt Go.RowKit

set_option maxRecDepth 100000 in
theorem prims_c {H : Array Obj} : lists_Prims.C H (fun v H' => (∃ b c, v = .slice (some ⟨b, 0, none⟩) 30 c) ∧ Ext H H') := by
  refine HC.via fun R hR => lists_Prims.link ?_
  unfold lists_Prims.pt
  refine HC.mono lists_table_c ?_
  rintro _ H1 ⟨ps, rfl, hps, e1⟩
  have hl : ps.length = 30 := by have := congrArg List.length hps; rw [List.length_map] at this; exact this
  have hlen : (ps.flatMap primV).length = 90 := by rw [flat_len (sz := 3) (fun _ => rfl), hl]
  have hone : ∀ l : List (ByteArray × Int × Int), allOne (l.flatMap primV) = true := fun l => by
    induction l with
    | nil => rfl
    | cons p l ih => simpa [primV, allOne] using ih
  refine ⟨_, rfl, hlen, fun b H2 hb hH2 => ?_⟩
  have g2 := push_get hb hH2
  refine ⟨⟨hone ps, canPuts_blk g2 90 0 0 (by simp)⟩, fun H3 hH3 => ?_⟩
  obtain ⟨g3, f3⟩ := (box_set (n := 90) (vs := ps.flatMap primV) g2 (by rfl) hlen).2 H3 hH3
  exact hR _ _ ⟨⟨b, 30, rfl⟩, e1.trans ((Ext.push' hH2).fr_trans f3 (fun i hi => by simp at hi; omega))⟩
theorem apply_out {H : Array Obj} {hv : Option Addr} {o : Option (Blk × Hp)} {n : Int} {B : Option Addr} {N C : Nat} (V : View H hv o) (hn : o = none ∨ n < 0 ∨ 30 ≤ n) : lists_Apply.C hv n B N C H (fun v H' => v = .tuple #[.int .u64 0, .int .i64 1] ∧ H = H') := by
  refine HC.via fun R hR => lists_Apply.link ?_
  unfold lists_Apply.pt
  cases V with
  | nobody => exact hR _ _ ⟨rfl, rfl⟩
  | empty h => rw [onPtr_some]; exact ⟨_, h, hR _ _ ⟨rfl, rfl⟩⟩
  | real h ok =>
    rw [onPtr_some]
    refine ⟨_, h.hPtr, ?_⟩
    rw [onPtr_some, if_pos (by
      rcases hn with h | h | h
      · cases h
      · rw [decide_eq_true h]; rfl
      · rw [decide_eq_true (show n ≥ 30 from h)]; simp)]
    exact hR _ _ ⟨rfl, rfl⟩

theorem law (n : Int) (aB : Option Addr) (aN aC : Nat) (xs : List Int) (H : Array Obj) (hn : -9223372036854775808 ≤ n ∧ n ≤ 9223372036854775807) (A : Nums H .u64 aB aN xs) (_ : aN ≤ maxLen) :
    morainelaw22_ListsNobody.C n aB aN aC H (fun v H' => v = .bool true ∧ Ext H H') := by
  refine HC.via fun R hR => morainelaw22_ListsNobody.link ?_
  unfold morainelaw22_ListsNobody.pt
  by_cases hbig : (aN : Int) > 100
  · rw [if_pos hbig]
    refine HC.mono awake22_c ?_
    rintro _ H1 ⟨rfl, e1⟩
    exact ⟨_, rfl, hR _ _ ⟨rfl, e1⟩⟩
  rw [if_neg hbig]
  refine HC.mono (apply_out .nobody (.inl rfl)) ?_
  rintro _ H2 ⟨rfl, rfl⟩
  refine ⟨_, _, rfl, fun b H3 hb hH3 => ?_⟩
  have e3 : Ext H H3 := Ext.push' hH3
  refine HC.mono (apply_out (.empty (by rw [hat_blk (push_get hb hH3)]; rfl)) (.inl rfl)) ?_
  rintro _ H4 ⟨rfl, rfl⟩
  refine ⟨_, _, rfl, HC.mono (obj_New_c ⟨by decide, by decide⟩) ?_⟩
  rintro _ H5 (⟨hno, _⟩ | ⟨_, k, x, rfl, V5, hx, e5, hy⟩)
  · exact absurd ⟨by decide, by decide⟩ hno
  refine ⟨_, _, rfl, ?_⟩
  rw [if_neg (by decide)]
  have L5 : Live H H5 k x := ⟨V5.inv.2.1, V5.inv.2.2, e3.trans e5, fun i hi => by have := hy i hi; have := e3.size; omega⟩
  have hw0 : x.sp.mem.words [] = 0 := by subst hx; exact words_fresh _ _
  clear hx V5
  by_cases hneg : n < 0
  · rw [if_pos hneg]
    refine HC.mono (apply_out L5.view (.inr (.inl hneg))) ?_
    rintro _ H6 ⟨rfl, rfl⟩
    refine ⟨_, _, rfl, ?_⟩
    rw [if_pos rfl, if_pos rfl]
    refine ⟨_, rfl, _, L5.at'.hPtr, _, rfl, _, L5.at'.cd.cPtr, HC.mono (space_Words_c (gs := []) L5.at'.cd.sp L5.ok rfl rfl (by decide)) ?_⟩
    rintro _ H7 ⟨rfl, e7⟩
    refine ⟨_, rfl, ?_⟩
    rw [if_pos hw0]
    refine HC.mono awake22_c ?_
    rintro _ H8 ⟨rfl, e8⟩
    exact ⟨_, rfl, hR _ _ ⟨rfl, (L5.ext.trans e7).trans e8⟩⟩
  rw [if_neg hneg]
  refine HC.mono prims_c ?_
  rintro _ H9 ⟨⟨bp, cp, rfl⟩, e9⟩
  refine ⟨_, _, _, rfl, ?_⟩
  have L9 := L5.grow e9
  by_cases hge : n ≥ ((30 : Nat) : Int)
  · rw [if_pos hge]
    refine HC.mono (apply_out L9.view (.inr (.inr hge))) ?_
    rintro _ H10 ⟨rfl, rfl⟩
    refine ⟨_, _, rfl, ?_⟩
    rw [if_pos rfl, if_pos rfl]
    refine ⟨_, rfl, _, L9.at'.hPtr, _, rfl, _, L9.at'.cd.cPtr, HC.mono (space_Words_c (gs := []) L9.at'.cd.sp L9.ok rfl rfl (by decide)) ?_⟩
    rintro _ H11 ⟨rfl, e11⟩
    refine ⟨_, rfl, ?_⟩
    rw [if_pos hw0]
    refine HC.mono awake22_c ?_
    rintro _ H12 ⟨rfl, e12⟩
    exact ⟨_, rfl, hR _ _ ⟨rfl, (L9.ext.trans e11).trans e12⟩⟩
  rw [if_neg hge]
  refine HC.mono awake22_c ?_
  rintro _ H13 ⟨rfl, e13⟩
  exact ⟨_, rfl, hR _ _ ⟨rfl, L9.ext.trans e13⟩⟩

set_option maxRecDepth 100000 in
theorem lifted (os : Os) (started : os.Started) (H : Type) (enc : TypeId × Value → H) :
    ReturnsInHanded {} Tryz.checked os 3 .any (Rows.listsNobodySpec.pre6 enc Tryz.prog Tryz.f3 Rows.listsNobodyRow.domain false) (Rows.listsNobodySpec.post enc Tryz.prog Tryz.f3 false true false false) := by
  refine law_lifted (tb := 4) started (by kernel_rfl) Tryz.func3
    (ChangeSpec.witness6 (enc := enc) (C := Tryz.checked) false ⟨#[], #[.int .i64 0, .slice none 0 0], []⟩ 8 (by kernel_rfl) (by kernel_rfl) (by kernel_rfl) (by kernel_rfl))
    rfl (by kernel_rfl) rfl Tryz.underlying4 (fun ds hds => ?_) ?_
  · match ds, hds with
    | [d0, d1], _ => rfl
  intro W base args ds p hval hA _
  rw [Tryz.params3] at hA hval
  obtain ⟨v0, vs0, d0, ds0, p0, q0, hargs, rfl, rfl, h0, r0⟩ := trodAll_cons hA
  obtain ⟨v1, vs1, d1, ds1, p1, q1, rfl, rfl, rfl, h1, r1⟩ := trodAll_cons r0
  obtain ⟨rfl, rfl, rfl⟩ := trodAll_nil r1
  obtain rfl : args = #[v0, v1] := by cases args; simp_all
  obtain ⟨a0, rfl, rfl, rfl, w0⟩ := open_int Tryz.underlying3 (hval 0 3 v0 rfl rfl) h0
  obtain ⟨p1, n1, c1, x1, rfl, w1, u1⟩ := open_nums Tryz.underlying22 Tryz.underlying26 (by kernel_rfl) (B := maxLen) (.inl rfl) (hval 1 22 v1 rfl rfl) h1
  exact law a0 p1 n1 c1 x1 W.heap (wf_i64 w0) w1 u1

theorem over : Rows.listsNobodyRow.holds Tryz.pinned (OpenSpec.ofChange Rows.listsNobodySpec) :=
  OpenClaim.holds_of_wide 3 Tryz.f3 rfl rfl rfl rfl rfl rfl rfl ⟨rfl, rfl, rfl, rfl, rfl⟩ rfl rfl rfl rfl rfl (by kernel_rfl) Tryz.func3 (by kernel_rfl)
    (of_decide_eq_true (by kernel_rfl)) (by unfold Func.isWrapper; first | (rw [if_pos (by decide +kernel)]; kernel_rfl) | (rw [if_neg (by decide +kernel)]; exact ⟨rfl, rfl⟩))
    (fun os started H enc _ => lifted os started H enc)

theorem proved : Rows.ListsNobodySaid :=
  over
#print axioms proved
end Go.Proofs.YthlohokmnajpoaaGreat.listsNobody
