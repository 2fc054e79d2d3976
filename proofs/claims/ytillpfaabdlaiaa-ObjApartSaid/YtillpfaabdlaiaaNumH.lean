/-
  Numbers on a heap: Int, Num. Proves nothing of any one statement.
-/
import Derived.Test.YtillpfaabdlaiaaNum
set_option linter.unusedVariables false
set_option linter.unusedSimpArgs false
namespace Go.Proofs.Ytillpfaabdlaiaa
open Go

theorem fixR_in {neg : Bool} {ls : List Int} (hlm : ∀ x ∈ ls, IsLimb x) (h : (fixR neg ls).2 = true) : -1152921504606846976 ≤ (fixR neg ls).1 ∧ (fixR neg ls).1 < 1152921504606846976 := by
  have hl0 := limb_at hlm 0
  have hl1 := limb_at hlm 1
  have hX : fixX ls = ls.getD 0 0 + 4294967296 * ls.getD 1 0 := rfl
  unfold fixR at h ⊢
  by_cases h1 : 2 < top ls
  · rw [if_pos h1] at h; exact absurd h (by decide)
  rw [if_neg h1] at h ⊢
  by_cases h2 : fixX ls > 1152921504606846976
  · rw [if_pos h2] at h; exact absurd h (by decide)
  rw [if_neg h2] at h ⊢
  by_cases h3 : fixX ls = 1152921504606846976 ∧ neg = false
  · rw [if_pos h3] at h; exact absurd h (by decide)
  rw [if_neg h3] at h ⊢
  by_cases h4 : neg = true
  · rw [if_pos h4]; exact ⟨by show _ ≤ -fixX ls; omega, by show -fixX ls < _; omega⟩
  · rw [if_neg h4]
    have : fixX ls ≠ 1152921504606846976 := fun e => h3 ⟨e, by simpa using h4⟩
    exact ⟨by show _ ≤ fixX ls; omega, by show fixX ls < _; omega⟩
theorem limbs_word {ls : List Int} (h : ∀ x ∈ ls, IsLimb x) : ∀ x ∈ ls, IsWord x := fun x hx => by have := h x hx; exact ⟨this.1, by omega⟩
theorem limbs_trim {ls : List Int} (h : ∀ x ∈ ls, IsLimb x) : ∀ x ∈ trim ls, IsLimb x := fun x hx => h x (trim_mem hx)

def bigR (o : Option (Blk × Hp)) (neg : Bool) (ls : List Int) : Int × Int :=
  if 48 < top ls then (0, 6) else if (fixR (normR neg ls).1 (trim ls)).2 = true then (fixW (fixR (normR neg ls).1 (trim ls)).1, 0) else makeR o 3 (if (normR neg ls).1 = true then 1 else 0) (trim ls)
def bigO (o : Option (Blk × Hp)) (neg : Bool) (ls : List Int) : Option (Blk × Hp) :=
  if 48 < top ls then o else if (fixR (normR neg ls).1 (trim ls)).2 = true then o else makeO o 3 (if (normR neg ls).1 = true then 1 else 0) (trim ls)
theorem obj_Int_c {H : Array Obj} {hv : Option Addr} {o : Option (Blk × Hp)} {neg : Bool} {mB : Option Addr} {mN mC : Nat} {ls : List Int} (V : View H hv o) (hcn : cntOK o)
    (hs : SrcAt H mB (lvs ls)) (hn : mN = ls.length) (hc : mN ≤ mC) (h62 : mN ≤ 1000000) (hlm : ∀ x ∈ ls, IsLimb x) :
    obj_Heap_Int.C hv neg mB mN mC H (fun v H' => v = .tuple #[.int .u64 (bigR o neg ls).1, .int .i64 (bigR o neg ls).2] ∧ View H' hv (bigO o neg ls) ∧ Fr (own o) H H') := by
  refine HC.via fun R hR => obj_Heap_Int.link ?_
  unfold obj_Heap_Int.pt
  intro b H1 hb hH1
  have e1 : Ext H H1 := Ext.push' hH1
  refine ⟨_, _, _, _, box_row (push_get hb hH1), ?_⟩
  refine HC.mono (num_Norm_c (hs.ext e1) hn hc h62) ?_
  rintro _ H2 ⟨B, n, c, rfl, hr, e2⟩
  refine ⟨_, _, _, _, _, rfl, ?_⟩
  intro b2 H3 hb2 hH3
  obtain ⟨hcp, hpu⟩ := box_new (vs := [.bool (normR neg ls).1, .slice B n c]) hb2 hH3 rfl rfl
  refine ⟨hcp, fun H4 hH4 => ?_⟩
  obtain ⟨g4, e4⟩ := hpu H4 hH4
  have e14 := (e1.trans e2).trans e4
  by_cases h48 : 48 < top ls
  · have h6 : (normR neg ls).2.2 = 6 := by unfold normR; rw [if_pos h48]
    rw [h6, if_neg (by decide)]
    refine hR _ _ ⟨?_, ?_, e14.fr⟩
    · unfold bigR; rw [if_pos h48]
    · unfold bigO; rw [if_pos h48]; exact V.ext e14
  have h0 : (normR neg ls).2.2 = 0 := by unfold normR; rw [if_neg h48]
  have ht : (normR neg ls).2.1 = trim ls := by unfold normR; rw [if_neg h48]
  rw [ht] at hr
  rw [h0, if_pos rfl]
  refine ⟨_, _, _, _, box_row g4, ?_⟩
  have hr4 := hr.ext e4
  have htl := trim_len ls
  have hln := hr.len
  refine HC.mono (num_Fix_c hr4.own.src hr.len hr.le (by omega) (limbs_trim hlm)) ?_
  rintro _ H5 ⟨rfl, e5⟩
  refine ⟨_, _, rfl, ?_⟩
  have e15 := e14.trans e5
  by_cases hfx : (fixR (normR neg ls).1 (trim ls)).2 = true
  · rw [if_pos hfx]
    have hin := fixR_in (limbs_trim hlm) hfx
    refine HC.mono (word_Fix_c ⟨by omega, by omega⟩) ?_
    rintro _ H6 ⟨rfl, e6⟩
    rw [if_pos hin]
    refine ⟨_, _, rfl, hR _ _ ⟨?_, ?_, (e15.trans e6).fr⟩⟩
    · unfold bigR; rw [if_neg h48, if_pos hfx]
    · unfold bigO; rw [if_neg h48, if_pos hfx]; exact V.ext (e15.trans e6)
  rw [if_neg hfx]
  have g5 := e5.get g4
  have hr5 := hr4.ext e5
  refine ⟨B, n, c, by rw [box_get g5]; rfl, ?_⟩
  refine ⟨fun p m d i H' => ∃ k : Nat, i = k ∧ k ≤ (trim ls).length ∧ Ext H5 H' ∧ Own H' 32 1 p m d (wvs ((trim ls).take k)) ∧ m = k ∧ (∀ j, j ∈ blks p → H5.size ≤ j), fun _ _ _ i _ => ((trim ls).length - i).toNat, ⟨0, rfl, by omega, Ext.refl _, by simpa using own_nil, rfl, by simp⟩, ?_⟩
  rintro p m d i H7 ⟨k, rfl, hk, e7, how, hmk, hbk⟩
  obtain rfl := hmk.symm
  by_cases hlt : (k : Int) < (n : Int)
  · rw [if_pos hlt]
    obtain ⟨a, rfl, hrow⟩ := src_some (hr5.ext e7).own.src (by omega)
    refine ⟨a, rfl, ⟨by omega, hlt⟩, (trim ls).getD k 0, by rw [show Int.toNat (k : Int) * 1 = k by omega]; exact rowD hrow (by omega), ?_⟩
    have hlb := limb_at (limbs_trim hlm) k
    intro b3 H8 hb3 hH8
    rw [wu64 (n := (trim ls).getD k 0) ⟨hlb.1, by omega⟩] at hH8
    have e8 : Ext H7 H8 := Ext.push' hH8
    refine own_append (ys := wvs [(trim ls).getD k 0]) (how.ext e8) (rowAt_blk (push_get hb3 hH8) _ 0 0 (fun j hj => by simp)) (by simp) (allOne_wvs _) rfl (by omega) ?_
    intro p' c' H9 how9 f9 hnew
    refine ⟨⟨k + 1, by rw [w64 (by omega)]; omega, by omega, (e7.trans e8).fr_trans f9 hbk, ?_, rfl, fun j hj => ?_⟩, by show (((trim ls).length : Int) - IntKind.wrap .i64 ((k : Int) + 1)).toNat < (((trim ls).length : Int) - (k : Int)).toNat; rw [w64 (by omega)]; omega⟩
    · rw [List.take_succ_eq_append_getElem (by omega), ← getD_at (by omega) 0]
      simpa [wvs] using how9
    · rcases hnew j hj with h | h
      · exact hbk j h
      · have := (e7.trans e8).size; omega
  rw [if_neg hlt]
  have hkn : k = (trim ls).length := by omega
  rw [hkn, List.take_length] at how
  refine ⟨_, by rw [hat_blk (e7.get g5)]; rfl, ?_⟩
  have e17 := e15.trans e7
  have key : ∀ mo : Int, mo = (if (normR neg ls).1 = true then 1 else 0) → obj_Heap_Make.C hv 3 mo p k d H7 (fun v_4 H10 => ∃ ra_3 : Int, ∃ rb_4 : Int, v_4 = .tuple #[.int .u64 ra_3, .int .i64 rb_4] ∧ R (.tuple #[.int .u64 ra_3, .int .i64 rb_4]) H10) := by
    intro mo hmo
    have hmw : IsWord mo := by rw [hmo]; split <;> exact ⟨by decide, by decide⟩
    refine HC.mono (obj_Make_c (ws := trim ls) (V.ext e17) how.src (by omega) (limbs_word (limbs_trim hlm)) (by decide) hmw hcn (by omega)) ?_
    rintro _ H10 ⟨rfl, V10, f10⟩
    refine ⟨_, _, rfl, hR _ _ ⟨?_, ?_, e17.fr.trans f10⟩⟩
    · unfold bigR; rw [if_neg h48, if_neg hfx, hmo]
    · unfold bigO; rw [if_neg h48, if_neg hfx, ← hmo]; exact V10
  by_cases hsg : (normR neg ls).1 = true
  · rw [if_pos hsg]; exact key 1 (by rw [if_pos hsg])
  · rw [if_neg hsg]; exact key 0 (by rw [if_neg hsg])

end Go.Proofs.Ytillpfaabdlaiaa
