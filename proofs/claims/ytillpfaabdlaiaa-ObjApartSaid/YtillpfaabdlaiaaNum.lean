/-
  Numbers: trim, made, Norm, Fix, Of, May, Same; a heap's Int and Num. Proves nothing of any one statement.
-/
import Derived.Test.YtillpfaabdlaiaaText
import Derived.Test.YtillpfaabdlaiaaFnum
import Derived.Test.YtillpfaabdlaiaaFnsC
set_option linter.unusedVariables false
set_option linter.unusedSimpArgs false
namespace Go.Proofs.Ytillpfaabdlaiaa
open Go

abbrev lvs (ls : List Int) : List Value := ls.map (Value.int .u32)
theorem allOne_lvs : ∀ ls : List Int, allOne (lvs ls) = true
  | [] => rfl
  | w :: ws => by show (true && allOne (lvs ws)) = true; rw [allOne_lvs ws]; rfl
abbrev IsLimb (x : Int) : Prop := 0 ≤ x ∧ x < 4294967296
def topN (ls : List Int) : Nat → Nat
  | 0 => 0
  | k + 1 => if ls.getD k 0 = 0 then topN ls k else k + 1
theorem topN_le (ls : List Int) : ∀ k, topN ls k ≤ k
  | 0 => Nat.le_refl _
  | k + 1 => by unfold topN; split <;> have := topN_le ls k <;> omega
theorem topN_zero (ls : List Int) : ∀ k i, topN ls k ≤ i → i < k → ls.getD i 0 = 0
  | 0, i, _, h => by omega
  | k + 1, i, h, hi => by
    unfold topN at h
    by_cases hz : ls.getD k 0 = 0
    · rw [if_pos hz] at h
      by_cases hik : i = k
      · rw [hik]; exact hz
      · exact topN_zero ls k i h (by omega)
    · rw [if_neg hz] at h; omega
abbrev top (ls : List Int) : Nat := topN ls ls.length
theorem top_le (ls : List Int) : top ls ≤ ls.length := topN_le _ _
def trim (ls : List Int) : List Int := ls.take (top ls)
theorem trim_len (ls : List Int) : (trim ls).length = top ls := by unfold trim; rw [List.length_take]; have := top_le ls; omega
theorem top_zero (ls : List Int) (i : Nat) (h : top ls ≤ i) : ls.getD i 0 = 0 := by
  by_cases hi : i < ls.length
  · exact topN_zero ls _ i h hi
  · rw [List.getD, List.getElem?_eq_none (by omega)]; rfl
theorem getD_past (ls : List Int) (i : Nat) (h : ls.length ≤ i) : ls.getD i 0 = 0 := by rw [List.getD, List.getElem?_eq_none h]; rfl
theorem trim_mem {ls : List Int} {x : Int} (h : x ∈ trim ls) : x ∈ ls := List.mem_of_mem_take h

theorem rowD {H : Array Obj} {a : Addr} {ls : List Int} (h : RowAt H a 0 (lvs ls)) {i : Nat} (hi : i < ls.length) : hat H (a.add i) = some (.int .u32 (ls.getD i 0)) := by
  have := rowAt_hat h i (.int .u32 (ls.getD i 0)) (by simp [lvs, hi])
  rw [Nat.zero_add] at this; exact this
theorem src_some {H : Array Obj} {B : Option Addr} {ls : List Int} (h : SrcAt H B (lvs ls)) (hl : 0 < ls.length) : ∃ a, B = some a ∧ RowAt H a 0 (lvs ls) := by
  cases B with
  | none => rw [SrcAt_none] at h; simp [lvs] at h; subst h; simp at hl
  | some a => exact ⟨a, rfl, h⟩
theorem src_take {H : Array Obj} {B : Option Addr} {vs : List Value} (h : SrcAt H B vs) (k : Nat) : SrcAt H B (vs.take k) := by
  cases B with
  | none => rw [SrcAt_none] at h; subst h; simp
  | some a =>
    rw [SrcAt_some] at h ⊢
    refine rowAt_of fun j v hv => ?_
    have hj : vs[j]? = some v := by
      rw [List.getElem?_take] at hv; split at hv
      · exact hv
      · cases hv
    exact rowAt_hat h j v hj
theorem lvs_take (ls : List Int) (k : Nat) : lvs (ls.take k) = (lvs ls).take k := by simp [lvs, List.map_take]
theorem num_trim_c {H : Array Obj} {mB : Option Addr} {mN mC : Nat} {ls : List Int} (hs : SrcAt H mB (lvs ls)) (hn : mN = ls.length) (hc : mN ≤ mC) (h62 : mN < 4611686018427387904) :
    num_trim.C mB mN mC H (fun v H' => ∃ c, v = .slice mB (top ls) c ∧ top ls ≤ c ∧ H' = H) := by
  refine HC.via fun R hR => num_trim.link ?_
  unfold num_trim.pt
  refine ⟨fun nv H' => ∃ k : Nat, nv = k ∧ k ≤ mN ∧ topN ls k = top ls ∧ H' = H, fun nv _ => nv.toNat, ⟨mN, rfl, Nat.le_refl _, by rw [hn], rfl⟩, ?_⟩
  rintro nv H1 ⟨k, rfl, hk, ht, rfl⟩
  by_cases h0 : (k : Int) > 0
  · rw [if_pos h0]
    obtain ⟨j, rfl⟩ : ∃ j, k = j + 1 := ⟨k - 1, by omega⟩
    have hw : IntKind.wrap .i64 (((j + 1 : Nat) : Int) - 1) = (j : Int) := by rw [w64 (by omega)]; omega
    rw [hw]
    obtain ⟨a, rfl, hr⟩ := src_some hs (by omega)
    refine ⟨a, rfl, ⟨by omega, by omega⟩, ls.getD j 0, by rw [show Int.toNat (j : Int) * 1 = j by omega]; exact rowD hr (by omega), ?_⟩
    by_cases hz : ls.getD j 0 = 0
    · rw [if_pos hz]
      refine ⟨⟨j, rfl, by omega, ?_, rfl⟩, by show ((j : Int)).toNat < (((j + 1 : Nat) : Int)).toNat; omega⟩
      rw [← ht]; show _ = (if _ = 0 then _ else _); rw [if_pos hz]
    · rw [if_neg hz]
      have hj : top ls = j + 1 := by rw [← ht]; show (if _ = 0 then _ else _) = _; rw [if_neg hz]
      refine ⟨0, j + 1, rfl, rfl, by omega, by omega, fun sl hsl => ?_⟩
      rw [if_neg (by omega)] at hsl
      simp only [Option.map_some, Nat.zero_mul, addr_plus0] at hsl
      refine hR _ _ ⟨mC - 0, ?_, by omega, rfl⟩
      rw [hsl, hj, Nat.sub_zero]
  · rw [if_neg h0]
    have hk0 : k = 0 := by omega
    subst hk0
    refine ⟨0, 0, rfl, rfl, by omega, by omega, fun sl hsl => ?_⟩
    have hsl' : sl = mB := by
      rw [hsl]
      by_cases hm : mC = 0
      · rw [if_pos hm]
      · rw [if_neg hm]; cases mB <;> simp [addr_plus0]
    refine hR _ _ ⟨mC - 0, ?_, ?_, rfl⟩
    · rw [hsl', ← ht]; rfl
    · rw [← ht]; exact Nat.zero_le _

structure NumRow (lo : Nat) (H : Array Obj) (B : Option Addr) (n c : Nat) (ls : List Int) : Prop where
  own : Own H 77 1 B n c (lvs ls)
  young : ∀ i, i ∈ blks B → lo ≤ i
theorem NumRow.len {lo : Nat} {H : Array Obj} {B : Option Addr} {n c : Nat} {ls : List Int} (h : NumRow lo H B n c ls) : n = ls.length := by
  have := h.own.len; simp at this; omega
theorem NumRow.le {lo : Nat} {H : Array Obj} {B : Option Addr} {n c : Nat} {ls : List Int} (h : NumRow lo H B n c ls) : n ≤ c := h.own.le
theorem NumRow.ext {lo : Nat} {H H' : Array Obj} {B : Option Addr} {n c : Nat} {ls : List Int} (h : NumRow lo H B n c ls) (e : Ext H H') : NumRow lo H' B n c ls := ⟨h.own.ext e, h.young⟩
theorem NumRow.keep {lo : Nat} {S : List Nat} {H H' : Array Obj} {B : Option Addr} {n c : Nat} {ls : List Int} (h : NumRow lo H B n c ls) (k : Fr S H H') (hS : ∀ i, i ∈ S → i < lo) : NumRow lo H' B n c ls :=
  ⟨h.own.keep k (fun b hb hS' => by have := h.young b hb; have := hS b hS'; omega), h.young⟩
theorem NumRow.low {lo lo' : Nat} {H : Array Obj} {B : Option Addr} {n c : Nat} {ls : List Int} (h : NumRow lo H B n c ls) (hl : lo' ≤ lo) : NumRow lo' H B n c ls := ⟨h.own, fun i hi => Nat.le_trans hl (h.young i hi)⟩

theorem num_clone_c {H : Array Obj} {sB : Option Addr} {sN sC : Nat} {ls : List Int} (hs : SrcAt H sB (lvs ls)) (hn : sN = ls.length) (hb : sN ≤ 1000000) :
    slices_Clone_uint32_uint32.C sB sN sC H (fun v H' => ∃ B c, v = .slice B sN c ∧ NumRow H.size H' B sN c ls ∧ Ext H H') := by
  refine HC.via fun R hR => slices_Clone_uint32_uint32.link ?_
  unfold slices_Clone_uint32_uint32.pt
  cases sB with
  | none =>
    rw [onPtr_none]
    rw [SrcAt_none] at hs
    simp [lvs] at hs
    subst hs
    simp at hn
    subst hn
    exact hR _ _ ⟨none, 0, rfl, ⟨own_nil, by simp⟩, Ext.refl _⟩
  | some a =>
    rw [onPtr_some]
    intro b H1 hb1 hH1
    have e1 : Ext H H1 := Ext.push' hH1
    have ho : Own H1 77 1 (some ⟨b, 0, none⟩) 0 0 [] := ⟨rfl, _, push_get hb1 hH1, rfl, Nat.le_refl _, rfl, fun j hj => by omega⟩
    refine own_append ho (e1.rowAt hs) (by simp [lvs, hn]) (allOne_lvs _) rfl (by omega) ?_
    intro p c H2 how f hnew
    rw [Nat.zero_add] at how ⊢
    refine hR _ _ ⟨p, c, rfl, ⟨by simpa using how, fun i hi => ?_⟩, e1.fr_trans f (fun i hi => by simp at hi; omega)⟩
    rcases hnew i hi with h | h
    · simp at h; omega
    · have := e1.size; omega

def normR (neg : Bool) (ls : List Int) : Bool × List Int × Int := if 48 < top ls then (false, [], 6) else (neg && decide (0 < top ls), trim ls, 0)
theorem numRow_nil {lo : Nat} {H : Array Obj} : NumRow lo H none 0 0 [] := ⟨own_nil, by simp⟩
theorem num_made_c {H : Array Obj} {neg : Bool} {mB : Option Addr} {mN mC : Nat} {ls : List Int} (hs : SrcAt H mB (lvs ls)) (hn : mN = ls.length) (hc : mN ≤ mC) (h62 : mN ≤ 1000000) :
    num_made.C neg mB mN mC H (fun v H' => ∃ B n c, v = .tuple #[.agg #[.bool (normR neg ls).1, .slice B n c], .int .i64 (normR neg ls).2.2] ∧ NumRow H.size H' B n c (normR neg ls).2.1 ∧ Ext H H') := by
  refine HC.via fun R hR => num_made.link ?_
  unfold num_made.pt
  intro b H1 hb hH1
  have e1 : Ext H H1 := Ext.push' hH1
  have hs1 : SrcAt H1 mB (lvs ls) := hs.ext e1
  refine HC.mono (num_trim_c hs1 hn hc (by omega)) ?_
  rintro _ H2 ⟨c, rfl, htc, rfl⟩
  refine ⟨_, _, _, rfl, ?_⟩
  have hg := push_get hb hH1
  have hle := top_le ls
  by_cases h48 : (top ls : Int) > 48
  · rw [if_pos h48]
    obtain ⟨hcp, hpu⟩ := box_new (vs := [.bool false, .slice none 0 0]) hb hH1 rfl rfl
    refine ⟨hcp, fun H3 hH3 => ?_⟩
    obtain ⟨g3, e3⟩ := hpu H3 hH3
    refine ⟨_, _, _, _, box_row g3, hR _ _ ⟨none, 0, 0, ?_, ?_, e3⟩⟩
    · unfold normR; rw [if_pos (by omega)]
    · unfold normR; rw [if_pos (by omega)]; exact numRow_nil
  rw [if_neg h48]
  have hno : ¬ 48 < top ls := by omega
  have key : ∀ (sg : Bool), sg = (neg && decide (0 < top ls)) → slices_Clone_uint32_uint32.C mB (top ls) c H2 (fun v H4 => ∃ xB_2 : Option Addr, ∃ xN_2 : Nat, ∃ xC_2 : Nat, v = .slice xB_2 xN_2 xC_2 ∧ (CanPuts H4 (Addr.mk b 0 none) 0 2) ∧ ∀ H5 : Array Obj, H5 = hputs H4 (Addr.mk b 0 none) [.bool sg, .slice xB_2 xN_2 xC_2] 0 →
    ∃ rNeg_2 : Bool, ∃ rMagB_2 : Option Addr, ∃ rMagN_2 : Nat, ∃ rMagC_2 : Nat, RowAt H5 (Addr.mk b 0 none) 0 [.bool rNeg_2, .slice rMagB_2 rMagN_2 rMagC_2] ∧ R (.tuple #[.agg #[.bool rNeg_2, .slice rMagB_2 rMagN_2 rMagC_2], .int .i64 0]) H5) := by
    intro sg hsg
    refine HC.mono (num_clone_c (ls := trim ls) (by unfold trim; rw [lvs_take]; exact src_take hs1 _) (trim_len ls).symm (by omega)) ?_
    rintro _ H4 ⟨B, c4, rfl, hr, e4⟩
    refine ⟨_, _, _, rfl, ?_⟩
    obtain ⟨hcp, hpu⟩ := box_set (vs := [.bool sg, .slice B (top ls) c4]) (e4.get hg) rfl rfl
    refine ⟨hcp, fun H5 hH5 => ?_⟩
    obtain ⟨g5, f5⟩ := hpu H5 hH5
    have hbs := lt_size hg
    refine ⟨_, _, _, _, box_row g5, hR _ _ ⟨B, top ls, c4, ?_, ?_, (e1.trans e4).fr_trans f5 (fun i hi => by simp at hi; omega)⟩⟩
    · unfold normR; rw [if_neg hno, hsg]
    · unfold normR; rw [if_neg hno]
      refine (hr.keep f5 (fun i hi => by simp at hi; omega)).low (by have := e1.size; omega)
  by_cases hneg : neg = true
  · rw [if_pos hneg]
    exact key _ (by rw [hneg, Bool.true_and]; exact decide_eq_decide.2 (by omega))
  · rw [if_neg hneg]
    exact key _ (by rw [show neg = false by simpa using hneg, Bool.false_and])
theorem num_Norm_c {H : Array Obj} {neg : Bool} {mB : Option Addr} {mN mC : Nat} {ls : List Int} (hs : SrcAt H mB (lvs ls)) (hn : mN = ls.length) (hc : mN ≤ mC) (h62 : mN ≤ 1000000) :
    num_Norm.C neg mB mN mC H (fun v H' => ∃ B n c, v = .tuple #[.agg #[.bool (normR neg ls).1, .slice B n c], .int .i64 (normR neg ls).2.2] ∧ NumRow H.size H' B n c (normR neg ls).2.1 ∧ Ext H H') := by
  refine HC.via fun R hR => num_Norm.link ?_
  unfold num_Norm.pt
  intro b H1 hb hH1 b2 H2 hb2 hH2
  have e1 : Ext H H1 := Ext.push' hH1
  have e2 : Ext H1 H2 := Ext.push' hH2
  have hg := e2.get (push_get hb hH1)
  have hg2 := push_get hb2 hH2
  refine ⟨neg, by rw [hat_blk hg]; rfl, mB, mN, mC, by rw [box_get hg]; rfl, ?_⟩
  refine HC.mono (num_made_c (hs.ext (e1.trans e2)) hn hc h62) ?_
  rintro _ H3 ⟨B, n, c, rfl, hr, e3⟩
  refine ⟨_, _, _, _, _, rfl, ?_⟩
  obtain ⟨hcp, hpu⟩ := box_set (vs := [.bool (normR neg ls).1, .slice B n c]) (e3.get hg2) rfl rfl
  refine ⟨hcp, fun H4 hH4 => ?_⟩
  obtain ⟨g4, f4⟩ := hpu H4 hH4
  have hb2s := lt_size hg2
  have h1s := e1.size
  refine ⟨_, _, _, _, box_row g4, hR _ _ ⟨B, n, c, rfl, ?_, ((e1.trans e2).trans e3).fr_trans f4 (fun i hi => by simp at hi; omega)⟩⟩
  exact (hr.keep f4 (fun i hi => by simp at hi; omega)).low (by have := e2.size; omega)

def fixX (ls : List Int) : Int := ls.getD 0 0 + 4294967296 * ls.getD 1 0
def fixP (ls : List Int) (k : Int) : Int := if k = 0 then 0 else if k = 1 then ls.getD 0 0 else fixX ls
def fixR (neg : Bool) (ls : List Int) : Int × Bool :=
  if 2 < top ls then (0, false) else if fixX ls > 1152921504606846976 then (0, false) else if fixX ls = 1152921504606846976 ∧ neg = false then (0, false)
  else if neg = true then (-fixX ls, true) else (fixX ls, true)
theorem limb_at {ls : List Int} (h : ∀ x ∈ ls, IsLimb x) (i : Nat) : IsLimb (ls.getD i 0) := by
  by_cases hi : i < ls.length
  · rw [getD_at hi]; exact h _ (List.getElem_mem hi)
  · rw [getD_past ls i (by omega)]; exact ⟨by omega, by omega⟩
theorem ior_lo {l h : Int} (hl : IsLimb l) (hh : IsLimb h) : ior .u64 l (h * 4294967296) = l + 4294967296 * h := by
  have h1 : ior .u64 l (h * 4294967296) = ior .u64 (h * 4294967296) l := by
    rw [ior_u64 ⟨hl.1, by omega⟩ ⟨by omega, by omega⟩, ior_u64 ⟨by omega, by omega⟩ ⟨hl.1, by omega⟩, Nat.or_comm]
  rw [h1, ior_add 32 ⟨by omega, by omega⟩ (by show _ % (4294967296 : Int) = 0; omega) ⟨hl.1, by show _ < (4294967296 : Int); omega⟩ (by decide)]
  omega
theorem fixP_top {ls : List Int} (h : top ls ≤ 2) : fixP ls (top ls) = fixX ls := by
  unfold fixP fixX
  by_cases h0 : top ls = 0
  · rw [if_pos (by omega), top_zero ls 0 (by omega), top_zero ls 1 (by omega)]; rfl
  rw [if_neg (by omega)]
  by_cases h1 : top ls = 1
  · rw [if_pos (by omega), top_zero ls 1 (by omega)]; omega
  rw [if_neg (by omega)]
theorem num_Fix_c {H : Array Obj} {neg : Bool} {mB : Option Addr} {mN mC : Nat} {ls : List Int} (hs : SrcAt H mB (lvs ls)) (hn : mN = ls.length) (hc : mN ≤ mC) (h62 : mN ≤ 1000000) (hlm : ∀ x ∈ ls, IsLimb x) :
    num_Fix.C neg mB mN mC H (fun v H' => v = .tuple #[.int .i64 (fixR neg ls).1, .bool (fixR neg ls).2] ∧ Ext H H') := by
  refine HC.via fun R hR => num_Fix.link ?_
  unfold num_Fix.pt
  intro b H1 hb hH1
  have e1 : Ext H H1 := Ext.push' hH1
  have hg := push_get hb hH1
  have hs1 : SrcAt H1 mB (lvs ls) := hs.ext e1
  have hl0 := limb_at hlm 0
  have hl1 := limb_at hlm 1
  have hX : fixX ls = ls.getD 0 0 + 4294967296 * ls.getD 1 0 := rfl
  refine ⟨mB, mN, mC, by rw [box_get hg]; rfl, ?_⟩
  refine HC.mono (num_trim_c hs1 hn hc (by omega)) ?_
  rintro _ H2 ⟨c, rfl, htc, rfl⟩
  have hle := top_le ls
  have hneg : hat H2 (Addr.mk b 0 none) = some (.bool neg) := by rw [hat_blk hg]; rfl
  refine ⟨_, _, _, rfl, ?_⟩
  refine ⟨fun x s H' => H' = H2 ∧ (0 ≤ s ∧ s ≤ 2 ∧ s ≤ (top ls : Int)) ∧ x = fixP ls s, fun x s H' => (2 - s).toNat, ⟨rfl, ⟨by omega, by omega, by omega⟩, rfl⟩, ?_⟩
  rintro x s H3 ⟨rfl, ⟨hs0, hs2, hst⟩, rfl⟩
  by_cases hlt : s < (if 2 < (top ls : Int) then 2 else (top ls : Int))
  · rw [if_pos hlt]
    have hlt2 : s < 2 ∧ s < (top ls : Int) := by split at hlt <;> omega
    obtain ⟨a, rfl, hr⟩ := src_some hs1 (by omega)
    have h32 : IntKind.wrap .i64 (32 * s) = 32 * s := w64 (by omega)
    refine ⟨a, rfl, ⟨hs0, hlt2.2⟩, ls.getD s.toNat 0, by rw [Nat.mul_one]; exact rowD hr (by omega), by rw [h32]; omega, ⟨rfl, ⟨by rw [w64 (by omega)]; omega, by rw [w64 (by omega)]; omega, by rw [w64 (by omega)]; omega⟩, ?_⟩, by show (2 - IntKind.wrap .i64 (s + 1)).toNat < (2 - s).toNat; rw [w64 (by omega)]; omega⟩
    rw [h32, w64 (n := s + 1) (by omega)]
    rcases (show s = 0 ∨ s = 1 by omega) with rfl | rfl
    · rw [show (0 : Int).toNat = 0 from rfl, wu64 (n := ls.getD 0 0) ⟨hl0.1, by omega⟩, ishl_u64 (32 * 0) 0 rfl (by decide)]
      show ior .u64 0 _ = ls.getD 0 0
      rw [show ls.getD 0 0 * 2 ^ 0 % 18446744073709551616 = ls.getD 0 0 by rw [Int.pow_zero, Int.mul_one]; omega, ior_u64 ⟨by decide, by decide⟩ ⟨hl0.1, by omega⟩]
      rw [show (0 : Int).toNat = 0 from rfl, Nat.zero_or]; have := hl0.1; omega
    · rw [show (1 : Int).toNat = 1 from rfl, wu64 (n := ls.getD 1 0) ⟨hl1.1, by omega⟩, ishl_u64 (32 * 1) 32 rfl (by decide)]
      show ior .u64 (ls.getD 0 0) _ = fixX ls
      rw [show ls.getD 1 0 * 2 ^ 32 % 18446744073709551616 = ls.getD 1 0 * 4294967296 by show ls.getD 1 0 * (4294967296 : Int) % 18446744073709551616 = _; omega, ior_lo hl0 hl1]
      rfl
  rw [if_neg hlt]
  by_cases h2 : (top ls : Int) > 2
  · rw [if_pos h2]; refine hR _ _ ⟨?_, e1⟩; unfold fixR; rw [if_pos (by omega)]
  rw [if_neg h2]
  have hse : s = (top ls : Int) := by
    rw [if_neg (by omega)] at hlt; omega
  subst hse
  rw [fixP_top (by omega)]
  have hno2 : ¬ 2 < top ls := by omega
  by_cases h3 : fixX ls > 1152921504606846976
  · rw [if_pos h3]; refine hR _ _ ⟨?_, e1⟩; unfold fixR; rw [if_neg hno2, if_pos h3]
  rw [if_neg h3]
  have hX0 : 0 ≤ fixX ls := by rw [hX]; exact Int.add_nonneg hl0.1 (by have := hl1.1; omega)
  have hminus : IntKind.wrap .i64 (0 - IntKind.wrap .i64 (fixX ls)) = -fixX ls := by rw [w64 (n := fixX ls) (by omega), w64 (by omega)]; omega
  have hplus : IntKind.wrap .i64 (fixX ls) = fixX ls := w64 (by omega)
  by_cases h4 : fixX ls = 1152921504606846976
  · rw [if_pos h4]
    refine ⟨neg, hneg, ?_⟩
    by_cases hb1 : neg = true
    · rw [if_pos hb1]
      refine ⟨neg, hneg, ?_⟩
      rw [if_pos hb1, hminus]; refine hR _ _ ⟨?_, e1⟩; unfold fixR; rw [if_neg hno2, if_neg h3, if_neg (fun h => by rw [hb1] at h; exact absurd h.2 (by decide)), if_pos hb1]
    · rw [if_neg hb1]; refine hR _ _ ⟨?_, e1⟩; unfold fixR; rw [if_neg hno2, if_neg h3, if_pos ⟨h4, by simpa using hb1⟩]
  rw [if_neg h4]
  refine ⟨neg, hneg, ?_⟩
  have hn4 : ¬ (fixX ls = 1152921504606846976 ∧ neg = false) := fun h => h4 h.1
  by_cases hb1 : neg = true
  · rw [if_pos hb1, hminus]; refine hR _ _ ⟨?_, e1⟩; unfold fixR; rw [if_neg hno2, if_neg h3, if_neg hn4, if_pos hb1]
  · rw [if_neg hb1, hplus]; refine hR _ _ ⟨?_, e1⟩; unfold fixR; rw [if_neg hno2, if_neg h3, if_neg hn4, if_neg hb1]

def mag (x : Int) : Int := if x < 0 then -x else x
end Go.Proofs.Ytillpfaabdlaiaa
