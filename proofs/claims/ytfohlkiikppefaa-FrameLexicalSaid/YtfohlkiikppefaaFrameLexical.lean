/- The law FrameLexical of morainelaw20 holds: called with any arguments it answers true and leaves what it was handed as it was. No condition. -/
import Derived.Test.YtfohlkiikppefaaLex20
import Derived.Test.YtfohlkiikppefaaL20FrameLexical
import Derived.Test.YtfohlkiikppefaaArg
namespace Go.Proofs.Ytfohlkiikppefaa.frameLexical
open Go Go.Proofs.Ytfohlkiikppefaa
open Go.ChangeShapes Go.WideShapes Go.ChangeAt Go.RowKit
set_option linter.unusedVariables false

structure StepOf where
  put : Int
  at' : Int
  up : Int
  i : Int
  l : NumsOf
  v : Int
def StepOf.cells (s : StepOf) : List Value := [.int .i64 s.put, .int .i64 s.at', .int .i64 s.up, .int .i64 s.i, .slice s.l.p s.l.n s.l.c, .int .u32 s.v]
structure StepOK (H : Array Obj) (s : StepOf) : Prop where
  up : I64 s.up
  i : I64 s.i
  l : Nums H .u32 s.l.p s.l.n s.l.xs
structure Steps (H : Array Obj) (p : Option Addr) (n : Nat) (L : List StepOf) : Prop where
  len : L.length = n
  at' : ∀ (i : Nat) (h : i < L.length), ∃ a, p = some a ∧ RowAt H (a.add (i * 6)) 0 L[i].cells
  each : ∀ s ∈ L, StepOK H s
theorem Steps.ext {H H' : Array Obj} {p : Option Addr} {n : Nat} {L : List StepOf} (h : Steps H p n L) (e : Ext H H') : Steps H' p n L :=
  ⟨h.len, fun i hi => by obtain ⟨a, h1, h2⟩ := h.at' i hi; exact ⟨a, h1, e.rowAt h2⟩, fun s hs => ⟨(h.each s hs).up, (h.each s hs).i, (h.each s hs).l.ext e⟩⟩

set_option maxRecDepth 100000 in
theorem open_steps {Hd : Type} {enc : TypeId × Value → Hd} {w : World} {base : Nat} {spare : Nat → Bool} {held : Bool} {B : Nat} {r : Reach} {b0 : Nat} {v : Value} {d : DataW Hd} {ps : List MemPlace} (hB : Small B d) (hval : Value.okWide Try.prog w r b0 47 v)
    (hd : DataW.Trod enc Try.prog w base spare held 47 v d ps) : ∃ p n c L, v = .slice p n c ∧ Steps w.heap p n L ∧ n ≤ B := by
  have cs6 : Try.prog.cellsOf 50 = 6 := by kernel_rfl
  have ci : Try.prog.cellsOf 3 = 1 := by kernel_rfl
  have cu : Try.prog.cellsOf 41 = 1 := by kernel_rfl
  have cl : Try.prog.cellsOf 40 = 1 := by kernel_rfl
  obtain ⟨p, n, c, rfl, hn, h0, hr⟩ := open_slice (Q := fun cs => ∃ s : StepOf, cs = s.cells ∧ StepOK w.heap s) Try.underlying47 cs6 (fun {fuel cs x} h hs => by
    obtain ⟨hlen, hf⟩ := rd_fields Try.underlying50 h hs
    rw [cs6] at hlen
    match cs, hlen with
    | [a0, a1, a2, a3, a4, a5], _ =>
      obtain ⟨n0, y0, g0, s0⟩ := hf 0 _ rfl
      obtain ⟨n1, y1, g1, s1⟩ := hf 1 _ rfl
      obtain ⟨n2, y2, g2, s2⟩ := hf 2 _ rfl
      obtain ⟨n3, y3, g3, s3⟩ := hf 3 _ rfl
      obtain ⟨n4, y4, g4, s4⟩ := hf 4 _ rfl
      obtain ⟨n5, y5, g5, s5⟩ := hf 5 _ rfl
      have e0 : ([a0, a1, a2, a3, a4, a5].drop 0).take (Try.prog.cellsOf 3) = [a0] := by rw [ci]; rfl
      have g0 : DataW.trod enc Try.prog w base spare held n0 3 [a0] = some y0 := by rw [← e0]; exact g0
      have e1 : ([a0, a1, a2, a3, a4, a5].drop 1).take (Try.prog.cellsOf 3) = [a1] := by rw [ci]; rfl
      have g1 : DataW.trod enc Try.prog w base spare held n1 3 [a1] = some y1 := by rw [← e1]; exact g1
      have e2 : ([a0, a1, a2, a3, a4, a5].drop 2).take (Try.prog.cellsOf 3) = [a2] := by rw [ci]; rfl
      have g2 : DataW.trod enc Try.prog w base spare held n2 3 [a2] = some y2 := by rw [← e2]; exact g2
      have e3 : ([a0, a1, a2, a3, a4, a5].drop 3).take (Try.prog.cellsOf 3) = [a3] := by rw [ci]; rfl
      have g3 : DataW.trod enc Try.prog w base spare held n3 3 [a3] = some y3 := by rw [← e3]; exact g3
      have e4 : ([a0, a1, a2, a3, a4, a5].drop 4).take (Try.prog.cellsOf 40) = [a4] := by rw [cl]; rfl
      have g4 : DataW.trod enc Try.prog w base spare held n4 40 [a4] = some y4 := by rw [← e4]; exact g4
      have e5 : ([a0, a1, a2, a3, a4, a5].drop 5).take (Try.prog.cellsOf 41) = [a5] := by rw [cu]; rfl
      have g5 : DataW.trod enc Try.prog w base spare held n5 41 [a5] = some y5 := by rw [← e5]; exact g5
      obtain ⟨x0, k0, w0⟩ := rd_int Try.underlying3 g0 s0
      obtain ⟨x1, k1, w1⟩ := rd_int Try.underlying3 g1 s1
      obtain ⟨x2, k2, w2⟩ := rd_int Try.underlying3 g2 s2
      obtain ⟨x3, k3, w3⟩ := rd_int Try.underlying3 g3 s3
      obtain ⟨x5, k5, w5⟩ := rd_int Try.underlying41 g5 s5
      obtain ⟨q, m, e, xs, k4, N, _⟩ := nums_of (rd_slice Try.underlying40 cu (rd_int Try.underlying41) g4 s4)
      cases k0; cases k1; cases k2; cases k3; cases k4; cases k5
      exact ⟨⟨x0, x1, x2, x3, ⟨q, m, e, xs⟩, x5⟩, rfl, ⟨wf_i64 w2, wf_i64 w3, N⟩⟩) hB hval hd
  cases p with
  | none => exact ⟨none, n, c, [], rfl, ⟨by rw [h0 rfl]; rfl, fun i hi => by simp at hi, by simp⟩, hn⟩
  | some a =>
    obtain ⟨L, hl, hL⟩ := choose_list (n := n) (Q := fun i (s : StepOf) => RowAt w.heap (a.add (i * 6)) 0 s.cells ∧ StepOK w.heap s) (fun i hi => by
      obtain ⟨vs, h1, h2, s, rfl, h4⟩ := hr a rfl i hi
      exact ⟨s, h2, h4⟩)
    exact ⟨some a, n, c, L, rfl, ⟨hl, fun i hi => ⟨a, rfl, (hL i hi).1⟩, fun s hs => by obtain ⟨i, hi, rfl⟩ := List.getElem_of_mem hs; exact (hL i hi).2⟩, hn⟩

/-- a number's word -/
def sh (x : Int) : Int := ishl .u64 (IntKind.wrap .u64 x) 3
theorem sh_word (x : Int) : IsWord (sh x) := by
  unfold sh
  rw [ishl_u64 3 3 rfl (by decide)]
  exact ⟨by omega, by omega⟩
theorem mask_bd (x : Int) : 0 ≤ iand .i64 x 65535 ∧ iand .i64 x 65535 ≤ 65535 := by
  unfold iand
  have h : (BitVec.ofInt IntKind.i64.bits x &&& BitVec.ofInt IntKind.i64.bits 65535).toNat ≤ 65535 := by
    rw [BitVec.toNat_and]
    exact Nat.le_trans Nat.and_le_right (by decide)
  rw [w64 (by omega)]
  omega

/-- what a put does: if the place is there, it is set there; else nothing is done, and an error answered -/
theorem put_spec {b : Blk} {x : Hp} {scs : List Sc} (M : Model x.sp.mem scs) (ok : SpOK x.sp) (hl : scs.length ≤ 100) {k up i v to : Int} {nv : Nat} (hk : 0 ≤ k ∧ k < scs.length) (hv : IsWord v)
    (hto : -1 ≤ to ∧ to < scs.length) (hab : ∀ r : Nat, x.sp.mem.aboveN (nv + r) (pw scs k) = x.sp.mem.aboveN r (pw scs to)) (hnv : (nv : Int) ≤ up ∨ nv = 0) (hex : up ≤ nv ∨ 1000 ≤ (nv : Int) ∨ to < 0) :
    ((0 ≤ up ∧ up < 1000 ∧ 0 ≤ to ∧ 0 ≤ i ∧ i < (scs.getD to.toNat Sc.none).ws.length) → eputE (some (b, x)) (pw scs k) up i v = 0 ∧ eputO (some (b, x)) (pw scs k) up i v = some (b, x.setMem (x.sp.mem.store ((scs.getD to.toNat Sc.none).w / 8 + 1 + ((i.toNat + 1 : Nat) : Int)) v).1)) ∧
    (¬ (0 ≤ up ∧ up < 1000 ∧ 0 ≤ to ∧ 0 ≤ i ∧ i < (scs.getD to.toNat Sc.none).ws.length) → eputE (some (b, x)) (pw scs k) up i v ≠ 0 ∧ eputO (some (b, x)) (pw scs k) up i v = some (b, x)) := by
  have hm : mof (some (b, x)) = x.sp.mem := rfl
  by_cases hr : up < 0 ∨ 65536 < up
  · have ha : x.sp.mem.above (pw scs k) up = (0, 4) := by unfold Mem.above; rw [if_pos hr]
    refine ⟨fun h => by omega, fun _ => ⟨?_, ?_⟩⟩
    · unfold eputE; rw [hm, ha, if_pos (by decide)]; decide
    · unfold eputO; rw [hm, ha, if_pos (by decide)]
  have ha : x.sp.mem.above (pw scs k) up = x.sp.mem.aboveN up.toNat (pw scs k) := by unfold Mem.above; rw [if_neg hr]
  by_cases hfar : 1000 ≤ up
  · have h3 : x.sp.mem.aboveN up.toNat (pw scs k) = (0, 3) := M.deep (k.toNat + 1) k (by omega) hk.2 _ (by omega)
    refine ⟨fun h => by omega, fun _ => ⟨?_, ?_⟩⟩
    · unfold eputE; rw [hm, ha, h3, if_pos (by decide)]; decide
    · unfold eputO; rw [hm, ha, h3, if_pos (by decide)]
  by_cases ht0 : to < 0
  · have h3 : x.sp.mem.aboveN up.toNat (pw scs k) = (0, 3) := by
      have := hab (up.toNat - nv)
      rw [show nv + (up.toNat - nv) = up.toNat by omega, pw_neg ht0, above_nil] at this
      exact this
    refine ⟨fun h => by omega, fun _ => ⟨?_, ?_⟩⟩
    · unfold eputE; rw [hm, ha, h3, if_pos (by decide)]; decide
    · unfold eputO; rw [hm, ha, h3, if_pos (by decide)]
  have htl : to.toNat < scs.length := by omega
  have hup : up.toNat = nv := by omega
  have h0 : x.sp.mem.aboveN up.toNat (pw scs k) = (scs[to.toNat].w, 0) := by
    have := hab 0
    rw [Nat.add_zero, M.above0 (by omega) htl, pw_at (by omega) htl] at this
    rw [hup]; exact this
  have hg : scs.getD to.toNat Sc.none = scs[to.toNat] := getD_at htl _
  rw [hg]
  have T := (M.each _ htl).thing
  have hcnt : x.sp.mem.count' scs[to.toNat].w = scs[to.toNat].ws.length := T.count'
  by_cases hi : i < 0 ∨ (scs[to.toNat].ws.length : Int) ≤ i
  · refine ⟨fun h => by omega, fun _ => ⟨?_, ?_⟩⟩
    · unfold eputE; rw [hm, ha, h0, if_neg (fun h => h rfl), if_pos (by show i < 0 ∨ x.sp.mem.count' scs[to.toNat].w ≤ i; rw [hcnt]; exact hi)]; decide
    · unfold eputO; rw [hm, ha, h0, if_neg (fun h => h rfl), if_pos (by show i < 0 ∨ x.sp.mem.count' scs[to.toNat].w ≤ i; rw [hcnt]; exact hi)]
  have hF : x.sp.mem.fieldE scs[to.toNat].w 7 (i + 1) = 0 := T.field_in ⟨by omega, by simp <;> omega⟩
  have hiN : i.toNat < scs[to.toNat].ws.length := by omega
  have hus : x.sp.mem.used (scs[to.toNat].w / 8 + 1 + (i + 1)) := by
    have := T.usedAt (fun k => (ok.mem.seg k).n.2) (i := i.toNat + 1) (by simp <;> omega)
    rw [show scs[to.toNat].w / 8 + 1 + ((i.toNat + 1 : Nat) : Int) = scs[to.toNat].w / 8 + 1 + (i + 1) by omega] at this
    exact this
  refine ⟨fun _ => ⟨?_, ?_⟩, fun h => absurd ⟨by omega, by omega, by omega, by omega, by omega⟩ h⟩
  · unfold eputE; rw [hm, ha, h0, if_neg (fun h => h rfl), if_neg (by show ¬ (i < 0 ∨ x.sp.mem.count' scs[to.toNat].w ≤ i); rw [hcnt]; exact hi)]
    unfold setE
    rw [hm, if_pos hF]
    exact Mem.store_0 ok.mem hus hv
  · unfold eputO; rw [hm, ha, h0, if_neg (fun h => h rfl), if_neg (by show ¬ (i < 0 ∨ x.sp.mem.count' scs[to.toNat].w ≤ i); rw [hcnt]; exact hi)]
    unfold setO
    simp only
    rw [if_pos hF, show scs[to.toNat].w / 8 + 1 + ((i.toNat + 1 : Nat) : Int) = scs[to.toNat].w / 8 + 1 + (i + 1) by omega]

/-- what stands behind so many steps -/
structure Inv (H0 H : Array Obj) (b : Blk) (p : Option Addr) (n c : Nat) (i : Int) : Prop where
  ex : ∃ (x : Hp) (scs : List Sc), Live H0 H b x ∧ All H0 H b p n c scs 52 29 ∧ Model x.sp.mem scs ∧ (scs.length : Int) ≤ i ∧ 400 - i ≤ x.sp.mem.free ∧ x.sp.mem.count ≤ i

theorem put_step {H0 H : Array Obj} {b : Blk} {x : Hp} {scs : List Sc} {p : Option Addr} {n c : Nat} (L : Live H0 H b x) (A : All H0 H b p n c scs 52 29) (M : Model x.sp.mem scs) {s : StepOf} (hs : StepOK H0 s) {b5 : Nat}
    (h5 : ∀ (j : Nat) (v : Value), s.cells[j]? = some v → hat H ⟨b5, j, none⟩ = some v) (hb5 : b5 ∉ b.all) (hl : scs.length ≤ 100) {k to : Int} {nv : Nat} (hk : 0 ≤ k ∧ k < scs.length)
    (hto : -1 ≤ to ∧ to < scs.length) (hab : ∀ r : Nat, x.sp.mem.aboveN (nv + r) (pw scs k) = x.sp.mem.aboveN r (pw scs to)) (hnv : (nv : Int) ≤ s.up ∨ nv = 0) (hex : s.up ≤ nv ∨ 1000 ≤ (nv : Int) ∨ to < 0) {bl : Nat} (hp : p = some ⟨bl, 0, none⟩) {R : Bool → Array Obj → Prop} {K : Array Obj → Prop}
    (hK : ∀ (H' : Array Obj) (x' : Hp) (scs' : List Sc), Live H0 H' b x' → All H0 H' b p n c scs' 52 29 → Model x'.sp.mem scs' → scs'.length = scs.length → x'.sp.mem.free = x.sp.mem.free → x'.sp.mem.count = x.sp.mem.count → K H') :
    frame_Put.C (some ⟨b.h, 0, none⟩) (pw scs k) s.up s.i (sh s.v) H (fun v_4 H9 => ∃ x_11 : Int, v_4 = .int .i64 x_11 ∧
     ∃ J_2 : Bool → Array Obj → Prop, (
      ∃ x_13 : Int, hat H9 ((Addr.mk b5 0 none).add 2) = some (.int .i64 x_13) ∧
      if x_13 ≥ 0 then (
       ∃ x_14 : Int, hat H9 ((Addr.mk b5 0 none).add 2) = some (.int .i64 x_14) ∧
       if x_14 < 1000 then (
        if to ≥ 0 then (
         ∃ x_15 : Int, hat H9 ((Addr.mk b5 0 none).add 3) = some (.int .i64 x_15) ∧
         if x_15 ≥ 0 then (
          ∃ x_16 : Int, hat H9 ((Addr.mk b5 0 none).add 3) = some (.int .i64 x_16) ∧
          ((0 : Int) ≤ (if to < 0 then 0 else to) ∧ (if to < 0 then 0 else to) < (n : Int)) ∧
          ∃ xB_3 : Option Addr, ∃ xN_3 : Nat, ∃ xC_3 : Nat, hat H9 (((Addr.mk bl 0 none).add (Int.toNat (if to < 0 then 0 else to) * 3)).add 2) = some (.slice xB_3 xN_3 xC_3) ∧
          J_2 (decide (x_16 < (xN_3 : Int))) H9)
         else
         J_2 false H9)
        else
        J_2 false H9)
       else
       J_2 false H9)
      else
      J_2 false H9) ∧ ∀ (there : Bool) (H10 : Array Obj), J_2 there H10 →
     if (x_11 == 0) = there then (
      ∃ J_3 : Array Obj → Prop, (
       if there = true then (
        ((0 : Int) ≤ to ∧ to < (n : Int)) ∧
        ∃ xB_2 : Option Addr, ∃ xN_2 : Nat, ∃ xC_2 : Nat, hat H10 (((Addr.mk bl 0 none).add (Int.toNat to * 3)).add 2) = some (.slice xB_2 xN_2 xC_2) ∧
        ∃ x_12 : Int, hat H10 ((Addr.mk b5 0 none).add 3) = some (.int .i64 x_12) ∧
        ∃ xB2A : Addr, xB_2 = some xB2A ∧
        ((0 : Int) ≤ x_12 ∧ x_12 < (xN_2 : Int)) ∧
        (CanPuts H10 (xB2A.add (Int.toNat x_12 * 1)) 0 1) ∧ ∀ H12 : Array Obj, H12 = hputs H10 (xB2A.add (Int.toNat x_12 * 1)) [.int .u64 (sh s.v)] 0 →
        J_3 H12)
       else
       J_3 H10) ∧ ∀ (H11 : Array Obj), J_3 H11 → K H11)
     else
     R false H10) := by
  have hkl : k.toNat < scs.length := by omega
  have hw : IsWord (pw scs k) := by rw [pw_at hk.1 hkl]; exact (M.each _ hkl).thing.word
  obtain ⟨sp1, sp2⟩ := put_spec (b := b) M L.ok hl (i := s.i) hk (sh_word s.v) hto hab hnv hex
  refine HC.mono (frame_Put_c L.view hw hs.up hs.i (sh_word s.v)) ?_
  rintro _ H9 ⟨rfl, V9, f9⟩
  refine ⟨_, rfl, ?_⟩
  have fall := Live.others f9
  have A9 := A.heap fall
  have hn := A.len
  have r9 : ∀ (j : Nat) (v : Value), s.cells[j]? = some v → hat H9 ((Addr.mk b5 0 none).add j) = some v := fun j v hv => by
    rw [addr_add_mk, Nat.zero_add]; exact fall.hat hb5 (h5 j v hv)
  refine ⟨fun there H' => H' = H9 ∧ (there = true ↔ (0 ≤ s.up ∧ s.up < 1000 ∧ 0 ≤ to ∧ 0 ≤ s.i ∧ s.i < (scs.getD to.toNat Sc.none).ws.length)), ?_, ?_⟩
  · refine ⟨_, r9 2 _ rfl, ?_⟩
    by_cases c1 : s.up ≥ 0
    case neg => rw [if_neg c1]; exact ⟨rfl, by simp; omega⟩
    rw [if_pos c1]
    refine ⟨_, r9 2 _ rfl, ?_⟩
    by_cases c2 : s.up < 1000
    case neg => rw [if_neg c2]; exact ⟨rfl, by simp; omega⟩
    rw [if_pos c2]
    by_cases c3 : to ≥ 0
    case neg => rw [if_neg c3]; exact ⟨rfl, by simp; omega⟩
    rw [if_pos c3]
    refine ⟨_, r9 3 _ rfl, ?_⟩
    by_cases c4 : s.i ≥ 0
    case neg => rw [if_neg c4]; exact ⟨rfl, by simp; omega⟩
    rw [if_pos c4]
    have htl : to.toNat < scs.length := by omega
    rw [if_neg (show ¬ to < 0 by omega)]
    obtain ⟨bl', hp', _, _, h2⟩ := A9.at htl
    rw [hp] at hp'; cases hp'
    refine ⟨_, r9 3 _ rfl, ⟨by omega, by omega⟩, _, _, _, by simp only [addr_add_mk, Nat.zero_add]; exact h2, rfl, ?_⟩
    rw [getD_at htl, decide_eq_true_eq, (M.each _ htl).len.1]
    omega
  rintro there H10 ⟨rfl, hth⟩
  by_cases hcase : 0 ≤ s.up ∧ s.up < 1000 ∧ 0 ≤ to ∧ 0 ≤ s.i ∧ s.i < (scs.getD to.toNat Sc.none).ws.length
  · have ht : there = true := hth.2 hcase
    subst ht
    obtain ⟨g1, g2⟩ := sp1 hcase
    rw [g1, if_pos (by rfl)]
    rw [g2] at V9
    have L9 := L.step V9 f9
    have htl : to.toNat < scs.length := by omega
    have hg : scs.getD to.toNat Sc.none = scs[to.toNat] := getD_at htl _
    rw [hg] at hcase L9
    have hiN : s.i.toNat < scs[to.toNat].ws.length := by omega
    obtain ⟨bl', hp', _, _, h2⟩ := A9.at htl
    rw [hp] at hp'; cases hp'
    obtain ⟨bw, hbw, hcan, hput, hfr, hyw, hnb⟩ := A9.put htl hiN (v := sh s.v)
    refine ⟨fun H' => Live H0 H' b (x.setMem (x.sp.mem.store (scs[to.toNat].w / 8 + 1 + ((s.i.toNat + 1 : Nat) : Int)) (sh s.v)).1) ∧ All H0 H' b p n c (scs.set to.toNat (scs[to.toNat].setW s.i.toNat (sh s.v))) 52 29, ?_, ?_⟩
    · rw [if_pos rfl]
      refine ⟨⟨by omega, by omega⟩, _, _, _, by simp only [addr_add_mk, Nat.zero_add]; exact h2, _, r9 3 _ rfl, _, hbw, ⟨by omega, by rw [(M.each _ htl).len.1]; omega⟩, ?_⟩
      rw [addr_add_mk, Nat.zero_add, Nat.mul_one]
      refine ⟨hcan, fun H12 hH12 => ?_⟩
      subst hH12
      exact ⟨⟨L9.at'.keep hfr (fun q hq hb => by simp at hq; subst hq; exact hnb hb), L9.ok, L9.ext.fr_trans hfr (fun q hq => by simp at hq; omega), L9.young⟩, hput⟩
    · rintro H11 ⟨L11, A11⟩
      have lim := Mem.store_lim (m := x.sp.mem) (a := scs[to.toNat].w / 8 + 1 + ((s.i.toNat + 1 : Nat) : Int)) (w := sh s.v)
      exact hK _ _ _ L11 A11 (M.set L.ok.mem htl hiN) (by simp) lim.2.1 lim.2.2
  · have ht : there = false := by cases there with | false => rfl | true => exact absurd (hth.1 rfl) hcase
    subst ht
    obtain ⟨g1, g2⟩ := sp2 hcase
    rw [if_pos (by simpa using g1)]
    rw [g2] at V9
    have L9 := L.step V9 f9
    refine ⟨fun H' => H' = H10, ?_, ?_⟩
    · rw [if_neg (by decide)]
    · rintro H11 rfl
      exact hK _ _ _ L9 A9 M rfl rfl rfl

/-- an environment is made -/
theorem make_step {H0 H : Array Obj} {b : Blk} {x : Hp} {scs : List Sc} {p : Option Addr} {n c : Nat} (L : Live H0 H b x) (A : All H0 H b p n c scs 52 29) (M : Model x.sp.mem scs) {s : StepOf} (hs : Nums H0 .u32 s.l.p s.l.n s.l.xs) (hn50 : s.l.n ≤ 50) {b5 : Nat}
    (h5 : ∀ (j : Nat) (v : Value), s.cells[j]? = some v → hat H ⟨b5, j, none⟩ = some v) (h5b : b5 ∉ b.all) (hl : scs.length ≤ 100) {k : Int} (hk : 0 ≤ k ∧ k ≤ scs.length) (hf : 1 ≤ x.sp.mem.free) (hc : x.sp.mem.count ≤ 1000) {K : Option Addr → Nat → Array Obj → Prop}
    (hK : ∀ (p' : Option Addr) (c' : Nat) (H' : Array Obj) (x' : Hp) (scs' : List Sc), Live H0 H' b x' → All H0 H' b p' (n + 1) c' scs' 52 29 → Model x'.sp.mem scs' → scs'.length = scs.length + 1 → x.sp.mem.free - 1 ≤ x'.sp.mem.free → x'.sp.mem.count ≤ x.sp.mem.count + 1 → K p' c' H')
    {R : Value → Array Obj → Prop} :
   ∀ (b_2 : Nat) (H13 : Array Obj), b_2 = H.size → H13 = H.push (.cells #[.int .u64 0, .int .i64 0, .slice none 0 0] 52) →
   (CanPuts H13 (Addr.mk b_2 0 none) 0 3) ∧ ∀ H14 : Array Obj, H14 = hputs H13 (Addr.mk b_2 0 none) [.int .u64 0, .int .i64 k, .slice none 0 0] 0 →
   ∃ J_4 : Int → Array Obj → Prop, (
    if k = (n : Int) then (
     (CanPuts H14 ((Addr.mk b_2 0 none).add 1) 0 1) ∧ ∀ H27 : Array Obj, H27 = hputs H14 ((Addr.mk b_2 0 none).add 1) [.int .i64 (-1)] 0 →
     J_4 20 H27)
    else
    ∃ allBA_3 : Addr, p = some allBA_3 ∧
    ((0 : Int) ≤ k ∧ k < (n : Int)) ∧
    ∃ x_18 : Int, hat H14 (allBA_3.add (Int.toNat k * 3)) = some (.int .u64 x_18) ∧
    J_4 x_18 H14) ∧ ∀ (upv : Int) (H15 : Array Obj), J_4 upv H15 →
   ∃ (I107 : Int → Array Obj → Prop) (m107 : Int → Array Obj → Nat), I107 0 H15 ∧ ∀ (nv_2 : Int) (H16 : Array Obj), I107 nv_2 H16 →
   ∃ xB_4 : Option Addr, ∃ xN_4 : Nat, ∃ xC_4 : Nat, hat H16 ((Addr.mk b5 0 none).add 4) = some (.slice xB_4 xN_4 xC_4) ∧
   if nv_2 < (xN_4 : Int) then (
    ∃ xB_5 : Option Addr, ∃ xN_5 : Nat, ∃ xC_5 : Nat, hat H16 ((Addr.mk b_2 0 none).add 2) = some (.slice xB_5 xN_5 xC_5) ∧
    ∃ xB_6 : Option Addr, ∃ xN_6 : Nat, ∃ xC_6 : Nat, hat H16 ((Addr.mk b5 0 none).add 4) = some (.slice xB_6 xN_6 xC_6) ∧
    ∃ xB6A : Addr, xB_6 = some xB6A ∧
    ((0 : Int) ≤ nv_2 ∧ nv_2 < (xN_6 : Int)) ∧
    ∃ x_17 : Int, hat H16 (xB6A.add (Int.toNat nv_2 * 1)) = some (.int .u32 x_17) ∧
    ∀ (b_3 : Nat) (H17 : Array Obj), b_3 = H16.size → H17 = H16.push (.cells #[.int .u64 (ishl .u64 (IntKind.wrap .u64 x_17) 3)] 29) → RowAt H17 ((Addr.mk b_2 0 none).add 2) 0 [.slice xB_5 xN_5 xC_5] ∧
    appendK 1 29 8 [.int .u64 0] xB_5 xN_5 xC_5 (some (Addr.mk b_3 0 none)) 1 H17 (fun ap apC H18 =>
     (CanPuts H18 ((Addr.mk b_2 0 none).add 2) 0 1) ∧ ∀ H19 : Array Obj, H19 = hputs H18 ((Addr.mk b_2 0 none).add 2) [.slice ap (xN_5 + 1) apC] 0 →
     (I107 (IntKind.wrap .i64 (nv_2 + 1)) H19 ∧ m107 (IntKind.wrap .i64 (nv_2 + 1)) H19 < m107 nv_2 H16)))
   else
   ∃ xB_7 : Option Addr, ∃ xN_7 : Nat, ∃ xC_7 : Nat, hat H16 ((Addr.mk b_2 0 none).add 2) = some (.slice xB_7 xN_7 xC_7) ∧
   frame_Extend.C (some ⟨b.h, 0, none⟩) upv xB_7 xN_7 xC_7 H16 (fun v_5 H20 => ∃ ra_2 : Int, ∃ rb_2 : Int, v_5 = .tuple #[.int .u64 ra_2, .int .i64 rb_2] ∧
    if rb_2 = 0 then (
     (CanPuts H20 (Addr.mk b_2 0 none) 0 1) ∧ ∀ H21 : Array Obj, H21 = hputs H20 (Addr.mk b_2 0 none) [.int .u64 ra_2] 0 →
     ∀ (b_4 : Nat) (H22 : Array Obj), b_4 = H21.size → H22 = H21.push (.cells #[] 29) →
     ∃ xB_8 : Option Addr, ∃ xN_8 : Nat, ∃ xC_8 : Nat, hat H22 ((Addr.mk b_2 0 none).add 2) = some (.slice xB_8 xN_8 xC_8) ∧
     appendK 1 29 8 [.int .u64 0] (some (Addr.mk b_4 0 none)) 0 0 xB_8 xN_8 H22 (fun ap_2 apC_2 H23 =>
      (CanPuts H23 ((Addr.mk b_2 0 none).add 2) 0 1) ∧ ∀ H24 : Array Obj, H24 = hputs H23 ((Addr.mk b_2 0 none).add 2) [.slice ap_2 (0 + xN_8) apC_2] 0 →
      ∃ xw : Int, ∃ xparent : Int, ∃ xlB : Option Addr, ∃ xlN : Nat, ∃ xlC : Nat, RowAt H24 (Addr.mk b_2 0 none) 0 [.int .u64 xw, .int .i64 xparent, .slice xlB xlN xlC] ∧
      ∀ (b_5 : Nat) (H25 : Array Obj), b_5 = H24.size → H25 = H24.push (.cells #[.int .u64 xw, .int .i64 xparent, .slice xlB xlN xlC] 52) →
      appendK 3 52 40 [.int .u64 0, .int .i64 0, .slice none 0 0] p n c (some (Addr.mk b_5 0 none)) 1 H25 K))
    else
    R (.bool false) H20) := by
  intro b2 H13 hb2 hH13
  have hn := A.len
  have e13 : Ext H H13 := Ext.push' hH13
  have g13 := push_get hb2 hH13
  refine ⟨canPuts_blk g13 _ _ _ (by simp), fun H14 hH14 => ?_⟩
  rw [hputs_blk _ _ _ _ _ g13] at hH14
  have g14 : H14[b2]? = some (.cells #[.int .u64 0, .int .i64 k, .slice none 0 0] 52 (0, 0)) := by rw [hH14, setBlk_get (lt_size g13)]; rfl
  have e14 : Ext H H14 := by rw [hH14]; exact e13.set (by omega)
  clear hH14
  have hpar : ∃ par : Int, (k = (n : Int) ∧ par = -1) ∨ (k < (n : Int) ∧ par = k) := by
    by_cases h : k = (n : Int)
    · exact ⟨-1, .inl ⟨h, rfl⟩⟩
    · exact ⟨k, .inr ⟨by omega, rfl⟩⟩
  obtain ⟨par, hpar⟩ := hpar
  have hpb : -1 ≤ par ∧ par < scs.length := by omega
  refine ⟨fun upv H' => upv = pw scs par ∧ Ext H H' ∧ H'[b2]? = some (.cells #[.int .u64 0, .int .i64 par, .slice none 0 0] 52 (0, 0)), ?_, ?_⟩
  · by_cases hkn : k = (n : Int)
    · rw [if_pos hkn]
      refine ⟨by rw [addr_add_mk]; exact canPuts_blk g14 _ _ _ (by simp), fun H27 hH27 => ?_⟩
      rw [addr_add_mk, hputs_blk _ _ _ _ _ g14] at hH27
      have hp1 : par = -1 := by omega
      subst hp1
      exact ⟨by rw [pw_neg (by decide)], by rw [hH27]; exact e14.set (by omega), by rw [hH27, setBlk_get (lt_size g14)]; rfl⟩
    · rw [if_neg hkn]
      have hkl : k.toNat < scs.length := by omega
      have hpk : par = k := by omega
      subst hpk
      obtain ⟨bl, hp, h0, _, _⟩ := (A.grow e14).at hkl
      exact ⟨_, hp, ⟨by omega, by omega⟩, _, by rw [addr_add_mk, Nat.zero_add]; exact h0, by rw [pw_at (by omega) hkl], e14, g14⟩
  rintro _ H15 ⟨rfl, e15, g15⟩
  have hsl := hs.len
  have hb2s : H.size ≤ b2 := by omega
  refine ⟨fun nv H' => (0 ≤ nv ∧ nv ≤ s.l.n) ∧ Ext H H' ∧ ∃ (q : Option Addr) (qn qc : Nat), H'[b2]? = some (.cells #[.int .u64 0, .int .i64 par, .slice q qn qc] 52 (0, 0)) ∧ (qn : Int) = nv ∧ Own H' 29 1 q qn qc (wvs ((s.l.xs.take nv.toNat).map sh)) ∧ ∀ y, y ∈ blks q → H.size ≤ y ∧ y ≠ b2,
    fun nv _ => (s.l.n - nv).toNat, ⟨by omega, e15, none, 0, 0, g15, rfl, own_nil, by simp⟩, ?_⟩
  rintro nv H16 ⟨hnv, e16, q, qn, qc, g16, hqn, o16, hq⟩
  have r5 : hat H16 ((Addr.mk b5 0 none).add 4) = some (.slice s.l.p s.l.n s.l.c) := by rw [addr_add_mk, Nat.zero_add]; exact e16.hat (h5 4 _ rfl)
  have L16 := L.grow e16
  refine ⟨_, _, _, r5, ?_⟩
  by_cases hlt : nv < (s.l.n : Int)
  · rw [if_pos hlt]
    have hnN : nv.toNat < s.l.xs.length := by omega
    obtain ⟨ga, hga, hgat⟩ := (hs.ext L16.ext).at hnN
    refine ⟨q, qn, qc, by rw [addr_add_mk, hat_blk g16]; rfl, _, _, _, r5, ga, hga, ⟨hnv.1, hlt⟩, _, hgat, ?_⟩
    intro b3 H17 hb3 hH17
    have e17 : Ext H16 H17 := Ext.push' hH17
    refine ⟨⟨by simp only [addr_add_mk]; rw [hat_blk (e17.get g16)]; rfl, trivial⟩, ?_⟩
    refine own_append (m := 1) (ys := [.int .u64 (sh s.l.xs[nv.toNat])]) (o16.ext e17) (rowAt_blk (push_get hb3 hH17) _ 0 0 (fun j hj => by have h0 : j = 0 := (by simp at hj; omega); subst h0; rfl)) rfl rfl rfl (by omega) ?_
    intro ap apC H18 o18 f18 hap
    have g18 : H18[b2]? = some (.cells #[.int .u64 0, .int .i64 par, .slice q qn qc] 52 (0, 0)) := f18.get (fun h => (hq _ h).2 rfl) (e17.get g16)
    have e18 : Ext H H18 := (e16.trans e17).fr_trans f18 (fun y hy => (hq y hy).1)
    have hap' : ∀ y, y ∈ blks ap → H.size ≤ y ∧ y ≠ b2 := fun y hy => by
      rcases hap y hy with h | h
      · exact hq y h
      · have := lt_size g16; have := e17.size; have := e16.size; exact ⟨by omega, by omega⟩
    refine ⟨by rw [addr_add_mk]; exact canPuts_blk g18 _ _ _ (by simp), fun H19 hH19 => ?_⟩
    rw [addr_add_mk, hputs_blk _ _ _ _ _ g18] at hH19
    rw [w64 (n := nv + 1) (by omega)]
    refine ⟨⟨by omega, by rw [hH19]; exact e18.set hb2s, ap, qn + 1, apC, by rw [hH19, setBlk_get (lt_size g18)]; rfl, by omega, ?_, hap'⟩, by show ((s.l.n : Int) - (nv + 1)).toNat < ((s.l.n : Int) - nv).toNat; omega⟩
    have et : wvs ((s.l.xs.take nv.toNat).map sh) ++ [.int .u64 (sh s.l.xs[nv.toNat])] = wvs ((s.l.xs.take (nv + 1).toNat).map sh) := by
      rw [show (nv + 1).toNat = nv.toNat + 1 by omega, List.take_succ_eq_append_getElem hnN, List.map_append, wvs, wvs, List.map_append]; rfl
    rw [← et, hH19]
    exact o18.keep (S := [b2]) Fr.set (fun y hy hb => by simp at hb; exact (hap' y hy).2 hb)
  rw [if_neg hlt]
  have hne : nv.toNat = s.l.xs.length := by omega
  rw [hne, List.take_length] at o16
  refine ⟨q, qn, qc, by rw [addr_add_mk, hat_blk g16]; rfl, ?_⟩
  have hww : ∀ u ∈ s.l.xs.map sh, IsWord u := fun u hu => by obtain ⟨z, _, rfl⟩ := List.mem_map.1 hu; exact sh_word z
  have hpw : IsWord (pw scs par) ∧ (pw scs par = 20 ∨ x.sp.mem.typ (pw scs par) = 7) := by
    by_cases h0 : par < 0
    · rw [pw_neg h0]; exact ⟨by decide, .inl rfl⟩
    · rw [pw_at (by omega) (by omega)]
      have T := (M.each par.toNat (by omega)).thing
      exact ⟨T.word, .inr T.typ⟩
  refine HC.mono (live_Extend (ws := s.l.xs.map sh) L16 hpw.1 hpw.2 o16.src (by simp; omega) hww (by simp; omega) hf (by omega)) ?_
  rintro _ H20 ⟨w', x', rfl, L20, m20, f20⟩
  refine ⟨_, _, rfl, ?_⟩
  rw [if_pos rfl]
  have hball : ∀ y, y ∈ b.all → y < H.size := L.at'.lt
  have hb2b : b2 ∉ b.all := fun h => by have := hball _ h; omega
  have g20 : H20[b2]? = some (.cells #[.int .u64 0, .int .i64 par, .slice q qn qc] 52 (0, 0)) := f20.get hb2b g16
  have o20 := o16.keep f20 (fun y hy hb => by have := hball _ hb; have := (hq y hy).1; omega)
  have A20 : All H0 H20 b p n c scs 52 29 := (A.grow e16).heap f20
  have s20 : H.size ≤ H20.size := Nat.le_trans e16.size f20.size
  refine ⟨canPuts_blk g20 _ _ _ (by simp), fun H21 hH21 => ?_⟩
  rw [hputs_blk _ _ _ _ _ g20] at hH21
  have g21 : H21[b2]? = some (.cells #[.int .u64 w', .int .i64 par, .slice q qn qc] 52 (0, 0)) := by rw [hH21, setBlk_get (lt_size g20)]; rfl
  have f21 : Fr [b2] H20 H21 := by rw [hH21]; exact Fr.set
  clear hH21
  intro b4 H22 hb4 hH22
  have e22 : Ext H21 H22 := Ext.push' hH22
  refine ⟨q, qn, qc, by rw [addr_add_mk, hat_blk (e22.get g21)]; rfl, ?_⟩
  have o22 := (o20.keep f21 (fun y hy hb => by simp at hb; exact (hq y hy).2 hb)).ext e22
  refine own_append (n := 0) (xs := []) (ys := wvs (s.l.xs.map sh)) (h := ⟨rfl, #[], push_get hb4 hH22, rfl, Nat.le_refl _, rfl, fun j hj => by simp at hj⟩) o22.src (by have := o22.len; simpa using this) (allOne_wvs _) rfl (by omega) ?_
  intro ap apC H23 o23 f23 hap
  have hlt2 := lt_size g21
  have g23 : H23[b2]? = some (.cells #[.int .u64 w', .int .i64 par, .slice q qn qc] 52 (0, 0)) := f23.get (by simp; omega) (e22.get g21)
  refine ⟨by rw [addr_add_mk]; exact canPuts_blk g23 _ _ _ (by simp), fun H24 hH24 => ?_⟩
  rw [addr_add_mk, hputs_blk _ _ _ _ _ g23] at hH24
  have g24 : H24[b2]? = some (.cells #[.int .u64 w', .int .i64 par, .slice ap (0 + qn) apC] 52 (0, 0)) := by rw [hH24, setBlk_get (lt_size g23)]; rfl
  have f24 : Fr [b2] H23 H24 := by rw [hH24]; exact Fr.set
  clear hH24
  have hap2 : ∀ y, y ∈ blks ap → H21.size ≤ y := fun y hy => by
    rcases hap y hy with h | h
    · simp at h; omega
    · have := e22.size; omega
  have s21 := f21.size
  have o24 := o23.keep f24 (fun y hy hb => by simp at hb; have := hap2 y hy; omega)
  refine ⟨w', par, ap, 0 + qn, apC, rowAt_blk g24 _ 0 0 (fun j hj => by
    have : j = 0 ∨ j = 1 ∨ j = 2 := by simp at hj; omega
    rcases this with rfl | rfl | rfl <;> rfl), ?_⟩
  intro b6 H25 hb6 hH25
  have e25 : Ext H24 H25 := Ext.push' hH25
  have f2025 : Fr [b2] H20 H25 := ((f21.trans' (e22.fr (S := [])) (S'' := [b2]) (fun _ h _ => h) (fun _ h _ => by simp at h)).trans' f23 (S'' := [b2]) (fun _ h _ => h) (fun y h hy => by simp at h; omega)).trans' (f24.trans e25.fr) (S'' := [b2]) (fun _ h _ => h) (fun _ h _ => h)
  have L25 : Live H0 H25 b x' := ⟨L20.at'.keep f2025 (fun y hy hb => by simp at hy; subst hy; exact hb2b hb), L20.ok, L20.ext.fr_trans f2025 (fun y hy => by simp at hy; have := L.ext.size; omega), L20.young⟩
  have A25 : All H0 H25 b p n c scs 52 29 := A20.keep f2025 (fun y hy hb => by simp at hb; have := A.own.lt y hy; omega) (fun t ht y hy hb => by simp at hb; have := (A.each t ht).1.lt y hy; omega)
  have o25 := o24.ext e25
  have T := m20.thing
  refine own_append (m := 1) (ys := [.int .u64 w', .int .i64 par, .slice ap (0 + qn) apC]) A25.own (rowAt_blk (push_get hb6 hH25) _ 0 0 (fun j hj => by
    have : j = 0 ∨ j = 1 ∨ j = 2 := by simp at hj; omega
    rcases this with rfl | rfl | rfl <;> rfl)) rfl rfl rfl (by omega) ?_
  intro p' c' H26 o26 f26 hp'
  have L26 : Live H0 H26 b x' := ⟨L25.at'.keep f26 (fun y hy hb => (A.young y hy).2 hb), L25.ok, L25.ext.fr_trans f26 (fun y hy => (A.young y hy).1), L25.young⟩
  have hq26 : ∀ y, y ∈ blks p' → H0.size ≤ y ∧ y ∉ b.all := fun y hy => by
    rcases hp' y hy with h | h
    · exact A.young y h
    · refine ⟨by have := L25.ext.size; omega, fun hb => ?_⟩
      have := hball y hb
      have := f2025.size
      omega
  have hsz : H21.size ≤ H25.size := by have := e22.size; have := f23.size; have := f24.size; have := e25.size; omega
  have hn2 : ((0 + qn : Nat) : Int) = s.l.n := by omega
  refine hK p' c' H26 x' (scs ++ [⟨w', par, ap, 0 + qn, apC, s.l.xs.map sh⟩]) L26 ⟨?_, hq26, fun t ht => ?_, ?_⟩ ?_ (by simp) m20.made.free m20.made.count
  · rw [List.flatMap_append]; exact o26
  · rcases List.mem_append.1 ht with ht | ht
    · have h1 := A25.each t ht
      refine ⟨h1.1.keep f26 (fun y hy hb => (h1.2 y hy).2.2 hb), fun y hy => ⟨(h1.2 y hy).1, (h1.2 y hy).2.1, fun hyp => ?_⟩⟩
      rcases hp' y hyp with h | h
      · exact (h1.2 y hy).2.2 h
      · have := h1.1.lt y hy; omega
    · obtain rfl := List.mem_singleton.1 ht
      have hlt6 := o25.lt
      refine ⟨o25.keep f26 (fun y hy hb => by have := hap2 y hy; have := A.own.lt y hb; omega), fun y hy => ⟨by have := hap2 y hy; have := L.ext.size; omega, fun hb => by have := hap2 y hy; have := hball y hb; omega, fun hyp => ?_⟩⟩
      rcases hp' y hyp with h | h
      · have := hap2 y hy; have := A.own.lt y h; omega
      · have := hlt6 y hy; omega
  · refine List.pairwise_append.2 ⟨A.apart, List.pairwise_singleton _ _, fun t ht u hu y hy hyu => ?_⟩
    obtain rfl := List.mem_singleton.1 hu
    have := hap2 y hyu
    have := (A.each t ht).1.lt y hy
    omega
  · refine M.snoc L.n64 (t := ⟨w', par, ap, 0 + qn, apC, s.l.xs.map sh⟩) ?_ T hpb ⟨by simp; omega, by simp; omega⟩
    have := m20.made
    simpa using this


theorem law (p : Option Addr) (n c : Nat) (ls : List StepOf) (H : Array Obj) (A0 : Steps H p n ls) (_ : n ≤ maxLen) :
    morainelaw20_FrameLexical.C p n c H (fun v H' => v = .bool true ∧ Ext H H') := by
  refine HC.via fun R hR => morainelaw20_FrameLexical.link ?_
  unfold morainelaw20_FrameLexical.pt
  refine HC.mono (obj_New_c (by decide)) ?_
  rintro _ H1 (⟨hn, _⟩ | ⟨_, b, x, rfl, V1, hx, e1, hy⟩)
  · exact absurd (by decide) hn
  refine ⟨_, _, rfl, ?_⟩
  have L1 : Live H H1 b x := ⟨V1.inv.2.1, V1.inv.2.2, e1, hy⟩
  have f1 : x.sp.mem.free = 400 := by subst hx; rfl
  have k1 : x.sp.mem.count = 0 := by subst hx; rfl
  clear hx V1
  by_cases hbig : 100 < n
  · rw [if_pos (by simp; omega)]
    refine ⟨fun s H' => s = true ∧ Ext H H', ?_, ?_⟩
    · rw [if_pos rfl]
      refine HC.mono awake20_c ?_
      rintro _ H2 ⟨rfl, e2⟩
      exact ⟨true, rfl, rfl, e1.trans e2⟩
    · rintro s H2 ⟨rfl, e2⟩
      exact hR _ _ ⟨rfl, e2⟩
  rw [if_neg (by simp; omega)]
  have hlen := A0.len
  refine ⟨fun q m d i H' => (0 ≤ i ∧ i ≤ n) ∧ Inv H H' b q m d i, fun _ _ _ i _ => (n - i).toNat, ⟨by omega, ⟨x, [], L1, ⟨own_nil, by simp, by simp, List.Pairwise.nil⟩, Model.nil, by simp, by omega, by omega⟩⟩, ?_⟩
  rintro q m d i H4 ⟨hi, ⟨x4, scs, L4, A4, M4, hsi, f4, k4⟩⟩
  have hm4 := A4.len
  by_cases hlt : i < (n : Int)
  · rw [if_pos hlt]
    have hiN : i.toNat < ls.length := by omega
    obtain ⟨la, hla, hrow⟩ := (A0.ext L4.ext).at' i.toNat hiN
    subst hla
    have hs := A0.each _ (List.getElem_mem hiN)
    generalize ls[i.toNat] = s at hrow hs
    refine ⟨la, rfl, ⟨hi.1, hlt⟩, _, _, _, _, _, _, _, _, hrow, ?_⟩
    intro b5 H5 hb5 hH5
    obtain ⟨hcan, hbx⟩ := boxed (vs := s.cells) (H1 := H5) (push_get hb5 hH5) rfl rfl
    refine ⟨hcan, fun H6 hH6 => ?_⟩
    obtain ⟨hr6, hE6⟩ := hbx H6 hH6
    have e6 : Ext H4 H6 := hE6 H4 (Ext.push' hH5) (by omega)
    have rd : ∀ (j : Nat) (v : Value), s.cells[j]? = some v → hat H6 ⟨b5, j, none⟩ = some v := fun j v hv => by
      have := rowAt_hat hr6 j v hv
      rw [addr_add_mk, Nat.zero_add, Nat.zero_add] at this; exact this
    have rd' : ∀ (j : Nat) (v : Value), s.cells[j]? = some v → hat H6 ((Addr.mk b5 0 none).add j) = some v := fun j v hv => by rw [addr_add_mk, Nat.zero_add]; exact rd j v hv
    have L6 := L4.grow e6
    have A6 := A4.grow e6
    have hb5b : b5 ∉ b.all := fun h => by have := L4.at'.lt _ h; omega
    refine ⟨_, _, _, rd' 4 _ rfl, ?_⟩
    by_cases h50 : (s.l.n : Int) > 50
    · rw [if_pos h50]
      refine HC.mono awake20_c ?_
      rintro _ H7 ⟨rfl, e7⟩
      exact ⟨true, rfl, hR _ _ ⟨rfl, L6.ext.trans e7⟩⟩
    rw [if_neg h50]
    refine ⟨_, rd' 1 _ rfl, ?_⟩
    rw [w64 (n := (m : Int) + 1) (by omega), w64 (n := i + 1) (by omega)]
    refine ⟨by omega, _, rd 0 _ rfl, ?_⟩
    have hmb := mask_bd s.at'
    rw [tmod_pos hmb.1]
    have hkb : 0 ≤ iand .i64 s.at' 65535 % ((m : Int) + 1) ∧ iand .i64 s.at' 65535 % ((m : Int) + 1) ≤ m := by
      have h1 := Int.emod_nonneg (iand .i64 s.at' 65535) (show (m : Int) + 1 ≠ 0 by omega)
      have h2 := Int.emod_lt_of_pos (iand .i64 s.at' 65535) (show 0 < (m : Int) + 1 by omega)
      omega
    generalize iand .i64 s.at' 65535 % ((m : Int) + 1) = k at hkb
    by_cases hput : s.put > 0
    · rw [if_pos hput]
      refine ⟨_, rd' 5 _ rfl, ?_⟩
      refine ⟨fun to nv H' => H' = H6 ∧ (0 ≤ nv ∧ nv ≤ 1000) ∧ ((k = m ∧ to = k ∧ nv = 0) ∨ (k < m ∧ (-1 ≤ to ∧ to < m) ∧ (nv ≤ s.up ∨ nv = 0) ∧ ∀ r : Nat, x4.sp.mem.aboveN (nv.toNat + r) (pw scs k) = x4.sp.mem.aboveN r (pw scs to))),
        fun _ nv _ => (1000 - nv).toNat, ⟨rfl, by omega, ?_⟩, ?_⟩
      · by_cases hkm : k = m
        · exact .inl ⟨hkm, rfl, rfl⟩
        · exact .inr ⟨by omega, by omega, .inr rfl, fun r => by rw [show (0 : Int).toNat + r = r by simp]⟩
      rintro to nv H8 ⟨rfl, hnv, hst⟩
      refine ⟨_, rd' 2 _ rfl, ?_⟩
      by_cases hgo : nv < s.up ∧ nv < 1000 ∧ to < (m : Int) ∧ to ≥ 0
      · rw [if_pos (by simp; omega)]
        rcases hst with ⟨h1, h2, _⟩ | ⟨hkm, hto, hnu, hab⟩
        · omega
        have htl : to.toNat < scs.length := by omega
        obtain ⟨bl, hq, _, hp1, _⟩ := A6.at htl
        refine ⟨_, hq, ⟨by omega, by omega⟩, _, by simp only [addr_add_mk, Nat.zero_add]; exact hp1, ?_⟩
        rw [w64 (n := nv + 1) (by omega)]
        have hpar := (M4.each _ htl).par
        refine ⟨⟨rfl, by omega, .inr ⟨hkm, by omega, .inl (by omega), fun r => ?_⟩⟩, by show (1000 - (nv + 1)).toNat < (1000 - nv).toNat; omega⟩
        rw [show (nv + 1).toNat + r = nv.toNat + (r + 1) by omega, hab, M4.aboveS (by omega) htl]
      rw [if_neg (by simp; omega)]
      by_cases hkm : k = (m : Int)
      · rw [if_pos hkm]
        exact ⟨⟨by omega, ⟨x4, scs, L6, A6, M4, by omega, by omega, by omega⟩⟩, by show ((n : Int) - (i + 1)).toNat < ((n : Int) - i).toNat; omega⟩
      rw [if_neg hkm]
      rcases hst with ⟨h1, _⟩ | ⟨hkm', hto, hnu, hab⟩
      · exact absurd h1 hkm
      have hkl : k.toNat < scs.length := by omega
      obtain ⟨bl, hq, hw0, _, _⟩ := A6.at hkl
      refine ⟨_, hq, ⟨by omega, by omega⟩, _, by rw [addr_add_mk, Nat.zero_add]; exact hw0, _, rd' 2 _ rfl, _, rd' 3 _ rfl, ?_⟩
      rw [← pw_at (scs := scs) hkb.1 hkl]
      have ps := put_step (R := fun bb H' => R (.bool bb) H') L6 A6 M4 hs rd hb5b (by omega) (k := k) (to := to) (nv := nv.toNat) ⟨hkb.1, by omega⟩ ⟨hto.1, by omega⟩ hab (by omega) (by omega) hq
        (K := fun H' => ((0 ≤ i + 1 ∧ i + 1 ≤ n) ∧ Inv H H' b (some ⟨bl, 0, none⟩) m d (i + 1)) ∧ ((n : Int) - (i + 1)).toNat < ((n : Int) - i).toNat)
        (fun H' x' scs' L' A' M' h1 h2 h3 => ⟨⟨by omega, ⟨x', scs', L', by rw [hq] at A'; exact A', M', by omega, by omega, by omega⟩⟩, by omega⟩)
      exact ps
    · rw [if_neg hput]
      have ms := make_step (R := R) L6 A6 M4 hs.l (by omega) rd hb5b (by omega) (k := k) ⟨hkb.1, by omega⟩ (by omega) (by omega)
        (K := fun ap_3 apC_3 H26 => ((0 ≤ i + 1 ∧ i + 1 ≤ n) ∧ Inv H H26 b ap_3 (m + 1) apC_3 (i + 1)) ∧ ((n : Int) - (i + 1)).toNat < ((n : Int) - i).toNat)
        (fun p' c' H' x' scs' L' A' M' h1 h2 h3 => ⟨⟨by omega, ⟨x', scs', L', A', M', by omega, by omega, by omega⟩⟩, by omega⟩)
      exact ms
  rw [if_neg hlt]
  have hm : mof (some (b, x4)) = x4.sp.mem := rfl
  refine ⟨fun i2 H' => (0 ≤ i2 ∧ i2 ≤ m) ∧ Ext H4 H', fun i2 _ => (m - i2).toNat, ⟨by omega, Ext.refl _⟩, ?_⟩
  rintro i2 H28 ⟨hi2, e28⟩
  by_cases hlt2 : i2 < (m : Int)
  case neg =>
    rw [if_neg hlt2]
    refine HC.mono awake20_c ?_
    rintro _ H35 ⟨rfl, e35⟩
    exact ⟨true, rfl, hR _ _ ⟨rfl, (L4.ext.trans e28).trans e35⟩⟩
  rw [if_pos hlt2]
  have hil : i2.toNat < scs.length := by omega
  have Ti := (M4.each _ hil).thing
  refine ⟨fun up k H' => (0 ≤ up ∧ up + k ≤ i2) ∧ (-1 ≤ k ∧ k ≤ i2) ∧ Ext H4 H' ∧ ∀ r : Nat, x4.sp.mem.aboveN (up.toNat + r) (pw scs i2) = x4.sp.mem.aboveN r (pw scs k), fun _ k _ => (k + 1).toNat, ⟨by omega, by omega, e28, fun r => by rw [show (0 : Int).toNat + r = r by simp]⟩, ?_⟩
  rintro up k H29 ⟨hup, hk, e29, hab⟩
  have A29 := A4.grow e29
  have L29 := L4.grow e29
  have hwi : pw scs i2 = scs[i2.toNat].w := pw_at hi2.1 hil
  have habv : x4.sp.mem.above scs[i2.toNat].w up = x4.sp.mem.aboveN 0 (pw scs k) := by
    unfold Mem.above
    rw [if_neg (by omega), ← hwi]
    have := hab 0
    rw [Nat.add_zero] at this; exact this
  by_cases hk0 : k ≥ 0
  · rw [if_pos hk0]
    have hkl : k.toNat < scs.length := by omega
    have Tk := (M4.each _ hkl).thing
    have lk := (M4.each _ hkl).len
    have hbv : x4.sp.mem.above scs[i2.toNat].w up = (scs[k.toNat].w, 0) := by rw [habv, M4.above0 hk0 hkl, pw_at hk0 hkl]
    refine ⟨fun nv H' => (0 ≤ nv ∧ nv ≤ scs[k.toNat].n) ∧ Ext H4 H', fun nv _ => (scs[k.toNat].n - nv).toNat, ⟨by omega, e29⟩, ?_⟩
    rintro nv H30 ⟨hnv, e30⟩
    have A30 := A4.grow e30
    have L30 := L4.grow e30
    obtain ⟨bl, hq, _, _, hk2⟩ := A30.at hkl
    subst hq
    refine ⟨_, rfl, ⟨hk0, by omega⟩, _, _, _, by simp only [addr_add_mk, Nat.zero_add]; exact hk2, ?_⟩
    obtain ⟨bl', hq', hiw, _, _⟩ := A30.at hil
    cases hq'
    by_cases hnl : nv < (scs[k.toNat].n : Int)
    · rw [if_pos hnl]
      refine ⟨⟨hi2.1, by omega⟩, _, by rw [addr_add_mk, Nat.zero_add]; exact hiw, ?_⟩
      refine HC.mono (frame_Get_c L30.view Ti.word ⟨by omega, by omega⟩ ⟨by omega, by omega⟩) ?_
      rintro _ H31 ⟨rfl, e31⟩
      refine ⟨_, _, rfl, ?_⟩
      obtain ⟨g1, g2⟩ := Tk.envIn (i := nv) hbv ⟨hnv.1, by omega⟩
      rw [hm, if_pos g1, g1, g2, if_pos rfl]
      have A31 := A30.grow e31
      obtain ⟨bl', hq', _, _, hk2'⟩ := A31.at hkl
      cases hq'
      have hnN : nv.toNat < scs[k.toNat].ws.length := by omega
      obtain ⟨ga, hga, hgat⟩ := (A31.each _ (List.getElem_mem hkl)).1.at (j := nv.toNat) (v := .int .u64 scs[k.toNat].ws[nv.toNat]) (by rw [wvs, List.getElem?_map, List.getElem?_eq_getElem hnN]; rfl)
      refine ⟨⟨hk0, by omega⟩, _, _, _, by simp only [addr_add_mk, Nat.zero_add]; exact hk2', ga, hga, ⟨hnv.1, hnl⟩, _, by rw [Nat.mul_one]; exact hgat, ?_⟩
      rw [if_pos (getD_at hnN 0), w64 (n := nv + 1) (by omega)]
      exact ⟨⟨by omega, e30.trans e31⟩, by show ((scs[k.toNat].n : Int) - (nv + 1)).toNat < ((scs[k.toNat].n : Int) - nv).toNat; omega⟩
    rw [if_neg hnl]
    refine ⟨⟨hi2.1, by omega⟩, _, by rw [addr_add_mk, Nat.zero_add]; exact hiw, ⟨hk0, by omega⟩, _, _, _, by simp only [addr_add_mk, Nat.zero_add]; exact hk2, ?_⟩
    refine HC.mono (frame_Get_c L30.view Ti.word ⟨by omega, by omega⟩ ⟨by omega, by omega⟩) ?_
    rintro _ H32 ⟨rfl, e32⟩
    refine ⟨_, _, rfl, ?_⟩
    have g4 := Tk.envOut (i := (scs[k.toNat].n : Int)) hbv (.inr (by omega))
    rw [hm, g4, if_pos rfl]
    obtain ⟨bl', hq', _, hk1', _⟩ := (A30.grow e32).at hkl
    cases hq'
    have hpar := (M4.each _ hkl).par
    refine ⟨⟨hk0, by omega⟩, _, by simp only [addr_add_mk, Nat.zero_add]; exact hk1', ?_⟩
    rw [w64 (n := up + 1) (by omega)]
    refine ⟨⟨by omega, by omega, e30.trans e32, fun r => ?_⟩, by show (scs[k.toNat].parent + 1).toNat < (k + 1).toNat; omega⟩
    rw [show (up + 1).toNat + r = up.toNat + (r + 1) by omega, hab, M4.aboveS hk0 hkl]
  rw [if_neg hk0]
  obtain ⟨bl, hq, hiw, _, _⟩ := A29.at hil
  subst hq
  refine ⟨_, rfl, ⟨hi2.1, by omega⟩, _, by rw [addr_add_mk, Nat.zero_add]; exact hiw, ?_⟩
  refine HC.mono (frame_Get_c L29.view Ti.word ⟨by omega, by omega⟩ (by decide)) ?_
  rintro _ H33 ⟨rfl, e33⟩
  refine ⟨_, _, rfl, ?_⟩
  have g3 : x4.sp.mem.envE scs[i2.toNat].w up 0 = 3 := by
    unfold Mem.envE
    rw [habv, pw_neg (by omega), above_nil, if_pos (by decide)]
  rw [hm, g3, if_pos rfl]
  have A33 := A29.grow e33
  obtain ⟨bl', hq', hiw', _, hil2⟩ := A33.at hil
  cases hq'
  refine ⟨⟨hi2.1, by omega⟩, _, by rw [addr_add_mk, Nat.zero_add]; exact hiw', ⟨hi2.1, by omega⟩, _, _, _, by simp only [addr_add_mk, Nat.zero_add]; exact hil2, ?_⟩
  refine HC.mono (frame_Count_c (L29.grow e33).view Ti.word) ?_
  rintro _ H34 ⟨rfl, e34⟩
  obtain ⟨bl', hq', _, _, hil3⟩ := (A33.grow e34).at hil
  cases hq'
  refine ⟨_, rfl, ⟨by simp only [addr_add_mk, Nat.zero_add, Nat.add_zero]; exact hil3, trivial⟩, ?_⟩
  rw [hm, Ti.count', if_pos (by rw [(M4.each _ hil).len.1]), w64 (n := i2 + 1) (by omega)]
  exact ⟨⟨by omega, (e29.trans e33).trans e34⟩, by show ((m : Int) - (i2 + 1)).toNat < ((m : Int) - i2).toNat; omega⟩

set_option maxRecDepth 100000 in
theorem lifted (os : Os) (started : os.Started) (H : Type) (enc : TypeId × Value → H) :
    ReturnsInHanded {} Try.checked os 5 .any (Rows.frameLexicalSpec.pre6 enc Try.prog Try.f5 Rows.frameLexicalRow.domain false) (Rows.frameLexicalSpec.post enc Try.prog Try.f5 false true false false) := by
  refine law_lifted (tb := 4) started (by kernel_rfl) Try.func5
    (ChangeSpec.witness6 (enc := enc) (C := Try.checked) false ⟨#[], #[.slice none 0 0], []⟩ 8 (by kernel_rfl) (by kernel_rfl) (by kernel_rfl) (by kernel_rfl))
    rfl (by kernel_rfl) rfl Try.underlying4 (fun ds hds => ?_) ?_
  · match ds, hds with
    | [d0], _ => rfl
  intro W base args ds p hval hA _
  rw [Try.params5] at hA hval
  obtain ⟨v0, vs0, d0, ds0, p0, q0, hargs, rfl, rfl, h0, r0⟩ := trodAll_cons hA
  obtain ⟨rfl, rfl, rfl⟩ := trodAll_nil r0
  obtain rfl : args = #[v0] := by cases args; simp_all
  obtain ⟨p0, n0, c0, x0, rfl, w0, u0⟩ := open_steps (B := maxLen) (.inl rfl) (hval 0 47 v0 rfl rfl) h0
  exact law p0 n0 c0 x0 W.heap w0 u0

theorem over : Rows.frameLexicalRow.holds Try.pinned (OpenSpec.ofChange Rows.frameLexicalSpec) :=
  OpenClaim.holds_of_wide 5 Try.f5 rfl rfl rfl rfl rfl rfl rfl ⟨rfl, rfl, rfl, rfl, rfl⟩ rfl rfl rfl rfl rfl (by kernel_rfl) Try.func5 (by kernel_rfl)
    (of_decide_eq_true (by kernel_rfl)) (by unfold Func.isWrapper; first | (rw [if_pos (by decide +kernel)]; kernel_rfl) | (rw [if_neg (by decide +kernel)]; exact ⟨rfl, rfl⟩))
    (fun os started H enc _ => lifted os started H enc)

theorem proved : Rows.FrameLexicalSaid :=
  over
#print axioms proved
end Go.Proofs.Ytfohlkiikppefaa.frameLexical
