/-
 A datum that is handed to a law, read as a tree. Proves nothing of any one program.
-/
import Derived.Test.YtdgejifkcfgliaaGreatDoorRead
import Derived.Test.YtdgejifkcfgliaaGreatDoorDatM
set_option linter.unusedVariables false
set_option linter.unusedSimpArgs false
namespace Go.Proofs.YtdgejifkcfgliaaGreatDoor
open Go
open Go.ChangeShapes Go.WideShapes

section
variable {Hd : Type} {enc : TypeId × Value → Hd} {P : Program} {w : World} {base : Nat} {spare : Nat → Bool} {held : Bool} {B : Nat}
def ReadsN {α : Type} (n : Nat) (enc : TypeId × Value → Hd) (P : Program) (w : World) (base : Nat) (spare : Nat → Bool) (held : Bool) (B : Nat) (t : TypeId) (r : Rdr α) : Prop :=
 ∀ {cs : List Value} {x : DataW Hd × List MemPlace}, DataW.trod enc P w base spare held n t cs = some x → Small B x.1 → ∃ y, cs = r.cells y ∧ r.ok B w.heap y
theorem Reads.n {α : Type} {t : TypeId} {r : Rdr α} (h : Reads enc P w base spare held B t r) (n : Nat) : ReadsN n enc P w base spare held B t r := fun h1 h2 => h h1 h2
theorem readsN_slice {α : Type} {n : Nat} {t e : TypeId} {sz : Nat} {r : Rdr α} (ht : P.underlying t = some (.slice e)) (hc : P.cellsOf e = sz) (hE : ∀ m, m < n → ReadsN m enc P w base spare held B e r) : ReadsN n enc P w base spare held B t (slR sz r) := fun {cs x} h hB => by
 rcases DataW.trod_slice ht h with ⟨h0, _⟩ | ⟨a, len, cap, elems, rest, m, hnm, h1, hx, _, hl, hm, hlen, hel, _⟩
 ·exact ⟨⟨none, 0, 0, []⟩, h0, rfl, Nat.zero_le _, Nat.le_refl _, fun i hi => by simp at hi, by simp⟩
 ·rw [hx] at hB
  obtain ⟨L, hL1, hL2⟩ := choose_list (n := len) (Q := fun i (y : α) => RowAt w.heap (a.add (i * sz)) 0 (r.cells y) ∧ r.ok B w.heap y) (fun i hi => by
   have := hel i hi
   rw [hc] at this
   have he : elems[i]? = some elems[i] := by simp [hlen, hi]
   rw [he] at this
   obtain ⟨vs, hv1, hv2⟩ := Option.bind_eq_some_iff.1 this
   obtain ⟨hv3, hv4⟩ := rowAt_of_cells hv1
   obtain ⟨y, rfl, hy⟩ := hE m (by omega) hv2 (hB.elem (List.mem_map.2 ⟨_, List.getElem_mem _, rfl⟩))
   exact ⟨y, hv4, hy⟩)
  refine ⟨⟨some a, len, cap, L⟩, h1, hL1, ?_, hl, fun i hi => ⟨a, rfl, (hL2 i hi).1⟩, fun y hy => by obtain ⟨i, hi, rfl⟩ := List.getElem_of_mem hy; exact (hL2 i hi).2⟩
  rcases hB with h | h
  ·rw [h]; exact Nat.le_trans hl hm
  ·simp only [Rows.uptoBulk] at h
   have := bulk_len (elems.map (·.1))
   rw [List.length_map, hlen] at this
   show len ≤ B
   omega
theorem rdN_fields {t : TypeId} {fs : Array Field} (ht : P.underlying t = some (.struct fs)) {fuel : Nat} {cs : List Value} {x : DataW Hd × List MemPlace} (h : DataW.trod enc P w base spare held fuel t cs = some x) (hB : Small B x.1) :
  cs.length = P.cellsOf t ∧ ∃ n, fuel = n + 1 ∧ ∀ (i : Nat) (f : Field), fs[i]? = some f → ∃ (y : DataW Hd × List MemPlace), DataW.trod enc P w base spare held n f.type ((cs.drop f.offset).take (P.cellsOf f.type)) = some y ∧ Small B y.1 := by
 obtain ⟨xs, n, hn, hx, h1, h2, h3⟩ := DataW.trod_struct ht h
 rw [hx] at hB
 refine ⟨h1, n, hn, fun i f hf => ?_⟩
 have hi : i < xs.length := by
  rw [h2]
  rcases Nat.lt_or_ge i fs.size with h | h
  ·exact h
  ·simp [Array.getElem?_eq_none h] at hf
 exact ⟨xs[i], by rw [h3 i f hf]; simp [hi], hB.part (List.mem_map.2 ⟨_, List.getElem_mem _, rfl⟩)⟩
end

def Old (H : Array Obj) (i : Nat) : Prop := i < H.size
theorem hat_lt {H : Array Obj} {a : Addr} {v : Value} (h : hat H a = some v) : a.block < H.size := by
 unfold hat at h
 rcases Nat.lt_or_ge a.block H.size with h1 | h1
 ·exact h1
 ·simp [h1] at h
def datR : Rdr (Dv × Dt) := ⟨fun y => y.1.cells, fun B H y => DatAt (Old H) H y.1 y.2, fun e h => h.keep (S := []) e.fr (by simp) (fun i (hi : i < _) => Nat.lt_of_lt_of_le hi e.size)⟩
structure NumRd where
 neg : Bool
 mag : Sl Int
abbrev NumRd.cells (y : NumRd) : List Value := [.bool y.neg, .slice y.mag.p y.mag.n y.mag.c]
def numRd : Rdr NumRd := ⟨NumRd.cells, fun B H y => (slR 1 (intR .u32)).ok B H y.mag, fun e h => (slR 1 (intR .u32)).mono e h⟩
set_option maxRecDepth 100000 in
theorem reads_NumRd {Hd : Type} {enc : TypeId × Value → Hd} {w : World} {base : Nat} {spare : Nat → Bool} {held : Bool} {B : Nat} : Reads enc Tryz.prog w base spare held B 24 numRd := fun {fuel cs x} h hs => by
 have csn : Tryz.prog.cellsOf 24 = 2 := by kernel_rfl
 obtain ⟨hlen, hf⟩ := rd_fields Tryz.underlying24 h hs
 rw [csn] at hlen
 match cs, hlen with
 | [a0, a1], _ =>
  obtain ⟨n0, y0, g0, s0⟩ := hf 0 _ rfl
  have c0 : Tryz.prog.cellsOf 4 = 1 := by kernel_rfl
  have e0 : ([a0, a1].drop 0).take (Tryz.prog.cellsOf 4) = [a0] := by rw [c0]; rfl
  replace g0 : DataW.trod enc Tryz.prog w base spare held n0 4 [a0] = some y0 := by rw [← e0]; exact g0
  obtain ⟨z0, k0, o0⟩ := (reads_bool Tryz.underlying4 : Reads enc Tryz.prog w base spare held B 4 boolR) g0 s0
  obtain ⟨n1, y1, g1, s1⟩ := hf 1 _ rfl
  have c1 : Tryz.prog.cellsOf 22 = 1 := by kernel_rfl
  have e1 : ([a0, a1].drop 1).take (Tryz.prog.cellsOf 22) = [a1] := by rw [c1]; rfl
  replace g1 : DataW.trod enc Tryz.prog w base spare held n1 22 [a1] = some y1 := by rw [← e1]; exact g1
  obtain ⟨z1, k1, o1⟩ := (reads_slice Tryz.underlying22 (by kernel_rfl) (reads_int Tryz.underlying94) : Reads enc Tryz.prog w base spare held B 22 (slR 1 (intR .u32))) g1 s1
  cases k0
  cases k1
  exact ⟨⟨z0, z1⟩, rfl, o1⟩
set_option maxRecDepth 100000 in
set_option maxHeartbeats 1000000 in
theorem readsN_Dat {Hd : Type} {enc : TypeId × Value → Hd} {w : World} {base : Nat} {spare : Nat → Bool} {held : Bool} {B : Nat} (hBb : B < 9223372036854775808) (n : Nat) : ReadsN n enc Tryz.prog w base spare held B 27 datR := by
 induction n using Nat.strongRecOn with
 | ind n ih =>
 intro cs x h hs
 have csn : Tryz.prog.cellsOf 27 = 6 := by kernel_rfl
 obtain ⟨hlen, n', hn, hf⟩ := rdN_fields Tryz.underlying27 h hs
 rw [csn] at hlen
 match cs, hlen with
 | [a0, a1, a2, a3, a4, a5], _ =>
  obtain ⟨y0, g0, s0⟩ := hf 0 _ rfl
  have c0 : Tryz.prog.cellsOf 3 = 1 := by kernel_rfl
  replace g0 : DataW.trod enc Tryz.prog w base spare held n' 3 [a0] = some y0 := by rw [← show ([a0, a1, a2, a3, a4, a5].drop 0).take (Tryz.prog.cellsOf 3) = [a0] by rw [c0]; rfl]; exact g0
  obtain ⟨z0, k0, o0⟩ := (reads_int Tryz.underlying3 : Reads enc Tryz.prog w base spare held B 3 (intR .i64)) g0 s0
  obtain ⟨y1, g1, s1⟩ := hf 1 _ rfl
  have c1 : Tryz.prog.cellsOf 21 = 1 := by kernel_rfl
  replace g1 : DataW.trod enc Tryz.prog w base spare held n' 21 [a1] = some y1 := by rw [← show ([a0, a1, a2, a3, a4, a5].drop 1).take (Tryz.prog.cellsOf 21) = [a1] by rw [c1]; rfl]; exact g1
  obtain ⟨z1, k1, o1⟩ := (reads_int Tryz.underlying21 : Reads enc Tryz.prog w base spare held B 21 (intR .i32)) g1 s1
  obtain ⟨y2, g2, s2⟩ := hf 2 _ rfl
  have c2 : Tryz.prog.cellsOf 24 = 2 := by kernel_rfl
  replace g2 : DataW.trod enc Tryz.prog w base spare held n' 24 [a2, a3] = some y2 := by rw [← show ([a0, a1, a2, a3, a4, a5].drop 2).take (Tryz.prog.cellsOf 24) = [a2, a3] by rw [c2]; rfl]; exact g2
  obtain ⟨z2, k2, o2⟩ := reads_NumRd g2 s2
  obtain ⟨y3, g3, s3⟩ := hf 3 _ rfl
  have c3 : Tryz.prog.cellsOf 9 = 1 := by kernel_rfl
  replace g3 : DataW.trod enc Tryz.prog w base spare held n' 9 [a4] = some y3 := by rw [← show ([a0, a1, a2, a3, a4, a5].drop 4).take (Tryz.prog.cellsOf 9) = [a4] by rw [c3]; rfl]; exact g3
  obtain ⟨z3, k3, o3⟩ := (reads_str Tryz.underlying9 : Reads enc Tryz.prog w base spare held B 9 strR') g3 s3
  obtain ⟨y4, g4, s4⟩ := hf 4 _ rfl
  have c4 : Tryz.prog.cellsOf 25 = 1 := by kernel_rfl
  replace g4 : DataW.trod enc Tryz.prog w base spare held n' 25 [a5] = some y4 := by rw [← show ([a0, a1, a2, a3, a4, a5].drop 5).take (Tryz.prog.cellsOf 25) = [a5] by rw [c4]; rfl]; exact g4
  obtain ⟨z4, k4, o4⟩ := readsN_slice Tryz.underlying25 csn (fun m hm => ih m (by omega)) g4 s4
  cases k0
  cases k1
  cases k2
  cases k3
  cases k4
  have hz0 : I64 z0 := by
   have h : (Lit.int .i64 z0).wf = true := o0
   simp [Lit.wf, IntKind.signed, IntKind.bits, IntKind.min, IntKind.max] at h
   exact ⟨by omega, by omega⟩
  have hz1 : -2147483648 ≤ z1 ∧ z1 ≤ 2147483647 := by
   have h : (Lit.int .i32 z1).wf = true := o1
   simp [Lit.wf, IntKind.signed, IntKind.bits, IntKind.min, IntKind.max] at h
   exact ⟨by omega, by omega⟩
  have hnums := SlOK.nums o2
  refine ⟨(⟨z0, z1, z2.neg, z2.mag.p, z2.mag.n, z2.mag.c, z3, z4.p, z4.n, z4.c⟩, .mk z0 z1 z2.neg z2.mag.xs z3 (z4.xs.map (·.2))), rfl, ?_⟩
  refine .mk _ z0 z1 z2.neg z2.mag.xs z3 _ (z4.xs.map (·.1)) rfl rfl rfl rfl hz0 hz1 o2.len.symm o2.cap (by have := o2.le; show z2.mag.n < _; omega) ?_ ?_ (by simpa using o4.len.symm) o4.cap (by have := o4.le; show z4.n < _; omega) (by simp) ?_ ?_ ?_ ?_
  ·exact hnums.src
  ·intro x hx
   have h := hnums.wf x hx
   simp [Lit.wf, IntKind.signed, IntKind.bits, IntKind.min, IntKind.max] at h
   exact ⟨by omega, by omega⟩
  ·intro hne i hi
   obtain ⟨a, ha, hr⟩ := o2.row 0 (List.length_pos_iff.2 hne)
   have hi : i ∈ blks z2.mag.p := hi
   rw [ha] at hi
   simp at hi
   subst hi
   have := hat_lt hr.1
   simp only [addr_block_add] at this
   exact this
  ·intro hne i hi
   obtain ⟨a, ha, hr⟩ := o4.row 0 (List.length_pos_iff.2 (fun h => hne (by rw [h]; rfl)))
   have hi : i ∈ blks z4.p := hi
   rw [ha] at hi
   simp at hi
   subst hi
   have := hat_lt hr.1
   simp only [addr_block_add] at this
   exact this
  ·intro i hi
   have hi' : i < z4.xs.length := by simpa using hi
   obtain ⟨a, ha, hr⟩ := o4.row i hi'
   exact ⟨a, ha, by simpa [datR] using hr⟩
  ·intro i h1 h2
   have hi' : i < z4.xs.length := by simpa using h1
   have := o4.each _ (List.getElem_mem hi')
   simpa [datR] using this
theorem reads_Dat {Hd : Type} {enc : TypeId × Value → Hd} {w : World} {base : Nat} {spare : Nat → Bool} {held : Bool} {B : Nat} (hBb : B < 9223372036854775808) : Reads enc Tryz.prog w base spare held B 27 datR := fun {fuel cs x} h hs => readsN_Dat hBb fuel h hs
end Go.Proofs.YtdgejifkcfgliaaGreatDoor
