/-
  What is handed to a law, read by readers: one for each type. Proves nothing of any one program.
-/
import Derived.Test.YtillpfaabdlaiaaArg
set_option linter.unusedVariables false
set_option linter.unusedSimpArgs false
namespace Go.Proofs.Ytillpfaabdlaiaa
open Go
open Go.ChangeShapes Go.WideShapes

structure Rdr (α : Type) where
  cells : α → List Value
  ok : Nat → Array Obj → α → Prop
  mono : ∀ {B : Nat} {H H' : Array Obj} {y : α}, Ext H H' → ok B H y → ok B H' y
structure Sl (α : Type) where
  p : Option Addr
  n : Nat
  c : Nat
  xs : List α
structure SlOK {α : Type} (sz : Nat) (r : Rdr α) (B : Nat) (H : Array Obj) (s : Sl α) : Prop where
  len : s.xs.length = s.n
  le : s.n ≤ B
  cap : s.n ≤ s.c
  row : ∀ (i : Nat) (h : i < s.xs.length), ∃ a, s.p = some a ∧ RowAt H (a.add (i * sz)) 0 (r.cells s.xs[i])
  each : ∀ y ∈ s.xs, r.ok B H y
theorem SlOK.ext {α : Type} {sz : Nat} {r : Rdr α} {B : Nat} {H H' : Array Obj} {s : Sl α} (h : SlOK sz r B H s) (e : Ext H H') : SlOK sz r B H' s :=
  ⟨h.len, h.le, h.cap, fun i hi => by obtain ⟨a, h1, h2⟩ := h.row i hi; exact ⟨a, h1, e.rowAt h2⟩, fun y hy => r.mono e (h.each y hy)⟩
def slR {α : Type} (sz : Nat) (r : Rdr α) : Rdr (Sl α) := ⟨fun s => [.slice s.p s.n s.c], SlOK sz r, fun e h => SlOK.ext h e⟩
def intR (k : IntKind) : Rdr Int := ⟨fun n => [.int k n], fun _ _ n => (Lit.int k n).wf = true, fun _ h => h⟩
def boolR : Rdr Bool := ⟨fun b => [.bool b], fun _ _ _ => True, fun _ h => h⟩
def strR' : Rdr ByteArray := ⟨fun s => [.string s], fun B _ s => s.size ≤ B, fun _ h => h⟩
theorem SlOK.nums {k : IntKind} {B : Nat} {H : Array Obj} {s : Sl Int} (h : SlOK 1 (intR k) B H s) : Nums H k s.p s.n s.xs := by
  refine ⟨h.len, ?_, fun x hx => h.each x hx⟩
  cases hp : s.p with
  | none =>
    have : s.xs = [] := by
      cases hx : s.xs with
      | nil => rfl
      | cons a l => obtain ⟨a, ha, _⟩ := h.row 0 (by rw [hx]; simp); rw [hp] at ha; cases ha
    rw [this]; rfl
  | some a =>
    refine rowAt_of fun j v hv => ?_
    have hj : j < s.xs.length := by
      rcases Nat.lt_or_ge j s.xs.length with h | h
      · exact h
      · simp [List.getElem?_eq_none h] at hv
    obtain ⟨a', ha, hr⟩ := h.row j hj
    rw [hp] at ha; cases ha
    have := hr.1
    rw [addr_add0, Nat.mul_one] at this
    have e : v = .int k s.xs[j] := by simpa [hj] using hv.symm
    rw [Nat.zero_add, e]; exact this

section
variable {Hd : Type} {enc : TypeId × Value → Hd} {P : Program} {w : World} {base : Nat} {spare : Nat → Bool} {held : Bool} {B : Nat}
def Reads {α : Type} (enc : TypeId × Value → Hd) (P : Program) (w : World) (base : Nat) (spare : Nat → Bool) (held : Bool) (B : Nat) (t : TypeId) (r : Rdr α) : Prop :=
  ∀ {fuel : Nat} {cs : List Value} {x : DataW Hd × List MemPlace}, DataW.trod enc P w base spare held fuel t cs = some x → Small B x.1 → ∃ y, cs = r.cells y ∧ r.ok B w.heap y
theorem reads_int {t : TypeId} {k : IntKind} (ht : P.underlying t = some (.int k)) : Reads enc P w base spare held B t (intR k) := fun h hs => by
  obtain ⟨n, h1, h2⟩ := rd_int ht h hs
  exact ⟨n, h1, h2⟩
theorem reads_bool {t : TypeId} (ht : P.underlying t = some .bool) : Reads enc P w base spare held B t boolR := fun h hs => by
  obtain ⟨n, h1⟩ := rd_bool ht h hs
  exact ⟨n, h1, trivial⟩
theorem reads_str {t : TypeId} (ht : P.underlying t = some .string) : Reads enc P w base spare held B t strR' := fun h hs => by
  obtain ⟨n, h1, h2⟩ := rd_str ht h hs
  exact ⟨n, h1, h2⟩
theorem reads_slice {α : Type} {t e : TypeId} {sz : Nat} {r : Rdr α} (ht : P.underlying t = some (.slice e)) (hc : P.cellsOf e = sz) (hE : Reads enc P w base spare held B e r) : Reads enc P w base spare held B t (slR sz r) := fun {fuel cs x} h hB => by
  rcases DataW.trod_slice ht h with ⟨h0, _⟩ | ⟨a, len, cap, elems, rest, n, _, h1, hx, _, hl, hm, hlen, hel, _⟩
  · exact ⟨⟨none, 0, 0, []⟩, h0, rfl, Nat.zero_le _, Nat.le_refl _, fun i hi => by simp at hi, by simp⟩
  · rw [hx] at hB
    obtain ⟨L, hL1, hL2⟩ := choose_list (n := len) (Q := fun i (y : α) => RowAt w.heap (a.add (i * sz)) 0 (r.cells y) ∧ r.ok B w.heap y) (fun i hi => by
      have := hel i hi
      rw [hc] at this
      have he : elems[i]? = some elems[i] := by simp [hlen, hi]
      rw [he] at this
      obtain ⟨vs, hv1, hv2⟩ := Option.bind_eq_some_iff.1 this
      obtain ⟨hv3, hv4⟩ := rowAt_of_cells hv1
      obtain ⟨y, rfl, hy⟩ := hE hv2 (hB.elem (List.mem_map.2 ⟨_, List.getElem_mem _, rfl⟩))
      exact ⟨y, hv4, hy⟩)
    refine ⟨⟨some a, len, cap, L⟩, h1, hL1, ?_, hl, fun i hi => ⟨a, rfl, (hL2 i hi).1⟩, fun y hy => by obtain ⟨i, hi, rfl⟩ := List.getElem_of_mem hy; exact (hL2 i hi).2⟩
    rcases hB with h | h
    · rw [h]; exact Nat.le_trans hl hm
    · simp only [Rows.uptoBulk] at h
      have := bulk_len (elems.map (·.1))
      rw [List.length_map, hlen] at this
      show len ≤ B
      omega
theorem open_read {α : Type} {r : Reach} {b0 : Nat} {t e : TypeId} {sz : Nat} {v : Value} {d : DataW Hd} {ps : List MemPlace} {rd : Rdr α} (ht : P.underlying t = some (.slice e)) (hc : P.cellsOf e = sz) (hE : Reads enc P w base spare held B e rd)
    (hB : Small B d) (hval : Value.okWide P w r b0 t v) (hd : DataW.Trod enc P w base spare held t v d ps) : ∃ s : Sl α, v = .slice s.p s.n s.c ∧ SlOK sz rd B w.heap s := by
  obtain ⟨a, len, cap, rfl⟩ := okWide_slice ht hval
  obtain ⟨fuel, hf⟩ := hd
  obtain ⟨s, h1, h2⟩ := reads_slice ht hc hE hf hB
  simp [Value.cells, slR] at h1
  obtain ⟨rfl, rfl, rfl⟩ := h1
  exact ⟨s, rfl, h2⟩
end
end Go.Proofs.Ytillpfaabdlaiaa
