/-
  What is handed to a law, read cell by cell: slices of numbers, of slices, of structs. Proves nothing of any one program.
-/
import Derived.Test.YtillpfaabdlaiaaOwn
import Derived.Test.YtillpfaabdlaiaaLaw
set_option linter.unusedVariables false
set_option linter.unusedSimpArgs false
namespace Go.Proofs.Ytillpfaabdlaiaa
open Go
open Go.ChangeShapes Go.WideShapes

inductive Shape where
  | int (k : IntKind)
  | bool
  | str
  | slice (sz : Nat) (e : Shape)
  | pair (n : Nat) (a b : Shape)
  | unit
def Rd (B : Nat) (H : Array Obj) : Shape → List Value → Prop
  | .int k, cs => ∃ n, cs = [.int k n] ∧ (Lit.int k n).wf = true
  | .bool, cs => ∃ b, cs = [.bool b]
  | .str, cs => ∃ s : ByteArray, cs = [.string s] ∧ s.size ≤ B
  | .slice sz e, cs => ∃ p n c, cs = [.slice p n c] ∧ n ≤ c ∧ n ≤ B ∧ (p = none → n = 0) ∧ ∀ a, p = some a → ∀ i, i < n → ∃ vs, vs.length = sz ∧ RowAt H (a.add (i * sz)) 0 vs ∧ Rd B H e vs
  | .pair n a b, cs => Rd B H a (cs.take n) ∧ Rd B H b (cs.drop n)
  | .unit, cs => cs = []

def Small {Hd : Type} (B : Nat) (d : DataW Hd) : Prop := B = maxLen ∨ Rows.uptoBulk d ≤ B
theorem bulk_part {Hd : Type} {d : DataW Hd} {l : List (DataW Hd)} (h : d ∈ l) : Rows.uptoBulk d ≤ Rows.uptoBulkAll l := by
  induction l with
  | nil => cases h
  | cons x r ih =>
    simp only [Rows.uptoBulkAll]
    cases List.mem_cons.1 h with
    | inl e => subst e; omega
    | inr e => have := ih e; omega
theorem bulk_one {Hd : Type} (d : DataW Hd) : 1 ≤ Rows.uptoBulk d := by
  cases d with
  | lit l => cases l <;> simp [Rows.uptoBulk]
  | nil => simp [Rows.uptoBulk]
  | ptr d => simp [Rows.uptoBulk]
  | slice elems spare => simp [Rows.uptoBulk]
  | agg parts => simp [Rows.uptoBulk]
  | iface t d => simp [Rows.uptoBulk]
  | map entries => simp [Rows.uptoBulk]
  | held h => simp [Rows.uptoBulk]
theorem bulk_len {Hd : Type} (l : List (DataW Hd)) : l.length ≤ Rows.uptoBulkAll l := by
  induction l with
  | nil => simp [Rows.uptoBulkAll]
  | cons x r ih => have := bulk_one x; simp only [Rows.uptoBulkAll, List.length_cons]; omega
theorem Small.elem {Hd : Type} {B : Nat} {es sp : List (DataW Hd)} (h : Small B (.slice es sp)) {d : DataW Hd} (hd : d ∈ es) : Small B d := by
  rcases h with h | h
  · exact .inl h
  · have := bulk_part hd; simp only [Rows.uptoBulk] at h; exact .inr (by omega)
theorem Small.part {Hd : Type} {B : Nat} {es : List (DataW Hd)} (h : Small B (.agg es)) {d : DataW Hd} (hd : d ∈ es) : Small B d := by
  rcases h with h | h
  · exact .inl h
  · have := bulk_part hd; simp only [Rows.uptoBulk] at h; exact .inr (by omega)

section
variable {Hd : Type} {enc : TypeId × Value → Hd} {P : Program} {w : World} {base : Nat} {spare : Nat → Bool} {held : Bool} {B : Nat}
theorem rd_int {t : TypeId} {k : IntKind} (ht : P.underlying t = some (.int k)) {fuel : Nat} {cs : List Value} {x : DataW Hd × List MemPlace} (h : DataW.trod enc P w base spare held fuel t cs = some x) (_ : Small B x.1) : Rd B w.heap (.int k) cs := by
  obtain ⟨n, h1, _, h3⟩ := DataW.trod_int ht h
  exact ⟨n, h1, h3⟩
theorem rd_bool {t : TypeId} (ht : P.underlying t = some .bool) {fuel : Nat} {cs : List Value} {x : DataW Hd × List MemPlace} (h : DataW.trod enc P w base spare held fuel t cs = some x) (_ : Small B x.1) : Rd B w.heap .bool cs := by
  cases fuel with
  | zero => simp [DataW.trod] at h
  | succ n =>
    unfold DataW.trod at h
    rw [ht] at h
    split at h <;> simp_all
    exact ⟨_, rfl⟩
theorem rd_str {t : TypeId} (ht : P.underlying t = some .string) {fuel : Nat} {cs : List Value} {x : DataW Hd × List MemPlace} (h : DataW.trod enc P w base spare held fuel t cs = some x) (hB : Small B x.1) : Rd B w.heap .str cs := by
  cases fuel with
  | zero => simp [DataW.trod] at h
  | succ n =>
    unfold DataW.trod at h
    rw [ht] at h
    split at h <;> simp_all
    rename_i s
    obtain ⟨h1, rfl⟩ := h
    refine ⟨_, rfl, ?_⟩
    rcases hB with h | h
    · rw [h]; exact h1
    · simp only [Rows.uptoBulk] at h
      have e : s.data.toList.length = s.size := by rw [Array.length_toList]; rfl
      omega
theorem rowAt_of_cells {a : Addr} {n : Nat} {cs : List Value} (h : w.cells? base a n = some cs) : cs.length = n ∧ RowAt w.heap a 0 cs := by
  obtain ⟨_, h2, h3⟩ := World.cells?_some h
  refine ⟨h2, rowAt_of fun j v hv => ?_⟩
  have hj : j < cs.length := by
    rcases Nat.lt_or_ge j cs.length with h | h
    · exact h
    · simp [List.getElem?_eq_none h] at hv
  rw [Nat.zero_add, ← cell_hat, h3 j (by omega), hv]
theorem rd_fields {t : TypeId} {fs : Array Field} (ht : P.underlying t = some (.struct fs)) {fuel : Nat} {cs : List Value} {x : DataW Hd × List MemPlace} (h : DataW.trod enc P w base spare held fuel t cs = some x) (hB : Small B x.1) :
    cs.length = P.cellsOf t ∧ ∀ (i : Nat) (f : Field), fs[i]? = some f → ∃ (n : Nat) (y : DataW Hd × List MemPlace), DataW.trod enc P w base spare held n f.type ((cs.drop f.offset).take (P.cellsOf f.type)) = some y ∧ Small B y.1 := by
  obtain ⟨xs, n, _, hx, h1, h2, h3⟩ := DataW.trod_struct ht h
  rw [hx] at hB
  refine ⟨h1, fun i f hf => ?_⟩
  have hi : i < xs.length := by
    rw [h2]
    rcases Nat.lt_or_ge i fs.size with h | h
    · exact h
    · simp [Array.getElem?_eq_none h] at hf
  exact ⟨n, xs[i], by rw [h3 i f hf]; simp [hi], hB.part (List.mem_map.2 ⟨_, List.getElem_mem _, rfl⟩)⟩
end

theorem choose_list {α : Type} {n : Nat} {Q : Nat → α → Prop} (h : ∀ i, i < n → ∃ y, Q i y) : ∃ L : List α, L.length = n ∧ ∀ i (hi : i < L.length), Q i L[i] := by
  induction n with
  | zero => exact ⟨[], rfl, fun i hi => by simp at hi⟩
  | succ n ih =>
    obtain ⟨L, h1, h2⟩ := ih (fun i hi => h i (by omega))
    obtain ⟨y, hy⟩ := h n (by omega)
    refine ⟨L ++ [y], by simp [h1], fun i hi => ?_⟩
    by_cases hl : i < L.length
    · rw [List.getElem_append_left hl]; exact h2 i hl
    · have : i = L.length := by simp at hi; omega
      subst this
      rw [List.getElem_append_right (Nat.le_refl _)]
      simpa [h1] using hy
theorem addr_add0 (a : Addr) : a.add 0 = a := by unfold Addr.add; cases a; split <;> simp_all

structure Nums (H : Array Obj) (k : IntKind) (p : Option Addr) (n : Nat) (xs : List Int) : Prop where
  len : xs.length = n
  src : SrcAt H p (xs.map (Value.int k))
  wf : ∀ x ∈ xs, (Lit.int k x).wf = true
theorem Nums.ext {H H' : Array Obj} {k : IntKind} {p : Option Addr} {n : Nat} {xs : List Int} (h : Nums H k p n xs) (e : Ext H H') : Nums H' k p n xs := by
  refine ⟨h.len, ?_, h.wf⟩
  cases p with
  | none => exact h.src
  | some a => exact e.rowAt h.src
theorem Nums.at {H : Array Obj} {k : IntKind} {p : Option Addr} {n : Nat} {xs : List Int} (h : Nums H k p n xs) {i : Nat} (hi : i < xs.length) : ∃ a, p = some a ∧ hat H (a.add (i * 1)) = some (.int k xs[i]) := by
  cases p with
  | none => have : xs.map (Value.int k) = [] := h.src; simp at this; subst this; simp at hi
  | some a =>
    refine ⟨a, rfl, ?_⟩
    have := rowAt_hat (show RowAt H a 0 _ from h.src) i (.int k xs[i]) (by simp [hi])
    rw [Nat.zero_add] at this; rw [Nat.mul_one]; exact this
structure NumsOf where
  p : Option Addr
  n : Nat
  c : Nat
  xs : List Int
structure Numss (B : Nat) (H : Array Obj) (k : IntKind) (p : Option Addr) (n : Nat) (L : List NumsOf) : Prop where
  len : L.length = n
  src : SrcAt H p (L.map fun y => Value.slice y.p y.n y.c)
  each : ∀ y ∈ L, Nums H k y.p y.n y.xs ∧ y.n ≤ B
theorem Numss.ext {B : Nat} {H H' : Array Obj} {k : IntKind} {p : Option Addr} {n : Nat} {L : List NumsOf} (h : Numss B H k p n L) (e : Ext H H') : Numss B H' k p n L := by
  refine ⟨h.len, ?_, fun y hy => ⟨(h.each y hy).1.ext e, (h.each y hy).2⟩⟩
  cases p with
  | none => exact h.src
  | some a => exact e.rowAt h.src
theorem Numss.at {B : Nat} {H : Array Obj} {k : IntKind} {p : Option Addr} {n : Nat} {L : List NumsOf} (h : Numss B H k p n L) {i : Nat} (hi : i < L.length) : ∃ a, p = some a ∧ hat H (a.add (i * 1)) = some (.slice L[i].p L[i].n L[i].c) ∧ Nums H k L[i].p L[i].n L[i].xs ∧ L[i].n ≤ B := by
  cases p with
  | none => have : L.map (fun y => Value.slice y.p y.n y.c) = [] := h.src; simp at this; subst this; simp at hi
  | some a =>
    refine ⟨a, rfl, ?_, h.each _ (List.getElem_mem _)⟩
    have := rowAt_hat (show RowAt H a 0 _ from h.src) i (.slice L[i].p L[i].n L[i].c) (by simp [hi])
    rw [Nat.zero_add] at this; rw [Nat.mul_one]; exact this
section
variable {Hd : Type} {enc : TypeId × Value → Hd} {P : Program} {w : World} {base : Nat} {spare : Nat → Bool} {held : Bool} {B : Nat}
end
theorem wf_u32 {n : Int} (h : (Lit.int .u32 n).wf = true) : 0 ≤ n ∧ n ≤ 4294967295 := by
  simp only [Lit.wf, Bool.and_eq_true, decide_eq_true_eq] at h
  exact h
end Go.Proofs.Ytillpfaabdlaiaa
