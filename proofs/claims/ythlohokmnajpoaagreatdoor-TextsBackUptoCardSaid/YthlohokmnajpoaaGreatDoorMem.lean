/-
  Laws of the operations that touch memory, said of heaps: loads, stores, new blocks, indexes, slices, results. Proves nothing of any one program.
-/
import Derived.Test.YthlohokmnajpoaaGreatDoorBase
import Derived.Laws.Sem
set_option linter.unusedVariables false
set_option linter.unusedSimpArgs false
namespace Go.Proofs.YthlohokmnajpoaaGreatDoor
open Go
variable {ds : List Deferred} {ro : Option Nat}

def hat (H : Array Obj) (a : Addr) : Option Value :=
  match H[a.block]? with
  | some (.cells c _ _) => if a.spot.isSome then none else c[a.off]?
  | _ => none
def hfz (H : Array Obj) (a : Addr) : Bool :=
  match H[a.block]? with
  | some (.cells _ _ (lo, hi)) => lo ≤ a.off && a.off < hi
  | _ => false
def hput (H : Array Obj) (a : Addr) (v : Value) : Array Obj :=
  H.modify a.block fun
    | .cells c elem frozen => .cells (if a.spot.isSome then c else c.setIfInBounds a.off v) elem frozen
    | o => o
theorem cell_hat (w : World) (a : Addr) : w.cell? a = hat w.heap a := rfl
theorem frozen_hfz (w : World) (a : Addr) : w.frozen? a = hfz w.heap a := rfl
theorem setCell_heap (w : World) (a : Addr) (v : Value) : (w.setCell a v).heap = hput w.heap a v := rfl
theorem setCell_same (w : World) (a : Addr) (v : Value) : Same w (w.setCell a v) := ⟨rfl, rfl, rfl, Nat.le_refl _⟩

def CanPut (H : Array Obj) (a : Addr) : Prop := (hat H a).isSome = true ∧ hfz H a = false
def hputs (H : Array Obj) (a : Addr) : List Value → Nat → Array Obj
  | [], _ => H
  | v :: vs, i => hputs (hput H (a.add i) v) a vs (i + 1)

theorem hat_hput_isSome (H : Array Obj) (a b : Addr) (v : Value) (h : (hat H b).isSome = true) : (hat (hput H a v) b).isSome = true := by
  unfold hat hput at *
  rw [Array.getElem?_modify]
  by_cases hb : a.block = b.block
  · rw [if_pos hb]
    cases hx : H[b.block]? with
    | none => simp [hx] at h
    | some o =>
      simp only [hx] at h
      simp only [Option.map_some]
      cases o with
      | cells c el fr =>
        by_cases hs : b.spot.isSome = true
        · simp [hs] at h
        · simp only [hs, Bool.false_eq_true, if_false] at h ⊢
          split <;> simpa using h
      | _ => exact h
  · rw [if_neg hb]; exact h
theorem hfz_hput (H : Array Obj) (a b : Addr) (v : Value) : hfz (hput H a v) b = hfz H b := by
  unfold hfz hput
  rw [Array.getElem?_modify]
  by_cases hb : a.block = b.block
  · rw [if_pos hb]
    cases hx : H[b.block]? with
    | none => simp
    | some o => cases o <;> simp
  · rw [if_neg hb]
theorem CanPut.put {H : Array Obj} {b : Addr} (h : CanPut H b) (a : Addr) (v : Value) : CanPut (hput H a v) b := ⟨hat_hput_isSome H a b v h.1, by rw [hfz_hput]; exact h.2⟩

@[simp] theorem addr_add_mk (b o n : Nat) : Addr.add ⟨b, o, none⟩ n = ⟨b, o + n, none⟩ := by
  unfold Addr.add; split <;> simp_all

def LoadOK (P : Program) (H : Array Obj) (t : TypeId) (a : Addr) (v : Value) : Prop := ∀ w, w.heap = H → (loadVar t a).run P w = .ok v w

theorem run_bind_ok {α β : Type} {P : Program} {s : Sem α} {k : α → Sem β} {w w' : World} {x : α} (h : s.run P w = .ok x w') : (s >>= k).run P w = (k x).run P w' := by
  rw [Sem.run_bind, h]; rfl

theorem load_run {P : Program} {w : World} {a : Addr} {v : Value} (h : w.cell? a = some v) : (load a).run P w = .ok v w := by
  show Sem.run P (Sem.load .plain a Sem.pure) w = _
  simp only [Sem.run, h]

theorem loadOK_one {P : Program} {H : Array Obj} {t : TypeId} {a : Addr} {v : Value} (hg : ∀ w, (isAgg t).run P w = .ok false w) (h : hat H a = some v) : LoadOK P H t a v := fun w hw => by
  unfold loadVar
  rw [run_bind_ok (hg w)]
  simp only [Bool.false_eq_true, if_false]
  exact load_run (by rw [cell_hat, hw]; exact h)

def RowAt (H : Array Obj) (a : Addr) : Nat → List Value → Prop
  | _, [] => True
  | i, v :: vs => hat H (a.add i) = some v ∧ RowAt H a (i + 1) vs

theorem loadCells_run {P : Program} {w : World} {a : Addr} : ∀ (vs : List Value) (i : Nat) (acc : Array Value), RowAt w.heap a i vs → (loadCellsFrom a i vs.length acc).run P w = .ok (acc ++ vs.toArray) w
  | [], i, acc, _ => by simp [loadCellsFrom, pure]
  | v :: vs, i, acc, h => by
    simp only [List.length_cons, loadCellsFrom]
    rw [run_bind_ok (load_run (P := P) (v := v) (w := w) h.1)]
    rw [loadCells_run vs (i + 1) _ h.2]
    simp

theorem loadOK_row {P : Program} {H : Array Obj} {t : TypeId} {a : Addr} {vs : List Value} (hg : ∀ w, (isAgg t).run P w = .ok true w) (hn : ∀ w, (sizeOf t).run P w = .ok vs.length w) (h : RowAt H a 0 vs) : LoadOK P H t a (.agg vs.toArray) := fun w hw => by
  unfold loadVar
  rw [run_bind_ok (hg w)]
  simp only [if_true]
  rw [run_bind_ok (hn w)]
  unfold loadCells
  rw [run_bind_ok (loadCells_run (P := P) vs 0 #[] (by rw [hw]; exact h))]
  simp [pure]

def loadN (t : TypeId) (v : Value) : Sem Next := do pure (.value (← Instr.loadAt t v))
theorem loadN_run {P : Program} {H : Array Obj} {t : TypeId} {a : Addr} {v : Value} (h : LoadOK P H t a v) (w : World) (hw : w.heap = H) : (loadN t (.pointer (some a))).run P w = .ok (.value v) w := by
  have h1 : (Instr.loadAt t (.pointer (some a))).run P w = .ok v w := h w hw
  unfold loadN
  rw [run_bind_ok h1]
  rfl
theorem store_run {P : Program} {w : World} {a : Addr} {v : Value} (hv : (match v with | .agg _ | .tuple _ => false | _ => true) = true) (h : CanPut w.heap a) : (store a v).run P w = .ok () (w.setCell a v) := by
  obtain ⟨u, hu⟩ := Option.isSome_iff_exists.1 h.1
  have hf : w.frozen? a = false := by rw [frozen_hfz]; exact h.2
  have hc : w.cell? a = some u := by rw [cell_hat]; exact hu
  show Sem.run P (Sem.store .plain a v (Sem.pure ())) w = _
  cases v <;> simp at hv <;> simp only [Sem.run, hc, hf, Bool.false_eq_true, if_false]

def allOne : List Value → Bool
  | [] => true
  | v :: vs => (match v with | .agg _ | .tuple _ => false | _ => true) && allOne vs
def CanPuts (H : Array Obj) (a : Addr) : Nat → Nat → Prop
  | _, 0 => True
  | i, n + 1 => CanPut H (a.add i) ∧ CanPuts H a (i + 1) n
theorem CanPuts.put {H : Array Obj} {b : Addr} (a : Addr) (v : Value) : ∀ {n i : Nat}, CanPuts H b i n → CanPuts (hput H a v) b i n
  | 0, _, _ => trivial
  | _ + 1, _, h => ⟨h.1.put a v, CanPuts.put a v h.2⟩

theorem storeCells_run {P : Program} {a : Addr} : ∀ (vs : List Value) (i : Nat) (w : World), allOne vs = true → CanPuts w.heap a i vs.length →
    ∃ w', (storeCells a vs i).run P w = .ok () w' ∧ Same w w' ∧ w'.heap = hputs w.heap a vs i
  | [], _, w, _, _ => ⟨w, rfl, Same.refl w, rfl⟩
  | v :: vs, i, w, h1, h2 => by
    simp only [allOne, Bool.and_eq_true] at h1
    obtain ⟨w', hr, hs, hh⟩ := storeCells_run (P := P) (a := a) vs (i + 1) (w.setCell (a.add i) v) h1.2 (by rw [setCell_heap]; exact h2.2.put _ _)
    refine ⟨w', ?_, (setCell_same w _ _).trans hs, by rw [hh, setCell_heap]; rfl⟩
    unfold storeCells
    rw [run_bind_ok (store_run h1.1 h2.1)]
    exact hr

def storeN (t : TypeId) (a v : Value) : Sem Next := do Instr.storeAt t a v; pure .skip
theorem ss_store {P : Program} {H : Array Obj} {t : TypeId} {a : Addr} {v : Value} (vs : List Value) (k : Nat) (hl : v.cells.toList = vs) (hk : vs.length = k) (hn : ∀ w, (sizeOf t).run P w = .ok k w) (h1 : allOne vs = true) (h2 : CanPuts H a 0 k) :
    ∀ w, w.heap = H → ∃ w', (storeN t (.pointer (some a)) v).run P w = .ok .skip w' ∧ Same w w' ∧ w'.heap = hputs H a vs 0 := fun w hw => by
  subst hl; subst hk
  obtain ⟨w', hr, hs, hh⟩ := storeCells_run (P := P) (a := a) v.cells.toList 0 w h1 (by rw [hw]; exact h2)
  refine ⟨w', ?_, hs, by rw [hh, hw]⟩
  have h3 : (Instr.storeAt t (.pointer (some a)) v).run P w = .ok () w' := by
    show (storeVar t a v).run P w = _
    unfold storeVar
    rw [run_bind_ok (hn w)]
    simp only [Array.length_toList, ne_eq, not_true_eq_false, if_false]
    exact hr
  unfold storeN
  rw [run_bind_ok h3]
  rfl

section
variable {P : Program} {n : Nat} {w0 : World} {e e' : Env} {H H' : Array Obj} {Q : Exit → Act → World → Prop}
theorem N_new {ops : Array Oper} {i : Nat} (d : Option Tmp) (f : Nat → Value) (o : Obj) (hx : ∀ w, execAt P ops i e w = some (d, .ok (.value (f w.heap.size)) { w with heap := w.heap.push o }))
    (h : ∀ b H', b = H.size → H' = H.push o → ∃ e', PutSub n e d (f b) e' ∧ RegN ro P n ds w0 ops (i + 1) e' H' Q) : RegN ro P n ds w0 ops i e H Q := fun a w ha hw hs => by
  obtain ⟨op, hd, hwant, hok, hdst, hrun⟩ := execAt_spec (hx w)
  rw [hd]
  unfold wpListIn
  rw [ha.wanted hwant]
  simp only [if_true]
  refine ⟨fun _ _ => trivial, ?_⟩
  rw [ha.sem hok, hrun]
  obtain ⟨e', he', hk⟩ := h w.heap.size (w.heap.push o) (by rw [hw]) (by rw [hw])
  simp only [Oper.uponIn]
  rw [hdst]
  exact hk _ _ (ha.putSub he') rfl (hs.trans ⟨rfl, rfl, rfl, by simp⟩)

theorem N_val {ops : Array Oper} {i : Nat} (d : Option Tmp) (S : Sem Next) (v : Value) (hx : ∀ w, execAt P ops i e w = some (d, S.run P w)) (hS : ∀ w, w.heap = H → S.run P w = .ok (.value v) w)
    (e' : Env) (he : PutSub n e d v e') (h : RegN ro P n ds w0 ops (i + 1) e' H Q) : RegN ro P n ds w0 ops i e H Q :=
  N_op d S (fun u H' => u = v ∧ H' = H) hx (fun w hw => ⟨v, w, hS w hw, Same.refl w, rfl, hw⟩) (by rintro _ _ ⟨rfl, rfl⟩; exact ⟨e', he, h⟩)
end

def indexAtN (t : TypeId) (x i : Value) : Sem Next := do pure (.value (← Instr.indexAt t x i))
theorem indexAt_run {P : Program} {t elem sz : Nat} {a : Addr} {len cap : Nat} {k : IntKind} {i : Int} (hu : P.underlying t = some (.slice elem)) (hz : ∀ w, (sizeOf elem).run P w = .ok sz w)
    (h0 : 0 ≤ i) (h1 : i < len) (w : World) : (indexAtN t (.slice (some a) len cap) (.int k i)).run P w = .ok (.value (.pointer (some (a.add (i.toNat * sz))))) w := by
  have hz' := hz w
  simp [indexAtN, Instr.indexAt, Sem.run_bind, asIntOf, underlying, program, hu, h0, h1, hz', Sem.run, pure, Result.andThen]
theorem indexArr_run {P : Program} {t elem sz n : Nat} {a : Addr} {k : IntKind} {i : Int} (hu : P.underlying t = some (.array n elem)) (hz : ∀ w, (sizeOf elem).run P w = .ok sz w)
    (h0 : 0 ≤ i) (h1 : i < n) (w : World) : (indexAtN t (.pointer (some a)) (.int k i)).run P w = .ok (.value (.pointer (some (a.add (i.toNat * sz))))) w := by
  have hz' := hz w
  simp [indexAtN, Instr.indexAt, Sem.run_bind, asIntOf, underlying, program, hu, h0, h1, hz', Sem.run, pure, Result.andThen, Instr.sureAddr]

def indexN (t : TypeId) (x i : Value) : Sem Next := do pure (.value (← Instr.index t x i))
theorem indexStr_run {P : Program} {t : Nat} {s : ByteArray} {k : IntKind} {i : Int} {c : UInt8} (hu : P.underlying t = some .string) (h0 : 0 ≤ i) (h1 : s[i.toNat]? = some c) (w : World) :
    (indexN t (.string s) (.int k i)).run P w = .ok (.value (.int .u8 c.toNat)) w := by
  simp [indexN, Instr.index, Sem.run_bind, asIntOf, underlying, program, hu, h0, h1, Sem.run, pure, Result.andThen]
theorem indexAgg_run {P : Program} {t elem n : Nat} {cs : Array Value} {k : IntKind} {i : Int} {v : Value} (hu : P.underlying t = some (.array n elem)) (hz : ∀ w, (sizeOf elem).run P w = .ok 1 w) (hg : ∀ w, (isAgg elem).run P w = .ok false w)
    (h0 : 0 ≤ i) (h1 : i < n) (hv : cs[i.toNat]? = some v) (w : World) : (indexN t (.agg cs) (.int k i)).run P w = .ok (.value v) w := by
  have hz' := hz w
  have hg' := hg w
  simp [indexN, Instr.index, Sem.run_bind, asIntOf, underlying, program, hu, h0, h1, hz', hg', hv, Sem.run, pure, Result.andThen, part]

theorem indexAggs_run {P : Program} {t elem n sz : Nat} {cs : Array Value} {k : IntKind} {i : Int} {vs : List Value} (hu : P.underlying t = some (.array n elem)) (hz : ∀ w, (sizeOf elem).run P w = .ok sz w) (hg : ∀ w, (isAgg elem).run P w = .ok true w)
    (h0 : 0 ≤ i) (h1 : i < n) (hv : (cs.toList.drop (i.toNat * sz)).take sz = vs) (w : World) : (indexN t (.agg cs) (.int k i)).run P w = .ok (.value (.agg vs.toArray)) w := by
  have hz' := hz w
  have hg' := hg w
  have he : cs.extract (i.toNat * sz) (i.toNat * sz + sz) = vs.toArray := by
    rw [← hv]; apply Array.toList_inj.1; rw [Array.toList_extract, List.extract_eq_take_drop]
    simp
  simp [indexN, Instr.index, Sem.run_bind, asIntOf, underlying, program, hu, h0, h1, hz', hg', he, Sem.run, pure, Result.andThen, part]

def binN (op : BinOp) (t : TypeId) (x y : Value) : Sem Next := do pure (.value (← binOp op t x y))
theorem rem_run {P : Program} {t : TypeId} {k : IntKind} {x y : Int} (hy : y ≠ 0) (w : World) : (binN .rem t (.int k x) (.int k y)).run P w = .ok (.value (.int k (x.tmod y))) w := by
  simp [binN, binOp, Op.intDiv, hy, Sem.run_bind, Sem.run, pure, Result.andThen]
def ishl (k : IntKind) (x y : Int) : Int := k.wrap (x * 2 ^ (min y.toNat k.bits))
def ishr (k : IntKind) (x y : Int) : Int := x.fdiv (2 ^ (min y.toNat k.bits))
theorem shl_run {P : Program} {t : TypeId} {k k' : IntKind} {x y : Int} (hy : 0 ≤ y) (w : World) : (binN .shl t (.int k x) (.int k' y)).run P w = .ok (.value (.int k (ishl k x y))) w := by
  have : ¬ y < 0 := by omega
  simp [binN, binOp, Op.shift, this, Sem.run_bind, Sem.run, pure, Result.andThen, ishl]
theorem shr_run {P : Program} {t : TypeId} {k k' : IntKind} {x y : Int} (hy : 0 ≤ y) (w : World) : (binN .shr t (.int k x) (.int k' y)).run P w = .ok (.value (.int k (ishr k x y))) w := by
  have : ¬ y < 0 := by omega
  simp [binN, binOp, Op.shift, this, Sem.run_bind, Sem.run, pure, Result.andThen, ishr]
def iand (k : IntKind) (x y : Int) : Int := k.wrap (BitVec.ofInt k.bits x &&& BitVec.ofInt k.bits y).toNat
def ior (k : IntKind) (x y : Int) : Int := k.wrap (BitVec.ofInt k.bits x ||| BitVec.ofInt k.bits y).toNat
def sliceN (t : TypeId) (x : Value) (lo hi mx : Option Value) : Sem Next := do pure (.value (← Instr.sliceAt t x lo hi mx))
theorem slice_run {P : Program} {t elem sz : Nat} {a : Option Addr} {len cap : Nat} (lo hi : Option Value) (l h : Nat) (hu : P.underlying t = some (.slice elem)) (hz : ∀ w, (sizeOf elem).run P w = .ok sz w)
    (hlo : (lo = none ∧ l = 0) ∨ ∃ k, lo = some (.int k l)) (hhi : (hi = none ∧ h = len) ∨ ∃ k, hi = some (.int k h)) (h1 : l ≤ h) (h2 : h ≤ cap) (w : World) :
    (sliceN t (.slice a len cap) lo hi none).run P w = .ok (.value (.slice (if cap = l then a else a.map (·.add (l * sz))) (h - l) (cap - l))) w := by
  have hz' := hz w
  have e0 : (0 : Int) ≤ (h : Int) := by omega
  have e1 : (h : Int) ≤ (cap : Int) := by omega
  have e2 : (0 : Int) ≤ (l : Int) := by omega
  have e3 : (l : Int) ≤ (h : Int) := by omega
  rcases hlo with ⟨rfl, rfl⟩ | ⟨k, rfl⟩ <;> rcases hhi with ⟨rfl, rfl⟩ | ⟨k', rfl⟩ <;>
    simp_all [sliceN, Instr.sliceAt, Instr.slice, Instr.sliceBounds, Instr.sliceBound, Sem.run_bind, asIntOf, underlying, program, Sem.run, pure, Result.andThen]
theorem sliceStr_run {P : Program} {t : Nat} {s : ByteArray} (lo hi : Option Value) (l h : Nat) (hu : P.underlying t = some .string)
    (hlo : (lo = none ∧ l = 0) ∨ ∃ k, lo = some (.int k l)) (hhi : (hi = none ∧ h = s.size) ∨ ∃ k, hi = some (.int k h)) (h1 : l ≤ h) (h2 : h ≤ s.size) (w : World) :
    (sliceN t (.string s) lo hi none).run P w = .ok (.value (.string (s.extract l h))) w := by
  have e0 : (0 : Int) ≤ (h : Int) := by omega
  have e1 : (h : Int) ≤ (s.size : Int) := by omega
  have e2 : (0 : Int) ≤ (l : Int) := by omega
  have e3 : (l : Int) ≤ (h : Int) := by omega
  rcases hlo with ⟨rfl, rfl⟩ | ⟨k, rfl⟩ <;> rcases hhi with ⟨rfl, rfl⟩ | ⟨k', rfl⟩ <;>
    simp_all [sliceN, Instr.sliceAt, Instr.slice, Instr.sliceBounds, Instr.sliceBound, Sem.run_bind, asIntOf, underlying, program, Sem.run, pure, Result.andThen]

def tup : List Value → Value
  | [v] => v
  | vs => .tuple vs.toArray
inductive ResOK (P : Program) (H : Array Obj) (e : Env) : List ResultVar → List Value → Prop where
  | nil : ResOK P H e [] []
  | tmp {t : Nat} {v : Value} {rs : List ResultVar} {vs : List Value} (h : e.get t = some v) (r : ResOK P H e rs vs) : ResOK P H e (.tmp t :: rs) (v :: vs)
  | cell {b t : Nat} {a : Addr} {v : Value} {rs : List ResultVar} {vs : List Value} (h : e.get b = some (.pointer (some a))) (hl : LoadOK P H t a v) (r : ResOK P H e rs vs) : ResOK P H e (.cell b t :: rs) (v :: vs)

theorem Agree.getD {n : Nat} {e : Env} {a : Act} (h : Agree n ds e a) {t : Nat} {v : Value} (hv : e.get t = some v) : a.tmps.getD t undef = v := by
  have := h.vals t v hv
  simp [Array.getD_eq_getD_getElem?, this]

theorem ResOK.list {P : Program} {H : Array Obj} {n : Nat} {e : Env} {a : Act} {w : World} (ha : Agree n ds e a) (hw : w.heap = H) : ∀ {rs : List ResultVar} {vs : List Value}, ResOK P H e rs vs →
    Sem.run P (rs.mapM (fun r : ResultVar => match r with | .tmp t => (pure (a.tmps.getD t undef) : Sem Value) | .cell b t => do loadVar t (← asAddr (a.tmps.getD b undef)))) w = Result.ok vs w
  | _, _, .nil => rfl
  | _, _, .tmp h r => by
    have ih := ResOK.list ha hw r
    rw [List.mapM_cons]
    simp only [pure_bind, ha.getD h]
    rw [run_bind_ok ih]
    rfl
  | _, _, .cell h hl r => by
    have ih := ResOK.list ha hw r
    rw [List.mapM_cons]
    simp only [ha.getD h]
    rw [run_bind_ok (x := _) (w' := w) (by show Sem.run P (loadVar _ _) w = _; exact hl w hw), run_bind_ok ih]
    rfl

theorem ResOK.run {P : Program} {H : Array Obj} {n : Nat} {e : Env} {a : Act} {w : World} {fn : Func} {vs : List Value} (ha : Agree n ds e a) (hw : w.heap = H) (h : ResOK P H e fn.results.toList vs) :
    (results fn a.tmps).run P w = .ok (tup vs) w := by
  have h1 := ResOK.list ha hw h
  unfold results
  rw [Array.mapM_eq_mapM_toList]
  simp only [bind_map_left]
  refine (run_bind_ok (x := vs) (w' := w) h1).trans ?_
  match vs with
  | [] => rfl
  | [v] => rfl
  | v :: u :: vs => simp [tup, pure]

section
variable {P : Program} {n : Nat} {w0 : World} {e : Env} {H : Array Obj} {Q : Exit → Act → World → Prop}
def marks (Ds : List Nat) : List Deferred := Ds.map fun D => { target := .collected D, args := #[] }
def Shut : List Nat → Array Obj → (Array Obj → Prop) → Prop
  | [], H, K => K H
  | D :: Ds, H, K => H[D]? = some (.deferred (some [])) ∧ Shut Ds (H.setIfInBounds D (.deferred none)) K
theorem Shut.mono {K K' : Array Obj → Prop} (hk : ∀ H', K H' → K' H') : ∀ {Ds : List Nat} {H : Array Obj}, Shut Ds H K → Shut Ds H K'
  | [], _, h => hk _ h
  | _ :: _, _, h => ⟨h.1, Shut.mono hk h.2⟩
theorem Shut.leave {fn : Func} {R : Value → Array Obj → Prop} {tm : Array Value} (ht : ∀ w vs, ResOK P w.heap e fn.results.toList vs → (results fn tm).run P w = .ok (tup vs) w) : ∀ (Ds : List Nat) (w : World), Same w0 w → Shut Ds w.heap (fun H' => ∃ vs, ResOK P H' e fn.results.toList vs ∧ R (tup vs) H') →
    LeavesInM Fence.wide 0 P fn tm (fun e w' => ∃ v, e = .returned v ∧ Same w0 w' ∧ R v w'.heap) (marks Ds) .returning w
  | [], w, hs, ⟨vs, h⟩ => ⟨_, ht w vs h.1, _, rfl, hs, h.2⟩
  | D :: Ds, w, hs, h => ⟨by simp, .inl ⟨D, _, rfl, run_takeDeferred h.1, Shut.leave ht Ds _ ⟨hs.os, hs.tape, hs.output, hs.drawn⟩ h.2⟩⟩
theorem S_doneM {fn : Func} {R : Value → Array Obj → Prop} (Ds : List Nat) (hQ : ∀ a w, Leave P fn w0 R a w → Q .ret a w ∧ Q .normal a w)
    (h : Shut Ds H (fun H' => ∃ vs, ResOK P H' e fn.results.toList vs ∧ R (tup vs) H')) : At n (marks Ds) w0 e H (Q .ret) := fun a w ha hw hs =>
  (hQ a w (by unfold Leave; rw [ha.defers]; exact Shut.leave (fun w' vs hr => hr.run ha rfl) Ds w hs (by rw [hw]; exact h))).1
theorem S_doneMN {fn : Func} {R : Value → Array Obj → Prop} (Ds : List Nat) (hQ : ∀ a w, Leave P fn w0 R a w → Q .ret a w ∧ Q .normal a w)
    (h : Shut Ds H (fun H' => ∃ vs, ResOK P H' e fn.results.toList vs ∧ R (tup vs) H')) : At n (marks Ds) w0 e H (Q .normal) := fun a w ha hw hs =>
  (hQ a w (by unfold Leave; rw [ha.defers]; exact Shut.leave (fun w' vs hr => hr.run ha rfl) Ds w hs (by rw [hw]; exact h))).2
theorem S_done {fn : Func} {R : Value → Array Obj → Prop} (vs : List Value)
    (hQ : ∀ a w, Leave P fn w0 R a w → Q .ret a w ∧ Q .normal a w)
    (hres : ResOK P H e fn.results.toList vs) (h : R (tup vs) H) : At n [] w0 e H (Q .ret) := S_doneM [] hQ ⟨vs, hres, h⟩
theorem S_doneN {fn : Func} {R : Value → Array Obj → Prop} (vs : List Value)
    (hQ : ∀ a w, Leave P fn w0 R a w → Q .ret a w ∧ Q .normal a w)
    (hres : ResOK P H e fn.results.toList vs) (h : R (tup vs) H) : At n [] w0 e H (Q .normal) := S_doneMN [] hQ ⟨vs, hres, h⟩

theorem S_join {σ : Type} {c : Code} (env : σ → Env) (J : σ → Array Obj → Prop) (hk : ∀ s H', J s H' → At n ds w0 (env s) H' (Q .normal))
    (h : At n ds w0 e H (c.wpR ro P (Exit.then (fun a w => ∃ s, Agree n ds (env s) a ∧ Same w0 w ∧ J s w.heap) Q))) : At n ds w0 e H (c.wpR ro P Q) := fun a w ha hw hs => by
  refine wpIn_mono (h a w ha hw hs) ?_
  intro ex a' w' hq
  cases ex with
  | normal => obtain ⟨s, ha', hs', hJ⟩ := hq; exact hk s _ hJ a' w' ha' rfl hs'
  | exit id => exact hq
  | goto l => exact hq
  | ret => exact hq
  | panic ch => exact hq
  | outgrown => exact hq
theorem S_meet {σ : Type} {env : σ → Env} {J : σ → Array Obj → Prop} (s : σ) (he : Sub (env s) e) (hJ : J s H) : At n ds w0 e H (fun a w => ∃ s, Agree n ds (env s) a ∧ Same w0 w ∧ J s w.heap) :=
  fun a w ha hw hs => ⟨s, ha.sub he, hs, by rw [hw]; exact hJ⟩
theorem S_marks (Ds : List Nat) {K : Act → World → Prop} (hd : ds = marks Ds) (h : At n (marks Ds) w0 e H K) : At n ds w0 e H K := hd ▸ h
theorem N_cut {ops : Array Oper} {i : Nat} (e1 : Env) (hk : At n ds w0 e1 H (Q .normal)) (h : At n ds w0 e1 H (Q .normal) → RegN ro P n ds w0 ops i e H Q) : RegN ro P n ds w0 ops i e H Q := h hk
theorem S_env (e' : Env) (he : e = e') {K : Act → World → Prop} (h : At n ds w0 e' H K) : At n ds w0 e H K := he ▸ h
theorem N_env {ops : Array Oper} {i : Nat} (e' : Env) (he : e = e') (h : RegN ro P n ds w0 ops i e' H Q) : RegN ro P n ds w0 ops i e H Q := he ▸ h
theorem Q_env {ops : Array Oper} {i : Nat} (e' : Env) (he : e = e') (h : RegQ P n ds w0 ops i e' H Q) : RegQ P n ds w0 ops i e H Q := he ▸ h
end

def onPtr (p : Option Addr) (A : Prop) (B : Addr → Prop) : Prop := match p with | none => A | some a => B a
@[simp] theorem onPtr_none {A : Prop} {B : Addr → Prop} : onPtr none A B = A := rfl
@[simp] theorem onPtr_some {A : Prop} {B : Addr → Prop} {a : Addr} : onPtr (some a) A B = B a := rfl
theorem sb {e' e : Env} (h : e'.map (fun p => e.get p.1) = e'.map (fun p => some p.2)) : Sub e' e := h
theorem ps {n : Nat} {e : Env} {d : Option Nat} {v : Value} {e' : Env} (h : (putS n e d v).map (fun e1 => e'.map (fun p => e1.get p.1)) = some (e'.map (fun p => some p.2))) : PutSub n e d v e' := h

def Code.fa : Code → Code
  | .seq a _ => a
  | .cond _ a _ => a
  | .block _ b => b
  | .loop b => b
  | .scope b => b
  | .rangeFunc _ _ a _ => a
  | c => c
def Code.fb : Code → Code
  | .seq _ b => b
  | .cond _ _ b => b
  | .rangeFunc _ _ _ b => b
  | c => c
def Code.ops : Code → Array Oper
  | .region _ o _ => o
  | _ => #[]
def Func.code (f : Func) : Code := f.body.getD .skip
end Go.Proofs.YthlohokmnajpoaaGreatDoor
