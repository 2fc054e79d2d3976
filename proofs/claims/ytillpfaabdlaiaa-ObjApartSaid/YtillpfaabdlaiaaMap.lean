/-
  Maps whose keys are numbers or strings, said of heaps. Proves nothing of any one program.
-/
import Derived.Test.YtillpfaabdlaiaaOwn
set_option linter.unusedVariables false
set_option linter.unusedSimpArgs false
namespace Go.Proofs.Ytillpfaabdlaiaa
open Go

structure KeyKind (α : Type) [DecidableEq α] where
  cell : α → Value
  desc : TypeDesc
  same : ∀ a b, Instr.sameNow desc (cell a) (cell b) = some (decide (a = b))
  bits : ∀ a, Instr.sameBits 10000 (cell a) (cell a) = true
  plain : ∀ (P : Program) (t : TypeId) (e : Bool) (w : World) (a : α), P.underlying t = some desc → (Instr.checkKey e 10000 t (cell a)).run P w = .ok () w
def intKey (k : IntKind) : KeyKind Int where
  cell := Value.int k
  desc := .int k
  same a b := by
    simp only [Instr.sameNow, if_true, Option.some.injEq]
    by_cases h : a = b <;> simp [h]
  bits a := by simp [Instr.sameBits]
  plain P t e w a h := by
    unfold Instr.checkKey
    rw [run_bind_ok (x := TypeDesc.int k) (w' := w) (by simp [underlying, program, Sem.run, h, Sem.run_bind, pure, Result.andThen])]
    rfl
section
variable {α : Type} [DecidableEq α] (kk : KeyKind α)
def Ents (es : List MapEntry) (ks : List (α × Value)) : Prop := es.map (fun e => (e.key, e.val)) = ks.map (fun p => (kk.cell p.1, p.2))
def mget (ks : List (α × Value)) (k : α) : Option Value := (ks.find? (fun p => decide (k = p.1))).map (·.2)
def mput : List (α × Value) → α → Value → List (α × Value)
  | [], k, v => [(k, v)]
  | p :: r, k, v => if k = p.1 then (k, v) :: r else p :: mput r k v
theorem findNow_ents {k : α} : ∀ (es : List MapEntry) (ks : List (α × Value)) (i : Nat), Ents kk es ks → ∃ r : Option (Nat × Value), Instr.findNow kk.desc (kk.cell k) es i = some r ∧ r.map (·.2) = mget ks k ∧
    (∀ j v, r = some (j, v) → i ≤ j ∧ ∃ e, es[j - i]? = some e ∧ e.key = kk.cell k ∧ ∀ v', Ents kk (es.modify (j - i) fun e => { e with key := kk.cell k, val := v' }) (mput ks k v')) ∧
    (r = none → ∀ v' b, Ents kk (es ++ [{ key := kk.cell k, val := v', born := b }]) (mput ks k v'))
  | [], [], i, _ => ⟨none, rfl, rfl, fun _ _ h => (by cases h), fun _ v' b => rfl⟩
  | [], _ :: _, _, h => by simp [Ents] at h
  | _ :: _, [], _, h => by simp [Ents] at h
  | e :: es, p :: ks, i, h => by
    have h' := h
    simp only [Ents, List.map_cons, List.cons.injEq, Prod.mk.injEq] at h
    obtain ⟨⟨hk, hv⟩, hr⟩ := h
    unfold Instr.findNow
    rw [hk, kk.same]
    by_cases hp : k = p.1
    · rw [decide_eq_true hp]
      refine ⟨some (i, e.val), rfl, by simp [mget, hp, hv], fun j v hj => ?_, fun h => by cases h⟩
      cases hj
      refine ⟨Nat.le_refl _, e, by simp, by rw [hk, hp], fun v' => ?_⟩
      rw [Nat.sub_self]
      simp only [mput, if_pos hp]
      simp [Ents, hr]
    · rw [decide_eq_false hp]
      obtain ⟨r, q1, q2, q3, q4⟩ := findNow_ents (k := k) es ks (i + 1) hr
      refine ⟨r, q1, by rw [q2]; simp [mget, hp], fun j v hj => ?_, fun hn v' b => ?_⟩
      · obtain ⟨g1, e', g2, g3, g4⟩ := q3 j v hj
        have hji : j - i = (j - (i + 1)) + 1 := by omega
        refine ⟨by omega, e', by rw [hji]; simpa using g2, g3, fun v' => ?_⟩
        have := g4 v'
        rw [hji]
        simp only [mput, if_neg hp]
        simp only [Ents, List.modify_succ_cons, List.map_cons] at this ⊢
        rw [this, hk, hv]
      · have := q4 hn v' b
        simp only [mput, if_neg hp]
        simp only [Ents, List.cons_append, List.map_cons] at this ⊢
        rw [this, hk, hv]

def lookupN (t : TypeId) (x i : Value) (ok : Bool) : Sem Next := do pure (.value (← Instr.lookup t x i ok))
def mapPutN (t : TypeId) (m k v : Value) : Sem Next := do Instr.mapUpdate t m k v; pure .skip
variable {kk}
variable {P : Program} {w : World}
theorem getObj_map {r : Nat} {es : Array MapEntry} {cl : Nat} (h : w.heap[r]? = some (.map es cl)) : (getObj r).run P w = .ok (.map es cl) w := by
  show Sem.run P (Sem.getObj r Sem.pure) w = _
  simp only [Sem.run, h]
theorem setObj_map {r : Nat} {es : Array MapEntry} {cl : Nat} {o : Obj} (h : w.heap[r]? = some (.map es cl)) : (setObj r o).run P w = .ok () { w with heap := w.heap.setIfInBounds r o } := by
  show Sem.run P (Sem.setObj r o (Sem.pure ())) w = _
  simp only [Sem.run, h]
theorem underlying_run {t : TypeId} {d : TypeDesc} (h : P.underlying t = some d) : (underlying t).run P w = .ok d w := by
  simp [underlying, program, Sem.run, h, Sem.run_bind, pure, Result.andThen]
theorem findKey_run {kT : TypeId} {k : α} {es : List MapEntry} {r : Option (Nat × Value)} (hk : P.underlying kT = some kk.desc) (h : Instr.findNow kk.desc (kk.cell k) es 0 = some r) : (Instr.findKey kT (kk.cell k) es).run P w = .ok r w := by
  unfold Instr.findKey
  rw [run_bind_ok (underlying_run hk)]
  rw [h]; rfl
theorem lookup_run {t kT eT : TypeId} {z : Value} {r : Nat} {es : Array MapEntry} {cl : Nat} {ks : List (α × Value)} {k : α} (hu : P.underlying t = some (.map kT eT)) (hk : P.underlying kT = some kk.desc) (hz : ∀ w, (zeroValue eT).run P w = .ok z w)
    (hm : w.heap[r]? = some (.map es cl)) (he : Ents kk es.toList ks) (ok : Bool) :
    (lookupN t (.map (some r)) (kk.cell k) ok).run P w = .ok (.value (if ok then .tuple #[(mget ks k).getD z, .bool (mget ks k).isSome] else (mget ks k).getD z)) w := by
  obtain ⟨q, h1, h2, -, -⟩ := findNow_ents (k := k) kk es.toList ks 0 he
  unfold lookupN Instr.lookup
  simp only [bind_assoc]
  rw [run_bind_ok (underlying_run hu)]
  simp only [bind_assoc]
  rw [run_bind_ok (getObj_map hm)]
  simp only [pure_bind, bind_assoc]
  rw [run_bind_ok (kk.plain P kT es.isEmpty w k hk), run_bind_ok (findKey_run hk h1)]
  cases q with
  | none =>
    simp only [bind_assoc]
    rw [run_bind_ok (hz w)]
    rw [← h2]
    cases ok <;> rfl
  | some q =>
    obtain ⟨j, v⟩ := q
    rw [← h2]
    cases ok <;> rfl
theorem mapPut_run {t kT eT : TypeId} {r : Nat} {es : Array MapEntry} {cl : Nat} {ks : List (α × Value)} {k : α} {v : Value} (hu : P.underlying t = some (.map kT eT)) (hk : P.underlying kT = some kk.desc)
    (hm : w.heap[r]? = some (.map es cl)) (he : Ents kk es.toList ks) :
    ∃ (es' : Array MapEntry) (cl' : Nat), (mapPutN t (.map (some r)) (kk.cell k) v).run P w = .ok .skip { w with heap := setBlk w.heap r (.map es' cl') } ∧ Ents kk es'.toList (mput ks k v) := by
  obtain ⟨q, h1, h2, h3, h4⟩ := findNow_ents (k := k) kk es.toList ks 0 he
  cases q with
  | none =>
    refine ⟨es.push { key := kk.cell k, val := v, born := cl }, cl + 1, ?_, by rw [Array.toList_push]; exact h4 rfl v cl⟩
    unfold mapPutN Instr.mapUpdate
    simp only [bind_assoc]
    rw [run_bind_ok (underlying_run hu)]
    simp only [bind_assoc]
    rw [run_bind_ok (getObj_map hm)]
    simp only [bind_assoc]
    rw [run_bind_ok (kk.plain P kT false w k hk), run_bind_ok (findKey_run hk h1)]
    simp only []
    rw [run_bind_ok (setObj_map hm)]
    rfl
  | some q =>
    obtain ⟨j, v0⟩ := q
    obtain ⟨-, e, g2, g3, g4⟩ := h3 j v0 rfl
    rw [Nat.sub_zero] at g2 g4
    refine ⟨es.modify j fun e => { e with key := kk.cell k, val := v }, cl, ?_, by rw [Array.toList_modify]; exact g4 v⟩
    have ge : (es[j]?).map (·.key) = some (kk.cell k) := by rw [← Array.getElem?_toList, g2]; simp [g3]
    unfold mapPutN Instr.mapUpdate
    simp only [bind_assoc]
    rw [run_bind_ok (underlying_run hu)]
    simp only [bind_assoc]
    rw [run_bind_ok (getObj_map hm)]
    simp only [bind_assoc]
    rw [run_bind_ok (kk.plain P kT false w k hk), run_bind_ok (findKey_run hk h1)]
    simp only [bind_assoc]
    rw [ge]
    unfold Instr.keyThatStays
    simp only [Option.getD_some, kk.bits, if_true, pure_bind]
    rw [run_bind_ok (setObj_map hm)]
    rfl
end
end Go.Proofs.Ytillpfaabdlaiaa
