/-
  append, copy, make of slices, said of heaps. Proves nothing of any one program.
-/
import Derived.Test.YthlohokmnajpoaaGreatDoorDraw
import Derived.IntWalk
set_option linter.unusedVariables false
set_option linter.unusedSimpArgs false
namespace Go.Proofs.YthlohokmnajpoaaGreatDoor
open Go

def SrcAt (H : Array Obj) (b : Option Addr) (xs : List Value) : Prop :=
  match b with
  | none => xs = []
  | some a => RowAt H a 0 xs
@[simp] theorem SrcAt_none {H : Array Obj} {xs : List Value} : SrcAt H none xs = (xs = []) := rfl
@[simp] theorem SrcAt_some {H : Array Obj} {a : Addr} {xs : List Value} : SrcAt H (some a) xs = RowAt H a 0 xs := rfl

theorem firstCells_run {P : Program} {w : World} {sz n c : Nat} {b : Option Addr} {xs : List Value} (h : SrcAt w.heap b xs) (hl : b ≠ none → xs.length = n * sz) : (Builtin.firstCells sz n (.slice b n c)).run P w = .ok xs.toArray w := by
  cases b with
  | none => simp only [SrcAt_none] at h; subst h; rfl
  | some a =>
    have hl := hl (by simp)
    show Sem.run P (loadCells a (n * sz)) w = _
    rw [← hl]
    unfold loadCells
    rw [loadCells_run (P := P) xs 0 #[] h]
    simp

theorem allOne_append : ∀ (xs ys : List Value), allOne (xs ++ ys) = (allOne xs && allOne ys)
  | [], ys => by simp [allOne]
  | x :: xs, ys => by simp [allOne, allOne_append xs ys, Bool.and_assoc]

def appendN (ats : Array TypeId) (ty : TypeId) (args : Array Value) : Sem Next := do pure (.value (← Builtin.append_ ats ty args))

def appendK (sz T bytes : Nat) (zero : List Value) (base : Option Addr) (n c : Nat) (xb : Option Addr) (m : Nat) (H : Array Obj) (K : Option Addr → Nat → Array Obj → Prop) : Prop :=
  ∃ xs : List Value, SrcAt H xb xs ∧ (xb ≠ none → xs.length = m * sz) ∧ allOne xs = true ∧
    (n + m ≤ c → onPtr base (K none c H) (fun a => CanPuts H (a.add (n * sz)) 0 xs.length ∧ K (some a) c (hputs H (a.add (n * sz)) xs 0))) ∧
    (c < n + m → ∃ ys : List Value, SrcAt H base ys ∧ (base ≠ none → ys.length = n * sz) ∧ Builtin.nextslicecap (n + m) c * bytes ≤ 2 ^ 48 ∧
      ∀ (c' b : Nat) (H' : Array Obj), n + m ≤ c' → b = H.size → H' = H.push (.cells ((ys ++ xs).toArray ++ Builtin.zeroCells zero.toArray (c' - (n + m))) T) → K (some ⟨b, 0, none⟩) c' H')

theorem ss_append {P : Program} {H : Array Obj} {ty sT xT T sz bytes : Nat} {zero : Value} {info : TypeInfo} {K : Option Addr → Nat → Array Obj → Prop} {base xb : Option Addr} {n c m xc : Nat} {d : TypeDesc}
    (hu : P.underlying sT = some (.slice T)) (hux : P.underlying xT = some d) (hd : (match d with | .int _ => true | _ => false) = false)
    (hi : P.info? T = some info) (hsz : info.size = sz) (hb : info.bytes = bytes) (hb0 : bytes ≠ 0) (hz : info.zero = some zero)
    (h : appendK sz T bytes zero.cells.toList base n c xb m H K) :
    SS P (appendN #[sT, xT] ty #[.slice base n c, .slice xb m xc]) H (fun v H' => ∃ b' c', v = .slice b' (n + m) c' ∧ K b' c' H') := fun w hw => by
  obtain ⟨xs, hx, hxl, hone, hfit, hgrow⟩ := h
  have hint : ∀ k, d ≠ .int k := fun k hk => by subst hk; simp at hd
  have hzb : (Sem.run P (do let r ← underlying xT; pure (match r with | .int _ => true | _ => false) : Sem Bool) w) = .ok false w := by
    rw [run_bind_ok (x := d) (w' := w) (by simp [underlying, program, Sem.run, hux, Sem.run_bind, pure, Result.andThen])]
    cases d <;> first | rfl | exact absurd rfl (hint _)
  have hsize : ∀ w, (sizeOf T).run P w = .ok sz w := fun w => by simp [sizeOf, typeInfo, program, Sem.run, Sem.run_bind, hi, hsz, pure, Result.andThen]
  have hti : ∀ w, (typeInfo T).run P w = .ok info w := fun w => by simp [typeInfo, program, Sem.run, Sem.run_bind, hi, pure, Result.andThen]
  have hzv : ∀ w, (zeroValue T).run P w = .ok zero w := fun w => by simp [zeroValue, typeInfo, program, Sem.run, Sem.run_bind, hi, hz, pure, Result.andThen]
  have hus : ∀ w, (underlying sT).run P w = .ok (.slice T) w := fun w => by simp [underlying, program, Sem.run, hu, Sem.run_bind, pure, Result.andThen]
  have hux' : ∀ w, (underlying xT).run P w = .ok d w := fun w => by simp [underlying, program, Sem.run, hux, Sem.run_bind, pure, Result.andThen]
  have hfc : (Builtin.firstCells sz m (.slice xb m xc)).run P w = .ok xs.toArray w := firstCells_run (by rw [hw]; exact hx) hxl
  by_cases hle : n + m ≤ c
  · have hk := hfit hle
    cases base with
    | none =>
      refine ⟨_, w, ?_, Same.refl w, none, c, rfl, by rw [hw]; exact hk⟩
      unfold appendN
      rw [run_bind_ok (x := Value.slice none (n + m) c) (w' := w)]
      · rfl
      · unfold Builtin.append_
        simp only [List.getElem?_toArray, List.getElem?_cons_zero, List.getElem?_cons_succ]
        rw [run_bind_ok (hus w)]
        simp only []
        rw [run_bind_ok (hsize w)]
        simp only [pure_bind]
        rw [run_bind_ok (hux' w)]
        cases d <;> first | exact absurd rfl (hint _) | (simp only [Bool.false_eq_true, if_false, Builtin.lenOf, pure_bind, Bool.not_false, if_true, hle]; rw [run_bind_ok hfc]; rfl)
    | some a =>
      simp only [onPtr_some] at hk
      obtain ⟨w', hst, hs, hh⟩ := storeCells_run (P := P) (a := a.add (n * sz)) xs 0 w hone (by rw [hw]; exact hk.1)
      refine ⟨_, w', ?_, hs, some a, c, rfl, by rw [hh, hw]; exact hk.2⟩
      unfold appendN
      rw [run_bind_ok (x := Value.slice (some a) (n + m) c) (w' := w')]
      · rfl
      · unfold Builtin.append_
        simp only [List.getElem?_toArray, List.getElem?_cons_zero, List.getElem?_cons_succ]
        rw [run_bind_ok (hus w)]
        simp only []
        rw [run_bind_ok (hsize w)]
        simp only [pure_bind]
        rw [run_bind_ok (hux' w)]
        cases d <;> first | exact absurd rfl (hint _) | (simp only [Bool.false_eq_true, if_false, Builtin.lenOf, pure_bind, Bool.not_false, if_true, hle]; rw [run_bind_ok hfc]; simp only []; rw [run_bind_ok hst]; rfl)
  · have hlt : c < n + m := by omega
    obtain ⟨ys, hy, hyl, hcap, hk⟩ := hgrow hlt
    have hfy : ∀ w1 : World, w1.heap = w.heap → (Builtin.firstCells sz n (.slice base n c)).run P w1 = .ok ys.toArray w1 := fun w1 h1 => firstCells_run (by rw [h1, hw]; exact hy) hyl
    have hfx : ∀ w1 : World, w1.heap = w.heap → (Builtin.firstCells sz m (.slice xb m xc)).run P w1 = .ok xs.toArray w1 := fun w1 h1 => firstCells_run (by rw [h1, hw]; exact hx) hxl
    let q : Question := .appendCap (n + m) c T
    let nc : Nat := q.cut (w.tape w.drawn q)
    have hnc : n + m ≤ nc := Nat.le_add_right _ _
    let w1 : World := { w with drawn := w.drawn + 1 }
    let o : Obj := .cells ((ys ++ xs).toArray ++ Builtin.zeroCells zero.cells (nc - (n + m))) T
    let w2 : World := { w1 with heap := w1.heap.push o }
    refine ⟨.slice (some ⟨w.heap.size, 0, none⟩) (n + m) nc, w2, ?_, ⟨rfl, rfl, rfl, Nat.le_succ _⟩, _, nc, rfl, ?_⟩
    · have hch : (choose q : Sem Nat).run P w = .ok nc w1 := by
        show Sem.run P (Sem.choose q Sem.pure) w = _
        simp only [Sem.run, q, Question.forced, Bool.false_eq_true, if_false]
        rfl
      have hroom : ∀ k, (askRoom k : Sem Unit).run P w1 = .ok () w1 := fun k => by
        unfold askRoom
        split <;> rfl
      unfold appendN
      rw [run_bind_ok (x := Value.slice (some ⟨w.heap.size, 0, none⟩) (n + m) nc) (w' := w2)]
      · rfl
      · unfold Builtin.append_
        simp only [List.getElem?_toArray, List.getElem?_cons_zero, List.getElem?_cons_succ]
        rw [run_bind_ok (hus w)]
        simp only []
        rw [run_bind_ok (hsize w)]
        simp only [pure_bind]
        rw [run_bind_ok (hux' w)]
        have hcap' : ¬ (Builtin.nextslicecap (n + m) c * bytes > 2 ^ 48) := by omega
        cases d <;> first | exact absurd rfl (hint _) | (
          simp only [Bool.false_eq_true, if_false, Builtin.lenOf, pure_bind, Bool.not_false, if_true, hle, false_or]
          rw [run_bind_ok (hti w)]
          simp only [hb, hb0, and_false, if_false]
          rw [run_bind_ok (hti w)]
          simp only [hb, hcap', if_false]
          rw [run_bind_ok hch]
          rw [run_bind_ok (hti w1)]
          rw [run_bind_ok (hroom _)]
          rw [run_bind_ok (hfy w1 rfl)]
          rw [run_bind_ok (hfx w1 rfl)]
          rw [run_bind_ok (hzv w1), show ys.toArray ++ xs.toArray = (ys ++ xs).toArray by simp]
          rfl)
    · show K (some ⟨w.heap.size, 0, none⟩) nc w2.heap
      exact hk nc w.heap.size w2.heap hnc (by rw [hw]) (by show w.heap.push o = _; rw [hw])

def appendZK (sz T bytes : Nat) (zero : List Value) (base : Option Addr) (n c : Nat) (l : Int) (H : Array Obj) (K : Option Addr → Nat → Array Obj → Prop) : Prop :=
  (0 ≤ l ∧ l ≤ 9223372036854775807) ∧ l * bytes ≤ 2 ^ 48 ∧ ((n + l.toNat : Nat) : Int) ≤ 9223372036854775807 ∧ allOne (Builtin.zeroCells zero.toArray l.toNat).toList = true ∧
    (n + l.toNat ≤ c → onPtr base (K none c H) (fun a => CanPuts H (a.add (n * sz)) 0 (Builtin.zeroCells zero.toArray l.toNat).toList.length ∧ K (some a) c (hputs H (a.add (n * sz)) (Builtin.zeroCells zero.toArray l.toNat).toList 0))) ∧
    (c < n + l.toNat → ∃ ys : List Value, SrcAt H base ys ∧ (base ≠ none → ys.length = n * sz) ∧ Builtin.nextslicecap (n + l.toNat) c * bytes ≤ 2 ^ 48 ∧
      ∀ (c' b : Nat) (H' : Array Obj), n + l.toNat ≤ c' → b = H.size → H' = H.push (.cells ((ys ++ (Builtin.zeroCells zero.toArray l.toNat).toList).toArray ++ Builtin.zeroCells zero.toArray (c' - (n + l.toNat))) T) → K (some ⟨b, 0, none⟩) c' H')
theorem ss_appendZ {P : Program} {H : Array Obj} {ty sT xT T sz bytes : Nat} {zero : Value} {info : TypeInfo} {K : Option Addr → Nat → Array Obj → Prop} {base : Option Addr} {n c : Nat} {l : Int} {k : IntKind}
    (hu : P.underlying sT = some (.slice T)) (hux : P.underlying xT = some (.int k))
    (hi : P.info? T = some info) (hsz : info.size = sz) (hb : info.bytes = bytes) (hb0 : bytes ≠ 0) (hz : info.zero = some zero) (hzs : zero.cells.size = sz)
    (h : appendZK sz T bytes zero.cells.toList base n c l H K) :
    SS P (appendN #[sT, xT] ty #[.slice base n c, .int .i64 l]) H (fun v H' => ∃ b' c', v = .slice b' (n + l.toNat) c' ∧ K b' c' H') := fun w hw => by
  obtain ⟨hl, hbytes, hmax, hone, hfit, hgrow⟩ := h
  simp only [Array.toArray_toList] at hone hfit hgrow
  have hsize : ∀ w, (sizeOf T).run P w = .ok sz w := fun w => by simp [sizeOf, typeInfo, program, Sem.run, Sem.run_bind, hi, hsz, pure, Result.andThen]
  have hti : ∀ w, (typeInfo T).run P w = .ok info w := fun w => by simp [typeInfo, program, Sem.run, Sem.run_bind, hi, pure, Result.andThen]
  have hzv : ∀ w, (zeroValue T).run P w = .ok zero w := fun w => by simp [zeroValue, typeInfo, program, Sem.run, Sem.run_bind, hi, hz, pure, Result.andThen]
  have hus : ∀ w, (underlying sT).run P w = .ok (.slice T) w := fun w => by simp [underlying, program, Sem.run, hu, Sem.run_bind, pure, Result.andThen]
  have hux' : ∀ w, (underlying xT).run P w = .ok (.int k) w := fun w => by simp [underlying, program, Sem.run, hux, Sem.run_bind, pure, Result.andThen]
  have hwl : IntKind.i64.wrap l = l := Go.IntWalk.i64_in l ⟨by omega, by omega⟩
  have hnl : ¬ l < 0 := by omega
  have hnb : ¬ l * (bytes : Int) > 2 ^ 48 := by omega
  have happ : ∀ w : World, (if l.toNat * sz = 0 then (pure #[] : Sem (Array Value)) else do pure (Builtin.zeroCells (← zeroValue T).cells l.toNat)).run P w = .ok (Builtin.zeroCells zero.cells l.toNat) w := fun w => by
    by_cases h0 : l.toNat * sz = 0
    · rw [if_pos h0]
      have : Builtin.zeroCells zero.cells l.toNat = #[] := by unfold Builtin.zeroCells; rw [hzs, h0]; simp
      rw [this]; rfl
    · rw [if_neg h0, run_bind_ok (hzv w)]; rfl
  by_cases hle : n + l.toNat ≤ c
  · have hk := hfit hle
    cases base with
    | none =>
      refine ⟨_, w, ?_, Same.refl w, none, c, rfl, by rw [hw]; exact hk⟩
      unfold appendN
      rw [run_bind_ok (x := Value.slice none (n + l.toNat) c) (w' := w)]
      · rfl
      · unfold Builtin.append_
        simp only [List.getElem?_toArray, List.getElem?_cons_zero, List.getElem?_cons_succ]
        rw [run_bind_ok (hus w)]
        simp only []
        rw [run_bind_ok (hsize w)]
        simp only [bind_assoc, pure_bind]
        rw [run_bind_ok (hux' w)]
        simp only [if_true, asInt, asIntOf, pure_bind, hwl, hnl, if_false, bind_assoc]
        rw [run_bind_ok (hti w)]
        simp only [hb, hnb, if_false, pure_bind, Bool.not_true, Bool.false_eq_true, hle, if_true]
        rw [run_bind_ok (happ w)]; rfl
    | some a =>
      simp only [onPtr_some] at hk
      obtain ⟨w', hst, hs, hh⟩ := storeCells_run (P := P) (a := a.add (n * sz)) (Builtin.zeroCells zero.cells l.toNat).toList 0 w hone (by rw [hw]; exact hk.1)
      refine ⟨_, w', ?_, hs, some a, c, rfl, by rw [hh, hw]; exact hk.2⟩
      unfold appendN
      rw [run_bind_ok (x := Value.slice (some a) (n + l.toNat) c) (w' := w')]
      · rfl
      · unfold Builtin.append_
        simp only [List.getElem?_toArray, List.getElem?_cons_zero, List.getElem?_cons_succ]
        rw [run_bind_ok (hus w)]
        simp only []
        rw [run_bind_ok (hsize w)]
        simp only [bind_assoc, pure_bind]
        rw [run_bind_ok (hux' w)]
        simp only [if_true, asInt, asIntOf, pure_bind, hwl, hnl, if_false, bind_assoc]
        rw [run_bind_ok (hti w)]
        simp only [hb, hnb, if_false, pure_bind, Bool.not_true, Bool.false_eq_true, hle, if_true]
        rw [run_bind_ok (happ w)]
        rw [run_bind_ok hst]; rfl
  · have hlt : c < n + l.toNat := by omega
    obtain ⟨ys, hy, hyl, hcap, hk⟩ := hgrow hlt
    have hfy : ∀ w1 : World, w1.heap = w.heap → (Builtin.firstCells sz n (.slice base n c)).run P w1 = .ok ys.toArray w1 := fun w1 h1 => firstCells_run (by rw [h1, hw]; exact hy) hyl
    let q : Question := .appendCap (n + l.toNat) c T
    let nc : Nat := q.cut (w.tape w.drawn q)
    have hnc : n + l.toNat ≤ nc := Nat.le_add_right _ _
    let w1 : World := { w with drawn := w.drawn + 1 }
    let o : Obj := .cells ((ys ++ (Builtin.zeroCells zero.cells l.toNat).toList).toArray ++ Builtin.zeroCells zero.cells (nc - (n + l.toNat))) T
    let w2 : World := { w1 with heap := w1.heap.push o }
    refine ⟨.slice (some ⟨w.heap.size, 0, none⟩) (n + l.toNat) nc, w2, ?_, ⟨rfl, rfl, rfl, Nat.le_succ _⟩, _, nc, rfl, ?_⟩
    · have hch : (choose q : Sem Nat).run P w = .ok nc w1 := by
        show Sem.run P (Sem.choose q Sem.pure) w = _
        simp only [Sem.run, q, Question.forced, Bool.false_eq_true, if_false]
        rfl
      have hroom : ∀ k, (askRoom k : Sem Unit).run P w1 = .ok () w1 := fun k => by
        unfold askRoom
        split <;> rfl
      unfold appendN
      rw [run_bind_ok (x := Value.slice (some ⟨w.heap.size, 0, none⟩) (n + l.toNat) nc) (w' := w2)]
      · rfl
      · unfold Builtin.append_
        simp only [List.getElem?_toArray, List.getElem?_cons_zero, List.getElem?_cons_succ]
        rw [run_bind_ok (hus w)]
        simp only []
        rw [run_bind_ok (hsize w)]
        simp only [bind_assoc, pure_bind]
        rw [run_bind_ok (hux' w)]
        simp only [if_true, asInt, asIntOf, pure_bind, hwl, hnl, if_false, bind_assoc]
        rw [run_bind_ok (hti w)]
        have hcap' : ¬ (Builtin.nextslicecap (n + l.toNat) c * bytes > 2 ^ 48) := by omega
        have hmax' : ¬ (((n + l.toNat : Nat) : Int) > IntKind.i64.max) := by
          have : IntKind.i64.max = 9223372036854775807 := by decide
          omega
        simp only [hb, hnb, if_false, pure_bind, Bool.not_true, Bool.false_eq_true, hle, true_or, and_true, hmax']
        rw [run_bind_ok (hti w)]
        rw [run_bind_ok (hti w)]
        simp only [hb, hcap', if_false, pure_bind]
        rw [run_bind_ok hch]
        rw [run_bind_ok (hti w1)]
        rw [run_bind_ok (hroom _)]
        rw [run_bind_ok (hfy w1 rfl)]
        rw [run_bind_ok (happ w1)]
        rw [run_bind_ok (hzv w1), show ys.toArray ++ Builtin.zeroCells zero.cells l.toNat = (ys ++ (Builtin.zeroCells zero.cells l.toNat).toList).toArray by simp]
        rfl
    · show K (some ⟨w.heap.size, 0, none⟩) nc w2.heap
      exact hk nc w.heap.size w2.heap hnc (by rw [hw]) (by show w.heap.push o = _; rw [hw])


def copyN (ats : Array TypeId) (ty : TypeId) (args : Array Value) : Sem Next := do pure (.value (← Builtin.copy_ ats ty args))
def copyK (sz : Nat) (base : Option Addr) (n : Nat) (xb : Option Addr) (m : Nat) (H : Array Obj) (K : Nat → Array Obj → Prop) : Prop :=
  ∃ xs : List Value, SrcAt H xb xs ∧ (xb ≠ none → xs.length = Nat.min m n * sz) ∧ allOne xs = true ∧
    onPtr base (K (Nat.min m n) H) (fun a => CanPuts H a 0 xs.length ∧ K (Nat.min m n) (hputs H a xs 0))
theorem ss_copy {P : Program} {H : Array Obj} {ty dT sT T sz : Nat} {K : Nat → Array Obj → Prop} {base xb : Option Addr} {n c m xc : Nat}
    (hu : P.underlying dT = some (.slice T)) (hsize : ∀ w, (sizeOf T).run P w = .ok sz w) (h : copyK sz base n xb m H K) :
    SS P (copyN #[dT, sT] ty #[.slice base n c, .slice xb m xc]) H (fun v H' => ∃ k : Nat, v = .int .i64 k ∧ K k H') := fun w hw => by
  obtain ⟨xs, hx, hxl, hone, hk⟩ := h
  have hus : ∀ w, (underlying dT).run P w = .ok (.slice T) w := fun w => by simp [underlying, program, Sem.run, hu, Sem.run_bind, pure, Result.andThen]
  have hfc : (Builtin.firstCells sz (Nat.min m n) (.slice xb m xc)).run P w = .ok xs.toArray w := by
    cases xb with
    | none => simp only [SrcAt_none] at hx; subst hx; rfl
    | some a =>
      have hl := hxl (by simp)
      show Sem.run P (loadCells a (Nat.min m n * sz)) w = _
      rw [← hl]
      unfold loadCells
      rw [loadCells_run (P := P) xs 0 #[] (by rw [hw]; exact hx)]
      simp
  cases base with
  | none =>
    refine ⟨_, w, ?_, Same.refl w, Nat.min m n, rfl, by rw [hw]; exact hk⟩
    unfold copyN
    rw [run_bind_ok (x := Value.int .i64 (Nat.min m n : Nat)) (w' := w)]
    · rfl
    · unfold Builtin.copy_
      simp only [List.getElem?_toArray, List.getElem?_cons_zero, List.getElem?_cons_succ]
      rw [run_bind_ok (hus w)]
      simp only [Builtin.lenOf, pure_bind]
      rw [run_bind_ok (hsize w), run_bind_ok hfc]
      rfl
  | some a =>
    simp only [onPtr_some] at hk
    obtain ⟨w', hst, hs, hh⟩ := storeCells_run (P := P) (a := a) xs 0 w hone (by rw [hw]; exact hk.1)
    refine ⟨_, w', ?_, hs, Nat.min m n, rfl, by rw [hh, hw]; exact hk.2⟩
    unfold copyN
    rw [run_bind_ok (x := Value.int .i64 (Nat.min m n : Nat)) (w' := w')]
    · rfl
    · unfold Builtin.copy_
      simp only [List.getElem?_toArray, List.getElem?_cons_zero, List.getElem?_cons_succ]
      rw [run_bind_ok (hus w)]
      simp only [Builtin.lenOf, pure_bind]
      rw [run_bind_ok (hsize w), run_bind_ok hfc]
      simp only []
      rw [run_bind_ok hst]
      rfl

def makeSliceN (t : TypeId) (l c : Value) : Sem Next := do pure (.value (← Instr.makeSlice t l c))
theorem ss_make {P : Program} {H : Array Obj} {t T : TypeId} {info : TypeInfo} {zero : Value} {l c : Int} (hu : P.underlying t = some (.slice T)) (hi : P.info? T = some info) (hz : info.zero = some zero)
    (h0 : 0 ≤ l) (h1 : l ≤ c) (h2 : info.bytes * c ≤ 2 ^ 48) (h3 : c ≤ 9223372036854775807) (hs : info.size = zero.cells.size) (_hp : info.size ≠ 0) :
    SS P (makeSliceN t (.int .i64 l) (.int .i64 c)) H (fun v H' => v = .slice (some ⟨H.size, 0, none⟩) l.toNat c.toNat ∧ H' = H.push (.cells (Builtin.zeroCells zero.cells c.toNat) T)) := fun w hw => by
  have hti : ∀ w, (typeInfo T).run P w = .ok info w := fun w => by simp [typeInfo, program, Sem.run, Sem.run_bind, hi, pure, Result.andThen]
  have hzv : ∀ w, (zeroValue T).run P w = .ok zero w := fun w => by simp [zeroValue, typeInfo, program, Sem.run, Sem.run_bind, hi, hz, pure, Result.andThen]
  have hus : ∀ w, (underlying t).run P w = .ok (.slice T) w := fun w => by simp [underlying, program, Sem.run, hu, Sem.run_bind, pure, Result.andThen]
  have hsize : ∀ w, (sizeOf T).run P w = .ok info.size w := fun w => by simp [sizeOf, typeInfo, program, Sem.run, Sem.run_bind, hi, pure, Result.andThen]
  have hroom : ∀ k, (askRoom k : Sem Unit).run P w = .ok () w := fun k => by
    unfold askRoom
    split <;> rfl
  have wl : IntKind.wrap .i64 l = l := Go.IntWalk.i64_in l (by omega)
  have wc : IntKind.wrap .i64 c = c := Go.IntWalk.i64_in c (by omega)
  refine ⟨_, { w with heap := w.heap.push (.cells (Builtin.zeroCells zero.cells c.toNat) T) }, ?_, ⟨rfl, rfl, rfl, Nat.le_refl _⟩, rfl, by rw [hw]⟩
  unfold makeSliceN
  rw [run_bind_ok (x := Value.slice (some ⟨H.size, 0, none⟩) l.toNat c.toNat) (w' := { w with heap := w.heap.push (.cells (Builtin.zeroCells zero.cells c.toNat) T) })]
  · rfl
  · unfold Instr.makeSlice
    rw [run_bind_ok (hus w)]
    simp only [asInt, asIntOf, pure_bind]
    rw [run_bind_ok (hti w)]
    simp only [wl, wc]
    have e1 : ¬ (c < 0) := by omega
    have e2 : ¬ ((info.bytes : Int) * c > 2 ^ 48) := by omega
    have e3 : ¬ (l < 0) := by omega
    have e4 : ¬ (l > c) := by omega
    simp only [e1, e2, e3, e4, decide_false, Bool.or_false, Bool.false_or, Bool.false_eq_true, if_false]
    rw [run_bind_ok (hroom _), run_bind_ok (hsize w)]
    by_cases hc0 : c.toNat * info.size = 0
    · have e0 : Builtin.zeroCells zero.cells c.toNat = #[] := by unfold Builtin.zeroCells; rw [← hs, hc0]; simp
      simp only [hc0, if_true]
      rw [e0, ← hw]
      have e5 : ∀ f : Nat → Value, Array.map f (Array.range 0) = #[] := fun f => by simp
      rw [e5]
      rfl
    · simp only [hc0, if_false]
      rw [run_bind_ok (hzv w), ← hw]
      unfold Builtin.zeroCells
      rw [← hs]
      rfl
end Go.Proofs.YthlohokmnajpoaaGreatDoor
