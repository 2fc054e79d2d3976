/-
  A calculus of sparse frames over Code.wpIn (in a function, or in a round of a range over a function): environments (slot, value), judgements At / RegN / RegQ, laws for each kind of operation. Proves nothing of any one program.
-/
import Derived.Calls
import Derived.Orders
import Derived.OrdersIn
import Derived.TacticsIn
import Derived.RangeFuncRecord
import Derived.Sort.LoopGhostIn
import Derived.Deep.Quiet
import Derived.Deep.LoopGhost
import Derived.KernelRfl
set_option linter.unusedVariables false
set_option linter.unusedSimpArgs false
namespace Go.Proofs.YthlohokmnajpoaaGreatDoor
open Go
variable {ds : List Deferred} {ro : Option Nat}

def fen (ro : Option Nat) : Fence := { fn := fun _ => True, depth := none, alive := false, round := ro }
abbrev _root_.Go.Code.wpR (c : Code) (ro : Option Nat) (P : Program) (Q : Exit → Act → World → Prop) : Act → World → Prop := c.wpIn (fen ro) 0 P Q
abbrev Env := List (Nat × Value)
def Env.get : Env → Nat → Option Value
  | [], _ => none
  | (k, v) :: e, t => bif Nat.beq k t then some v else Env.get e t

def evalS (e : Env) : Operand → Option Value
  | .tmp t => e.get t
  | .const v => some v
  | .global g => some (.pointer (some ⟨g, 0, none⟩))
  | .func f => some (.func (.func f) #[] #[])

def rho (e : Env) (x : Operand) : Value := (evalS e x).getD undef

def allIn (e : Env) : List Operand → Bool
  | [] => true
  | x :: l => (evalS e x).isSome && allIn e l

def okOps (e : Env) (o : Oper) : Bool := (match o.op with | .select .. => false | .defer _ => false | _ => true) && allIn e o.op.operands.toList

def wantS (ops : Array Oper) (e : Env) (o : Oper) : Option Bool :=
  match o.guard with
  | none => some true
  | some (j, b) =>
    match (ops[j]?).bind (·.dst) with
    | none => none
    | some t => match e.get t with
      | some (.bool c) => some (c == b)
      | some (.tuple _) => some false
      | _ => none

def putS (n : Nat) (e : Env) (d : Option Nat) (v : Value) : Option Env :=
  match d with
  | none => some e
  | some d => bif Nat.blt d n then some ((d, v) :: e) else none

structure Agree (n : Nat) (ds : List Deferred) (e : Env) (a : Act) : Prop where
  size : a.tmps.size = n
  defers : a.defers = ds
  vals : ∀ t v, e.get t = some v → a.tmps[t]? = some v

structure Same (w w' : World) : Prop where
  os : w'.os = w.os
  tape : w'.tape = w.tape
  output : w'.output = w.output
  drawn : w.drawn ≤ w'.drawn
theorem Same.refl (w : World) : Same w w := ⟨rfl, rfl, rfl, Nat.le_refl _⟩
theorem Same.trans {a b c : World} (h : Same a b) (k : Same b c) : Same a c := ⟨k.os.trans h.os, k.tape.trans h.tape, k.output.trans h.output, Nat.le_trans h.drawn k.drawn⟩

theorem Env.get_cons (k : Nat) (v : Value) (e : Env) (t : Nat) : Env.get ((k, v) :: e) t = if k = t then some v else e.get t := by
  simp only [Env.get]
  by_cases h : k = t
  · subst h; simp
  · have : Nat.beq k t = false := by rw [← Bool.not_eq_true, Nat.beq_eq]; exact h
    simp [this, h]

theorem Agree.eval {n : Nat} {e : Env} {a : Act} (h : Agree n ds e a) {x : Operand} {v : Value} (hx : evalS e x = some v) : a.eval x = v := by
  cases x with
  | tmp t =>
    have := h.vals t v hx
    simp [Act.eval, Array.getD_eq_getD_getElem?, this]
  | const v' => simpa [evalS, Act.eval] using hx
  | global g => simpa [evalS, Act.eval] using hx
  | func f => simpa [evalS, Act.eval] using hx

theorem allIn_mem {e : Env} : ∀ {l : List Operand}, allIn e l = true → ∀ x ∈ l, (evalS e x).isSome = true
  | [], _, x, hx => by cases hx
  | y :: l, h, x, hx => by
    simp only [allIn, Bool.and_eq_true] at h
    cases hx with
    | head => exact h.1
    | tail _ hm => exact allIn_mem h.2 x hm

theorem Agree.exec {n : Nat} {e : Env} {a : Act} (h : Agree n ds e a) {o : Oper} (ho : okOps e o = true) : execOp a.eval o = execOp (rho e) o := by
  simp only [okOps, Bool.and_eq_true] at ho
  refine execOp_congr o (fun cs b hs => by rw [hs] at ho; simp at ho) fun x hx => ?_
  have h1 := allIn_mem ho.2 x (by simpa using hx)
  obtain ⟨v, hv⟩ := Option.isSome_iff_exists.1 h1
  rw [h.eval hv]
  simp [rho, hv]

theorem Agree.sem {n : Nat} {e : Env} {a : Act} (h : Agree n ds e a) {o : Oper} (ho : okOps e o = true) : o.semAt (fen ro).round a.eval = execOp (rho e) o := by
  rw [show (fen ro).round = ro from rfl, Oper.semAt_eq ro _ o (fun c hc => by simp [okOps, hc] at ho), h.exec ho]

theorem Agree.wanted {n : Nat} {e : Env} {a : Act} (h : Agree n ds e a) {ops : Array Oper} {o : Oper} {b : Bool} (hw : wantS ops e o = some b) : Region.wanted o (yielded ops a.tmps) = b := by
  unfold wantS at hw
  unfold Region.wanted
  cases hg : o.guard with
  | none => simp [hg] at hw; simp [hw]
  | some p =>
    obtain ⟨j, c⟩ := p
    simp only [hg] at hw
    unfold yielded
    cases ht : (ops[j]?).bind (·.dst) with
    | none => simp [ht] at hw
    | some t =>
      simp only [ht] at hw
      cases hv : e.get t with
      | none => simp [hv] at hw
      | some v =>
        have := h.vals t v hv
        simp only [hv] at hw
        simp only []
        rw [ht, Option.bind_some, this]
        cases v <;> simp at hw <;> simp [← hw]

theorem Agree.put {n : Nat} {e : Env} {a : Act} (h : Agree n ds e a) {d : Option Nat} {v : Value} {e' : Env} (he : putS n e d v = some e') : Agree n ds e' (a.put d v) := by
  cases d with
  | none => simp [putS] at he; subst he; exact h
  | some d =>
    simp only [putS] at he
    by_cases hd : Nat.blt d n = true
    · simp only [hd, cond_true, Option.some.injEq] at he
      subst he
      have hlt : d < n := by simpa [Nat.blt_eq] using hd
      refine ⟨by simp [Act.put, h.size], h.defers, fun t u ht => ?_⟩
      rw [Env.get_cons] at ht
      by_cases hdt : d = t
      · subst hdt
        simp only [if_true, Option.some.injEq] at ht
        subst ht
        have : d < a.tmps.size := by rw [h.size]; exact hlt
        simp [Act.put, this]
      · rw [if_neg hdt] at ht
        have := h.vals t u ht
        simp only [Act.put]
        rw [Array.getElem?_setIfInBounds_ne hdt]
        exact this
    · simp [hd] at he

def Sub (e' e : Env) : Prop := e'.map (fun p => e.get p.1) = e'.map (fun p => some p.2)
theorem Env.get_mem {e : Env} {t : Nat} {v : Value} (h : e.get t = some v) : (t, v) ∈ e := by
  induction e with
  | nil => cases h
  | cons p e ih =>
    obtain ⟨k, u⟩ := p
    rw [Env.get_cons] at h
    by_cases hk : k = t
    · subst hk; simp only [if_true, Option.some.injEq] at h; subst h; exact List.mem_cons_self ..
    · rw [if_neg hk] at h; exact List.mem_cons_of_mem _ (ih h)
theorem Sub.get {e' e : Env} (h : Sub e' e) {t : Nat} {v : Value} (hv : e'.get t = some v) : e.get t = some v := by
  have hm := Env.get_mem hv
  clear hv
  unfold Sub at h
  induction e' with
  | nil => cases hm
  | cons p e' ih =>
    simp only [List.map_cons, List.cons.injEq] at h
    cases hm with
    | head => exact h.1
    | tail _ hm => exact ih h.2 hm
theorem Agree.sub {n : Nat} {e e' : Env} {a : Act} (h : Agree n ds e a) (hs : Sub e' e) : Agree n ds e' a :=
  ⟨h.size, h.defers, fun t v hv => h.vals t v (hs.get hv)⟩

def PutSub (n : Nat) (e : Env) (d : Option Nat) (v : Value) (e' : Env) : Prop := (putS n e d v).map (fun e1 => e'.map (fun p => e1.get p.1)) = some (e'.map (fun p => some p.2))
theorem PutSub.get {n : Nat} {e : Env} {d : Option Nat} {v : Value} {e' : Env} (h : PutSub n e d v e') : ∃ e1, putS n e d v = some e1 ∧ Sub e' e1 := by
  unfold PutSub at h
  cases hp : putS n e d v with
  | none => rw [hp] at h; cases h
  | some e1 => rw [hp] at h; simp only [Option.map_some, Option.some.injEq] at h; exact ⟨e1, rfl, h⟩
theorem Agree.putSub {n : Nat} {e : Env} {a : Act} (h : Agree n ds e a) {d : Option Nat} {v : Value} {e' : Env} (he : PutSub n e d v e') : Agree n ds e' (a.put d v) := by
  obtain ⟨e1, h1, h2⟩ := he.get
  exact (h.put h1).sub h2

def At (n : Nat) (ds : List Deferred) (w0 : World) (e : Env) (H : Array Obj) (K : Act → World → Prop) : Prop :=
  ∀ a w, Agree n ds e a → w.heap = H → Same w0 w → K a w

def HC (P : Program) (f : FuncId) (args : Array Value) (H : Array Obj) (R : Value → Array Obj → Prop) : Prop :=
  ∀ w, w.heap = H → Calls P f args w (fun e w' => ∃ v, e = .returned v ∧ Same w w' ∧ R v w'.heap)

theorem HC.mono {P : Program} {f : FuncId} {args : Array Value} {H : Array Obj} {R R' : Value → Array Obj → Prop} (h : HC P f args H R) (hr : ∀ v H', R v H' → R' v H') : HC P f args H R' :=
  fun w hw => (h w hw).mono fun _ _ ⟨v, he, hs, hR⟩ => ⟨v, he, hs, hr _ _ hR⟩

def SS (P : Program) (S : Sem Next) (H : Array Obj) (R : Value → Array Obj → Prop) : Prop :=
  ∀ w, w.heap = H → ∃ v w', S.run P w = .ok (.value v) w' ∧ Same w w' ∧ R v w'.heap

section rules
variable {P : Program} {n : Nat} {w0 : World} {e e' : Env} {H H' : Array Obj} {Q : Exit → Act → World → Prop} {K : Act → World → Prop} {c x y : Code}

theorem S_sub (e' : Env) (hs : Sub e' e) (h : At n ds w0 e' H K) : At n ds w0 e H K := fun a w ha hw hs0 => h a w (ha.sub hs) hw hs0
theorem S_seq (x y : Code) (hc : c = .seq x y) (h : At n ds w0 e H (x.wpR ro P (Exit.then (y.wpR ro P Q) Q))) : At n ds w0 e H (c.wpR ro P Q) :=
  fun a w ha hw hs => by rw [hc]; exact wpIn_seq (h a w ha hw hs)
theorem S_then (h : At n ds w0 e H K) : At n ds w0 e H (Exit.then K Q .normal) := h
theorem S_skip (hc : c = .skip) (h : At n ds w0 e H (Q .normal)) : At n ds w0 e H (c.wpR ro P Q) :=
  fun a w ha hw hs => by rw [hc]; exact wpIn_skip (h a w ha hw hs)
theorem S_block (id : Nat) (x : Code) (hc : c = .block id x) (h : At n ds w0 e H (x.wpR ro P (Exit.inBlock id Q))) : At n ds w0 e H (c.wpR ro P Q) :=
  fun a w ha hw hs => by rw [hc]; exact wpIn_block (h a w ha hw hs)
theorem S_blockEnd {id : Nat} (h : At n ds w0 e H (Q .normal)) : At n ds w0 e H (Exit.inBlock id Q .normal) := h
theorem S_exit (id : Nat) (hc : c = .exit id) (h : At n ds w0 e H (Q (.exit id))) : At n ds w0 e H (c.wpR ro P Q) :=
  fun a w ha hw hs => by rw [hc]; exact wpIn_exit (h a w ha hw hs)
theorem S_exitThen {id : Nat} (h : At n ds w0 e H (Q (.exit id))) : At n ds w0 e H (Exit.then K Q (.exit id)) := h
theorem S_exitHere {id : Nat} (h : At n ds w0 e H (Q .normal)) : At n ds w0 e H (Exit.inBlock id Q (.exit id)) := fun a w ha hw hs => by
  simp only [Exit.inBlock, if_true]; exact h a w ha hw hs
theorem S_exitPast {id id' : Nat} (hne : Nat.beq id' id = false) (h : At n ds w0 e H (Q (.exit id'))) : At n ds w0 e H (Exit.inBlock id Q (.exit id')) := fun a w ha hw hs => by
  have : id' ≠ id := fun h => by rw [h, Nat.beq_refl] at hne; cases hne
  simp only [Exit.inBlock, this, if_false]; exact h a w ha hw hs
theorem S_ret (hc : c = .ret) (h : At n ds w0 e H (Q .ret)) : At n ds w0 e H (c.wpR ro P Q) :=
  fun a w ha hw hs => by rw [hc]; exact wpIn_ret (h a w ha hw hs)
theorem S_condT (o : Operand) (x y : Code) (hc : c = .cond o x y) (hv : evalS e o = some (.bool true)) (h : At n ds w0 e H (x.wpR ro P Q)) : At n ds w0 e H (c.wpR ro P Q) :=
  fun a w ha hw hs => by rw [hc]; exact wpIn_cond_true (ha.eval hv) (h a w ha hw hs)
theorem S_condF (o : Operand) (x y : Code) (hc : c = .cond o x y) (hv : evalS e o = some (.bool false)) (h : At n ds w0 e H (y.wpR ro P Q)) : At n ds w0 e H (c.wpR ro P Q) :=
  fun a w ha hw hs => by rw [hc]; exact wpIn_cond_false (ha.eval hv) (h a w ha hw hs)

def RegN (ro : Option Nat) (P : Program) (n : Nat) (ds : List Deferred) (w0 : World) (ops : Array Oper) (i : Nat) (e : Env) (H : Array Obj) (Q : Exit → Act → World → Prop) : Prop :=
  ∀ a w, Agree n ds e a → w.heap = H → Same w0 w → wpListIn (fen ro) 0 P ops Q (ops.toList.drop i) a w

theorem S_region (id : Nat) (ops : Array Oper) (hc : c = .region id ops false) (h : RegN ro P n ds w0 ops 0 e H Q) : At n ds w0 e H (c.wpR ro P Q) :=
  fun a w ha hw hs => by rw [hc]; exact wpIn_region_list (by simpa using h a w ha hw hs)

theorem N_end {ops : Array Oper} {i : Nat} (hi : ops.toList.drop i = []) (h : At n ds w0 e H (Q .normal)) : RegN ro P n ds w0 ops i e H Q :=
  fun a w ha hw hs => by rw [hi]; exact wpListIn_nil (h a w ha hw hs)

def stepS (P : Program) (n : Nat) (ops : Array Oper) (o : Oper) (e : Env) (w : World) : Option (Env × World) :=
  match wantS ops e o with
  | some true =>
    bif okOps e o then
      match (execOp (rho e) o).run P w with
      | .ok (.value v) w' => (putS n e o.dst v).map (·, w')
      | .ok .skip w' => (putS n e o.dst undef).map (·, w')
      | _ => none
    else none
  | some false => (putS n e o.dst undef).map (·, w)
  | none => none

def runS (P : Program) (n : Nat) (ops : Array Oper) : List Oper → Env → World → Option (Env × World)
  | [], e, w => some (e, w)
  | o :: l, e, w => match stepS P n ops o e w with
    | some (e', w') => runS P n ops l e' w'
    | none => none

def sel (e' : Env) (r : Option (Env × World)) : Option (List (Option Value) × World) := r.map fun x => (e'.map (fun p => x.1.get p.1), x.2)
def keep (e' : Env) (w : World) : Option (List (Option Value) × World) := some (e'.map (fun p => some p.2), w)

theorem stepS_sound {ops : Array Oper} {o : Oper} {w w' : World} {a : Act} {rest : List Oper} (hst : stepS P n ops o e w = some (e', w')) (ha : Agree n ds e a)
    (h : ∀ a', Agree n ds e' a' → wpListIn (fen ro) 0 P ops Q rest a' w') : wpListIn (fen ro) 0 P ops Q (o :: rest) a w := by
  unfold stepS at hst
  unfold wpListIn
  cases hw : wantS ops e o with
  | none => simp [hw] at hst
  | some b =>
    simp only [hw] at hst
    rw [ha.wanted hw]
    cases b with
    | false =>
      simp only [Option.map_eq_some_iff, Prod.mk.injEq] at hst
      obtain ⟨e1, he1, rfl, rfl⟩ := hst
      rw [if_neg Bool.false_ne_true]
      exact ⟨fun _ _ => trivial, h _ (ha.put he1)⟩
    | true =>
      simp only [if_true]
      by_cases hok : okOps e o = true
      · simp only [hok, cond_true] at hst
        refine ⟨fun _ _ => trivial, ?_⟩
        rw [ha.sem hok]
        generalize (execOp (rho e) o).run P w = r at hst ⊢
        cases r with
        | halt _ _ => simp at hst
        | ok nx w1 =>
          cases nx <;> simp only [reduceCtorEq, Option.map_eq_some_iff, Prod.mk.injEq] at hst
          case value v =>
            obtain ⟨e1, he1, rfl, rfl⟩ := hst
            exact h _ (ha.put he1)
          case skip =>
            obtain ⟨e1, he1, rfl, rfl⟩ := hst
            exact h _ (ha.put he1)
      · simp [hok] at hst

theorem runS_sound {ops : Array Oper} : ∀ (l : List Oper) {rest : List Oper} {e e' : Env} {w w' : World} {a : Act}, runS P n ops l e w = some (e', w') → Agree n ds e a →
    (∀ a', Agree n ds e' a' → wpListIn (fen ro) 0 P ops Q rest a' w') → wpListIn (fen ro) 0 P ops Q (l ++ rest) a w
  | [], rest, e, e', w, w', a, hr, ha, h => by simp [runS] at hr; obtain ⟨rfl, rfl⟩ := hr; exact h _ ha
  | o :: l, rest, e, e', w, w', a, hr, ha, h => by
    simp only [runS] at hr
    cases hs : stepS P n ops o e w with
    | none => simp [hs] at hr
    | some r =>
      obtain ⟨e1, w1⟩ := r
      simp only [hs] at hr
      exact stepS_sound hs ha fun a' ha' => runS_sound l hr ha' h

theorem N_run {ops : Array Oper} {i : Nat} (k : Nat) (e' : Env) (hr : ∀ w, sel e' (runS P n ops ((ops.toList.drop i).take k) e w) = keep e' w)
    (h : RegN ro P n ds w0 ops (i + k) e' H Q) : RegN ro P n ds w0 ops i e H Q := fun a w ha hw hs => by
  have h1 := hr w
  cases hx : runS P n ops ((ops.toList.drop i).take k) e w with
  | none => rw [hx] at h1; simp [sel, keep] at h1
  | some r =>
    obtain ⟨e1, w1⟩ := r
    rw [hx] at h1
    simp only [sel, keep, Option.map_some, Option.some.injEq, Prod.mk.injEq] at h1
    obtain ⟨hsub, rfl⟩ := h1
    have h2 := runS_sound (Q := Q) (rest := ops.toList.drop (i + k)) _ hx ha fun a' ha' => h a' w1 (ha'.sub hsub) hw hs
    rw [show ops.toList.drop (i + k) = (ops.toList.drop i).drop k by rw [List.drop_drop], List.take_append_drop] at h2
    exact h2

def execAt (P : Program) (ops : Array Oper) (i : Nat) (e : Env) (w : World) : Option (Option Tmp × Result Next) :=
  match ops.toList.drop i with
  | [] => none
  | o :: _ =>
    match wantS ops e o with
    | some true => bif okOps e o then some (o.dst, (execOp (rho e) o).run P w) else none
    | _ => none

theorem execAt_spec {ops : Array Oper} {i : Nat} {w : World} {d : Option Tmp} {r : Result Next} (h : execAt P ops i e w = some (d, r)) :
    ∃ o, ops.toList.drop i = o :: ops.toList.drop (i + 1) ∧ wantS ops e o = some true ∧ okOps e o = true ∧ o.dst = d ∧ (execOp (rho e) o).run P w = r := by
  unfold execAt at h
  cases hd : ops.toList.drop i with
  | nil => simp [hd] at h
  | cons o l =>
    simp only [hd] at h
    cases hw : wantS ops e o with
    | none => simp [hw] at h
    | some b =>
      cases b with
      | false => simp [hw] at h
      | true =>
        simp only [hw] at h
        by_cases hok : okOps e o = true
        · simp only [hok, cond_true, Option.some.injEq, Prod.mk.injEq] at h
          refine ⟨o, ?_, hw, hok, h.1, h.2⟩
          have : ops.toList.drop (i + 1) = l := by rw [← List.drop_drop, hd]; rfl
          rw [this]
        · simp [hok] at h

theorem N_op {ops : Array Oper} {i : Nat} (d : Option Tmp) (S : Sem Next) (R : Value → Array Obj → Prop) (hx : ∀ w, execAt P ops i e w = some (d, S.run P w)) (hS : SS P S H R)
    (h : ∀ v H', R v H' → ∃ e', PutSub n e d v e' ∧ RegN ro P n ds w0 ops (i + 1) e' H' Q) : RegN ro P n ds w0 ops i e H Q := fun a w ha hw hs => by
  obtain ⟨o, hd, hwant, hok, hdst, hrun⟩ := execAt_spec (hx w)
  rw [hd]
  unfold wpListIn
  rw [ha.wanted hwant]
  simp only [if_true]
  refine ⟨fun _ _ => trivial, ?_⟩
  rw [ha.sem hok, hrun]
  obtain ⟨v, w', hv, hsame, hR⟩ := hS w hw
  rw [hv]
  obtain ⟨e', he', hk⟩ := h v _ hR
  simp only [Oper.uponIn]
  rw [hdst]
  exact hk _ _ (ha.putSub he') rfl (hs.trans hsame)

theorem N_skipop {ops : Array Oper} {i : Nat} (d : Option Tmp) (S : Sem Next) (R : Array Obj → Prop) (hx : ∀ w, execAt P ops i e w = some (d, S.run P w))
    (hS : ∀ w, w.heap = H → ∃ w', S.run P w = .ok .skip w' ∧ Same w w' ∧ R w'.heap)
    (h : ∀ H', R H' → ∃ e', PutSub n e d undef e' ∧ RegN ro P n ds w0 ops (i + 1) e' H' Q) : RegN ro P n ds w0 ops i e H Q := fun a w ha hw hs => by
  obtain ⟨o, hd, hwant, hok, hdst, hrun⟩ := execAt_spec (hx w)
  rw [hd]
  unfold wpListIn
  rw [ha.wanted hwant]
  simp only [if_true]
  refine ⟨fun _ _ => trivial, ?_⟩
  rw [ha.sem hok, hrun]
  obtain ⟨w', hv, hsame, hR⟩ := hS w hw
  rw [hv]
  obtain ⟨e', he', hk⟩ := h _ hR
  simp only [Oper.uponIn]
  rw [hdst]
  exact hk _ _ (ha.putSub he') rfl (hs.trans hsame)

theorem N_call {ops : Array Oper} {i : Nat} (d : Option Tmp) (f : FuncId) (args : Array Value) (hx : ∀ w, execAt P ops i e w = some (d, .ok (.enter f args) w)) {R : Value → Array Obj → Prop} (hc : HC P f args H R)
    (h : ∀ v H', R v H' → ∃ e', PutSub n e d v e' ∧ RegN ro P n ds w0 ops (i + 1) e' H' Q) : RegN ro P n ds w0 ops i e H Q := fun a w ha hw hs => by
  obtain ⟨o, hd, hwant, hok, hdst, hrun⟩ := execAt_spec (hx w)
  rw [hd]
  unfold wpListIn
  rw [ha.wanted hwant]
  simp only [if_true]
  refine ⟨fun _ _ => trivial, ?_⟩
  rw [ha.sem hok, hrun]
  simp only [Oper.uponIn]
  refine ⟨fun hh => (by cases hh), CallsIn.mono (show CallsIn (fen ro) _ P f args w _ from callsIn_wide.2 (hc w hw)) fun en w' ⟨v, he, hsame, hR⟩ => ?_⟩
  subst he
  obtain ⟨e', he', hk⟩ := h v _ hR
  simp only []
  rw [hdst]
  exact hk _ _ (ha.putSub he') rfl (hs.trans hsame)

def Cls (w0 : World) (H : Array Obj) (w : World) : Prop := w.heap = H ∧ Same w0 w
def RegQ (P : Program) (n : Nat) (ds : List Deferred) (w0 : World) (ops : Array Oper) (i : Nat) (e : Env) (H : Array Obj) (Q : Exit → Act → World → Prop) : Prop :=
  ∀ a, Agree n ds e a → wpQuiet P ops (Cls w0 H) (fun a' => ∀ w', Cls w0 H w' → Q .normal a' w') (ops.toList.drop i) a

theorem S_regionQ (id : Nat) (ops : Array Oper) (hc : c = .region id ops true) (hm : P.follows .mixedOrders = true) (hB : Region.lexB .any ops = true) (h : RegQ P n ds w0 ops 0 e H Q) : At n ds w0 e H (c.wpR none P Q) :=
  fun a w ha hw hs => by
    rw [hc]
    exact wpIn_wide.2 (wp_region_quiet (C := Cls w0 H) hm hB ⟨hw, ⟨hs.os, hs.tape, hs.output, Nat.le_succ_of_le hs.drawn⟩⟩ (by simpa using h a ha))

theorem Q_end {ops : Array Oper} {i : Nat} (hi : ops.toList.drop i = []) (h : At n ds w0 e H (Q .normal)) : RegQ P n ds w0 ops i e H Q :=
  fun a ha => by rw [hi]; exact wpQuiet_nil fun w' hw' => h a w' ha hw'.1 hw'.2

def stepV (P : Program) (ops : Array Oper) (o : Oper) (e : Env) (w : World) : Option (Value × World) :=
  match wantS ops e o with
  | some true =>
    bif okOps e o then
      match (execOp (rho e) o).run P w with
      | .ok (.value v) w' => some (v, w')
      | .ok .skip w' => some (undef, w')
      | _ => none
    else none
  | some false => some (undef, w)
  | none => none

theorem Q_one {ops : Array Oper} {i : Nat} (v : Value) (e' : Env) (d : Option Tmp) (hd : (ops.toList.drop i).head?.map (·.dst) = some d)
    (hv : ∀ w, ((ops.toList.drop i).head?.bind fun o => stepV P ops o e w) = some (v, w)) (he : PutSub n e d v e')
    (h : RegQ P n ds w0 ops (i + 1) e' H Q) : RegQ P n ds w0 ops i e H Q := fun a ha => by
  cases hl : ops.toList.drop i with
  | nil => rw [hl] at hd; simp at hd
  | cons o l =>
    rw [hl] at hd hv
    simp only [List.head?_cons, Option.map_some, Option.some.injEq, Option.bind_some] at hd hv
    subst hd
    have hl' : ops.toList.drop (i + 1) = l := by rw [← List.drop_drop, hl]; rfl
    have hk := h _ (ha.putSub he)
    rw [hl'] at hk
    unfold wpQuiet
    cases hw : wantS ops e o with
    | none => have := hv default; simp [stepV, hw] at this
    | some b =>
      rw [ha.wanted hw]
      cases b with
      | false =>
        have := hv default
        simp only [stepV, hw, Option.some.injEq, Prod.mk.injEq, and_true] at this
        subst this
        simpa using hk
      | true =>
        simp only [if_true]
        refine ⟨v, fun w _ => ?_, hk⟩
        have h1 := hv w
        simp only [stepV, hw] at h1
        by_cases hok : okOps e o = true
        · simp only [hok, cond_true] at h1
          unfold Oper.quietAt
          rw [ha.exec hok]
          generalize (execOp (rho e) o).run P w = r at h1 ⊢
          cases r with
          | halt _ _ => simp at h1
          | ok nx w1 =>
            cases nx <;> simp only [reduceCtorEq, Option.some.injEq, Prod.mk.injEq] at h1
            case value u => exact ⟨h1.2, h1.1⟩
            case skip => exact ⟨h1.2, h1.1.symm⟩
        · simp [hok] at h1

theorem Q_op {ops : Array Oper} {i : Nat} (d : Option Tmp) (S : Sem Next) (v : Value) (hx : ∀ w, execAt P ops i e w = some (d, S.run P w)) (hS : ∀ w, w.heap = H → S.run P w = .ok (.value v) w)
    (e' : Env) (he : PutSub n e d v e') (h : RegQ P n ds w0 ops (i + 1) e' H Q) : RegQ P n ds w0 ops i e H Q := fun a ha => by
  obtain ⟨o, hd, hwant, hok, hdst, _⟩ := execAt_spec (hx default)
  rw [hd]
  unfold wpQuiet
  rw [ha.wanted hwant]
  simp only [if_true]
  subst hdst
  refine ⟨v, fun w hw => ?_, h _ (ha.putSub he)⟩
  obtain ⟨o', hd', _, _, _, hrun⟩ := execAt_spec (hx w)
  rw [hd] at hd'
  obtain ⟨rfl, _⟩ := List.cons.inj hd'
  unfold Oper.quietAt
  rw [ha.exec hok, hrun, hS w hw.1]
  exact ⟨rfl, rfl⟩

theorem Q_sub {ops : Array Oper} {i : Nat} (e' : Env) (hs : Sub e' e) (h : RegQ P n ds w0 ops i e' H Q) : RegQ P n ds w0 ops i e H Q := fun a ha => h a (ha.sub hs)
theorem N_sub {ops : Array Oper} {i : Nat} (e' : Env) (hs : Sub e' e) (h : RegN ro P n ds w0 ops i e' H Q) : RegN ro P n ds w0 ops i e H Q := fun a w ha => h a w (ha.sub hs)

theorem S_loop {σ : Type} (env : σ → Env) (I : σ → Array Obj → Prop) (μ : σ → Array Obj → Nat) (s0 : σ) (hc : c = .loop x) (hI : I s0 H) (he : Sub (env s0) e)
    (round : ∀ s H', I s H' → At n ds w0 (env s) H' (x.wpR ro P (Exit.then (fun a w => ∃ s', Agree n ds (env s') a ∧ Same w0 w ∧ I s' w.heap ∧ μ s' w.heap < μ s H') Q))) :
    At n ds w0 e H (c.wpR ro P Q) := fun a w ha hw hs => by
  rw [hc]
  refine wpIn_loop_ghost (fun k a w => ∃ s, Agree n ds (env s) a ∧ Same w0 w ∧ I s w.heap ∧ μ s w.heap = k) (μ s0 H) ⟨s0, ha.sub he, hs, hw ▸ hI, by rw [hw]⟩ ?_
  rintro k a1 w1 ⟨s, ha1, hs1, hI1, rfl⟩
  refine wpIn_mono (round s w1.heap hI1 a1 w1 ha1 rfl hs1) ?_
  intro ex a2 w2 hq
  cases ex with
  | normal =>
    obtain ⟨s', ha2, hs2, hI2, hlt⟩ := hq
    exact ⟨_, hlt, s', ha2, hs2, hI2, rfl⟩
  | exit id => exact hq
  | goto l => exact hq
  | ret => exact hq
  | panic ch => exact hq
  | outgrown => exact hq

theorem S_round {σ : Type} {env : σ → Env} {I : σ → Array Obj → Prop} {μ : σ → Array Obj → Nat} {s : σ} {H0 : Array Obj} (s' : σ) (he : Sub (env s') e) (hI : I s' H ∧ μ s' H < μ s H0) :
    At n ds w0 e H (fun a w => ∃ s', Agree n ds (env s') a ∧ Same w0 w ∧ I s' w.heap ∧ μ s' w.heap < μ s H0) :=
  fun a w ha hw hs => ⟨s', ha.sub he, hs, by rw [hw]; exact hI.1, by rw [hw]; exact hI.2⟩

end rules

def env0 : Nat → List Value → Env
  | _, [] => []
  | i, v :: l => (i, v) :: env0 (i + 1) l

theorem env0_get : ∀ (l : List Value) (i t : Nat) (v : Value), (env0 i l).get t = some v → i ≤ t ∧ l[t - i]? = some v
  | [], _, _, _, h => by cases h
  | u :: l, i, t, v, h => by
    simp only [env0] at h
    rw [Env.get_cons] at h
    by_cases hit : i = t
    · subst hit; simp only [if_true, Option.some.injEq] at h; subst h; simp
    · rw [if_neg hit] at h
      obtain ⟨h1, h2⟩ := env0_get l (i + 1) t v h
      refine ⟨by omega, ?_⟩
      obtain ⟨j, rfl⟩ : ∃ j, t = i + 1 + j := ⟨t - (i + 1), by omega⟩
      have e1 : i + 1 + j - (i + 1) = j := by omega
      have e2 : i + 1 + j - i = j + 1 := by omega
      rw [e1] at h2; rw [e2]; simpa using h2

def Leave (P : Program) (fn : Func) (w0 : World) (R : Value → Array Obj → Prop) (a : Act) (w : World) : Prop :=
  LeavesInM Fence.wide 0 P fn a.tmps (fun e w' => ∃ v, e = .returned v ∧ Same w0 w' ∧ R v w'.heap) a.defers .returning w
theorem S_enter {P : Program} {f : FuncId} {fn : Func} {c : Code} {args : Array Value} {H : Array Obj} {R : Value → Array Obj → Prop} (n : Nat) (hf : P.funcs[f]? = some fn) (hb : fn.body = some c) (hn : fn.ntmps = n) (hle : args.size ≤ n)
    (h : ∀ (w0 : World) (Q : Exit → Act → World → Prop),
      (∀ a w, Leave P fn w0 R a w → Q .ret a w ∧ Q .normal a w) → At n [] w0 (env0 0 args.toList) H (c.wpR none P Q)) : HC P f args H R := fun w hw => by
  refine callsIn_wide.1 (callsIn_of_wp_marks hf hb trivial (n := 0) ?_)
  refine h w (bodyPostM Fence.wide 0 P fn _) (fun a w' hl => ⟨hl, hl⟩) _ _ ?_ hw (Same.refl w)
  refine ⟨?_, rfl, fun t v hv => ?_⟩
  · simp only [Array.size_append, Array.size_replicate]; omega
  · obtain ⟨_, h2⟩ := env0_get _ _ _ _ hv
    simp only [Nat.sub_zero, Array.getElem?_toList] at h2
    show (args ++ Array.replicate (fn.ntmps - args.size) undef)[t]? = some v
    have : t < args.size := by
      rcases Nat.lt_or_ge t args.size with h | h
      · exact h
      · simp [Array.getElem?_eq_none h] at h2
    rw [Array.getElem?_append_left this]
    exact h2

end Go.Proofs.YthlohokmnajpoaaGreatDoor
