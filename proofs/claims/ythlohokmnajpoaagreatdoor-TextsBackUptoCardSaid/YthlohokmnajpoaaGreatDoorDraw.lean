/-
  Regions that draw their order: what reads is taken first, as long as what it read stays as it was till everybody who need not wait for it has gone. Proves nothing of any one program.
-/
import Derived.Test.YthlohokmnajpoaaGreatDoorMem
set_option linter.unusedVariables false
set_option linter.unusedSimpArgs false
namespace Go.Proofs.YthlohokmnajpoaaGreatDoor
open Go
variable {ds : List Deferred} {ro : Option Nat}

def QN (Q : Exit → Act → World → Prop) : Exit → Act → World → Prop
  | .panic _, _, _ => False
  | e, a, w => Q e a w
theorem QN.imp {Q : Exit → Act → World → Prop} : ∀ (e : Exit) (a : Act) (w : World), QN Q e a w → Q e a w := fun e a w h => by
  cases e <;> first | exact h | exact (h : False).elim

section
variable {P : Program} {ops : Array Oper} {Q : Exit → Act → World → Prop} {md : Region.Mode} {S : Array Bool → World → Prop}

def Closed (md : Region.Mode) (ops : Array Oper) (L : Array Bool) : Prop :=
  L.size = ops.size ∧ ∀ j oj, ops[j]? = some oj → L.getD j false = true → ∀ e ∈ oj.after, Region.binds md e = true → L.getD e.on false = true
theorem Closed.set {L : Array Bool} {i : Nat} (h : Closed md ops L) (hi : i ∈ Region.ready md ops L) : Closed md ops (L.setIfInBounds i true) := by
  obtain ⟨_, oi, hoi, hall⟩ := mem_ready.1 hi
  refine ⟨by simpa using h.1, ?_⟩
  intro j oj hj hl e he hb
  by_cases hij : i = j
  · subst hij
    have : oj = oi := Option.some.inj (hj.symm.trans hoi)
    subst this
    exact getD_set_true (hall e he hb)
  · rw [getD_set_ne false hij] at hl
    exact getD_set_true (h.2 j oj hj hl e he hb)
theorem Closed.none (m : Nat) (hm : ops.size = m) : Closed md ops (Array.replicate m false) := ⟨by simp [hm], fun j oj _ hl => by
  have : (Array.replicate m false).getD j false = false := by
    rcases Nat.lt_or_ge j m with h | h <;> simp [h]
  rw [this] at hl; cases hl⟩

def waitsF (md : Region.Mode) (ops : Array Oper) : Nat → Nat → Nat → Bool
  | 0, _, _ => false
  | f + 1, k, i => match ops[k]? with
    | some o => o.after.any (fun e => Region.binds md e && e.on == i) || o.after.any (fun e => Region.binds md e && waitsF md ops f e.on i)
    | none => false
theorem waitsF_spec {L : Array Bool} (hc : Closed md ops L) : ∀ {f k i : Nat}, waitsF md ops f k i = true → L.getD k false = true → L.getD i false = true
  | 0, _, _, h, _ => by simp [waitsF] at h
  | f + 1, k, i, h, hk => by
    unfold waitsF at h
    cases ho : ops[k]? with
    | none => simp [ho] at h
    | some o =>
      simp only [ho, Bool.or_eq_true] at h
      rcases h with h | h
      · obtain ⟨e, he, hb⟩ := Array.any_eq_true'.1 h
        simp only [Bool.and_eq_true, beq_iff_eq] at hb
        have := hc.2 k o ho hk e he hb.1
        rw [hb.2] at this; exact this
      · obtain ⟨e, he, hb⟩ := Array.any_eq_true'.1 h
        simp only [Bool.and_eq_true] at hb
        exact waitsF_spec hc hb.2 (hc.2 k o ho hk e he hb.1)

def YieldsG (P : Program) (md : Region.Mode) (ops : Array Oper) (S : Array Bool → World → Prop) (i : Nat) (o : Oper) (v : Value) (a : Act) : Prop :=
  (∀ c, o.op ≠ .defer c) ∧ ((Region.wanted o (yielded ops a.tmps) = true ∧ ∀ L w, Closed md ops L → L.getD i true = false → S L w → (execOp a.eval o).run P w = .ok (.value v) w) ∨
  (Region.wanted o (yielded ops a.tmps) = false ∧ v = undef))

theorem YieldsG.wpOp {i : Nat} {o : Oper} {v : Value} {a : Act} (hi : ops[i]? = some o) (hy : YieldsG P md ops S i o v a)
    {K : Act → World → Prop} {w : World} {L : Array Bool} (hc : Closed md ops L) (hL : L.getD i true = false) (hS : S L w) (h : K (a.put o.dst v) w) : wpOpIn (fen ro) 0 P ops Q i K a w := by
  unfold Go.wpOpIn
  simp only [hi]
  have hnd : o.semAt (fen ro).round a.eval = execOp a.eval o := Oper.semAt_eq ro _ o hy.1
  rcases hy.2 with ⟨hw, hv⟩ | ⟨hw, rfl⟩
  · simp only [hw, if_true, Oper.wpIn, hnd, hv L w hc hL hS, Oper.uponIn]; exact ⟨fun _ _ => trivial, h⟩
  · simp only [hw, Bool.false_eq_true, if_false]; exact ⟨fun _ _ => trivial, h⟩
theorem YieldsG.of_same {i : Nat} {o : Oper} {v : Value} {a a' : Act} (hy : YieldsG P md ops S i o v a) (he : execOp a'.eval o = execOp a.eval o)
    (hw : Region.wanted o (yielded ops a'.tmps) = Region.wanted o (yielded ops a.tmps)) : YieldsG P md ops S i o v a' := by
  unfold YieldsG at *
  rw [he, hw]
  exact hy
theorem wpOp_putG {i j : Nat} {oi oj : Oper} {v : Value} (hj : ops[j]? = some oj) (hap : oi.apart ops oj = true)
    (hsi : ∀ cs b, oi.op ≠ .select cs b) (hsj : ∀ cs b, oj.op ≠ .select cs b) (hdj : ∀ c, oj.op ≠ .defer c)
    (hQ : ∀ c a w, ¬ Q (.panic c) a w) {K : Act → World → Prop} {a : Act} {w : World}
    (hy : YieldsG P md ops S i oi v a) (h : wpOpIn (fen ro) 0 P ops Q j K (a.put oi.dst v) w) :
    wpOpIn (fen ro) 0 P ops Q j (fun a' w' => YieldsG P md ops S i oi v a' ∧ K (a'.put oi.dst v) w') a w := by
  obtain ⟨h1, h2, h3⟩ := Oper.apart_spec hap
  have keep : ∀ (a : Act), YieldsG P md ops S i oi v a → ∀ u, YieldsG P md ops S i oi v (a.put oj.dst u) := fun a hy u =>
    hy.of_same (execOp_put oi hsi a oj.dst u h3) (wanted_put oi a oj.dst u h3)
  have keepD : ∀ d, YieldsG P md ops S i oi v { a with defers := d :: a.defers } := fun d => hy.of_same rfl rfl
  unfold wpOpIn at *
  simp only [hj] at *
  rw [wanted_put oj a oi.dst v h1] at h
  have hnd : ∀ ρ, oj.semAt (fen ro).round ρ = execOp ρ oj := fun ρ => Oper.semAt_eq ro ρ oj hdj
  split
  · rename_i hw
    simp only [hw, if_true] at h
    refine ⟨fun _ _ => trivial, ?_⟩
    have h := h.2
    rw [hnd, execOp_put oj hsj a oi.dst v h1] at h
    rw [hnd]
    generalize (execOp a.eval oj).run P w = r at *
    cases r with
    | ok n w' =>
      cases n <;> simp only [Oper.uponIn] at h ⊢
      case value u => exact ⟨keep a hy u, by rw [← Act.put_comm a v u h2]; exact h⟩
      case skip => exact ⟨keep a hy _, by rw [← Act.put_comm a v undef h2]; exact h⟩
      case defer d =>
        refine ⟨keep _ (keepD d) _, ?_⟩
        rw [← Act.put_comm _ v undef h2, ← Act.put_defers]
        exact h
      case enter f args =>
        refine ⟨h.1, CallsIn.mono h.2 fun e w'' he => ?_⟩
        cases e with
        | returned u => exact ⟨keep a hy u, by rw [← Act.put_comm a v u h2]; exact he⟩
        | panicked c => exact (hQ _ _ _ he).elim
        | outgrown => exact he
      case row row args => exact ⟨h.1, RowsIn.mono h.2 fun u w'' he => ⟨keep a hy u, by rw [← Act.put_comm a v u h2]; exact he⟩⟩
      case round l f tmps assign body =>
        refine ⟨h.1, RoundIn.mono h.2 fun e w'' he => ?_⟩
        cases e with
        | returned u => exact ⟨keep a hy u, by rw [← Act.put_comm a v u h2]; exact he⟩
        | panicked c => exact (hQ _ _ _ he).elim
        | outgrown => exact he
    | halt x w' =>
      cases x <;> simp only [Oper.uponIn] at h ⊢
      case panic u => exact (hQ _ _ _ h).elim
  · rename_i hw
    simp only [hw] at h
    exact ⟨fun _ _ => trivial, keep a hy _, by rw [← Act.put_comm a v undef h2]; exact h.2⟩

def wpG (ro : Option Nat) (P : Program) (md : Region.Mode) (ops : Array Oper) (Q : Exit → Act → World → Prop) (S : Array Bool → World → Prop) : Nat → Array Bool → Act → World → Prop
  | 0, L, a, w => Region.ready md ops L = [] ∧ Q .normal a w
  | fuel + 1, L, a, w =>
    (Region.ready md ops L = [] → Q .normal a w) ∧
    ∀ i ∈ Region.ready md ops L, wpOpIn (fen ro) 0 P ops Q i (fun a' w' => S (L.setIfInBounds i true) w' ∧ wpG ro P md ops Q S fuel (L.setIfInBounds i true) a' w') a w
theorem wpAny_of_G : ∀ (fuel : Nat) (L : Array Bool) (a : Act) (w : World), wpG ro P md ops Q S fuel L a w → wpAnyIn (fen ro) 0 P md ops Q fuel L a w
  | 0, _, _, _, h => h
  | fuel + 1, _, _, _, h => ⟨h.1, fun i hi => wpOpIn_mono (fun a' w' h' => wpAny_of_G fuel _ a' w' h'.2) (h.2 i hi)⟩

theorem wpG_first {i : Nat} {oi : Oper} {v : Value} (hi : ops[i]? = some oi) (hsel : ∀ (j : Nat) (o : Oper) cs b, ops[j]? = some o → o.op ≠ .select cs b) (hdef : ∀ (j : Nat) (o : Oper) c, ops[j]? = some o → o.op ≠ .defer c)
    (hQ : ∀ c a w, ¬ Q (.panic c) a w) (hSi : ∀ L w, S (L.setIfInBounds i true) w ↔ S L w) :
    ∀ (fuel : Nat) (L : Array Bool) (a : Act) (w : World),
      (∀ j oj, ops[j]? = some oj → j ≠ i → L.getD j true = false → (∀ e ∈ oj.after, Region.binds md e = true → e.on ≠ i) → oi.apart ops oj = true) →
      Closed md ops L → i ∈ Region.ready md ops L → YieldsG P md ops S i oi v a → S L w →
      wpG ro P md ops Q S fuel (L.setIfInBounds i true) (a.put oi.dst v) w → wpG ro P md ops Q S (fuel + 1) L a w := by
  intro fuel
  induction fuel with
  | zero =>
    intro L a w _ hc hr hy hS H
    refine ⟨fun h => (by rw [h] at hr; cases hr), fun j hj => ?_⟩
    by_cases hji : j = i
    · subst hji; exact hy.wpOp hi hc (mem_ready.1 hr).1 hS ⟨(hSi L w).2 hS, H⟩
    · have := ready_mono hj hji
      rw [H.1] at this
      cases this
  | succ fuel ih =>
    intro L a w hfree hc hr hy hS H
    refine ⟨fun h => (by rw [h] at hr; cases hr), fun j hj => ?_⟩
    by_cases hji : j = i
    · subst hji; exact hy.wpOp hi hc (mem_ready.1 hr).1 hS ⟨(hSi L w).2 hS, H⟩
    · have h1 := H.2 j (ready_mono hj hji)
      obtain ⟨hjun, oj, hoj, hall⟩ := mem_ready.1 hj
      have hnot : ∀ e ∈ oj.after, Region.binds md e = true → e.on ≠ i := fun e he hb heq => by
        have h1 := hall e he hb
        have h0 := (mem_ready.1 hr).1
        rw [heq] at h1
        rcases Nat.lt_or_ge i L.size with h' | h'
        · simp [h'] at h0 h1; rw [h0] at h1; cases h1
        · simp [Array.getElem?_eq_none h'] at h1
      have h2 := wpOp_putG hoj (hfree j oj hoj hji hjun hnot) (fun cs b => hsel i oi cs b hi) (fun cs b => hsel j oj cs b hoj) (fun c => hdef j oj c hoj) hQ hy h1
      have hfree' : ∀ k ok, ops[k]? = some ok → k ≠ i → (L.setIfInBounds j true).getD k true = false →
          (∀ e ∈ ok.after, Region.binds md e = true → e.on ≠ i) → oi.apart ops ok = true := fun k ok hk hki hun hno => by
        refine hfree k ok hk hki ?_ hno
        by_cases hjk : j = k
        · subst hjk; exact hjun
        · rw [getD_set_ne true hjk] at hun; exact hun
      refine wpOpIn_mono (fun a' w' h3 => ?_) h2
      have hS' : S (L.setIfInBounds j true) w' := by
        have := h3.2.1
        rw [Array.setIfInBounds_comm _ _ (Ne.symm hji)] at this
        exact (hSi _ _).1 this
      refine ⟨hS', ih (L.setIfInBounds j true) a' w' hfree' (hc.set hj) (ready_mono hr (Ne.symm hji)) h3.1 hS' ?_⟩
      rw [Array.setIfInBounds_comm _ _ hji]
      exact h3.2.2
end

def noDefer (ops : Array Oper) : Bool := ops.toList.all fun o => match o.op with | .defer _ => false | _ => true
theorem noDefer_spec {ops : Array Oper} (h : noDefer ops = true) (j : Nat) (o : Oper) (c : Call) (ho : ops[j]? = some o) : o.op ≠ .defer c := fun hc => by
  have hm : o ∈ ops.toList := by
    have := Array.mem_of_getElem? ho
    simpa using this
  have := List.all_eq_true.1 h o hm
  simp [hc] at this
abbrev Facts := List (Nat × Addr × List Value)
def FactsOK (fs : Facts) (L : Array Bool) (w : World) : Prop := ∀ f ∈ fs, L.getD f.1 false = false → RowAt w.heap f.2.1 0 f.2.2
def FactsAt (fs : Facts) (L : Array Bool) (H : Array Obj) : Prop :=
  match fs with
  | [] => True
  | f :: fs => (bif L.getD f.1 false then True else RowAt H f.2.1 0 f.2.2) ∧ FactsAt fs L H
theorem FactsAt.ok {L : Array Bool} {w : World} : ∀ {fs : Facts}, FactsAt fs L w.heap → FactsOK fs L w
  | [], _, f, hf, _ => by cases hf
  | g :: fs, h, f, hf, hL => by
    cases hf with
    | head => have := h.1; rw [hL] at this; exact this
    | tail _ hm => exact FactsAt.ok h.2 f hm hL
theorem FactsOK.at {L : Array Bool} {w : World} : ∀ {fs : Facts}, FactsOK fs L w → FactsAt fs L w.heap
  | [], _ => trivial
  | g :: fs, h => ⟨by
      cases hL : L.getD g.1 false with
      | true => trivial
      | false => exact h g (List.mem_cons_self ..) hL, FactsOK.at fun f hf => h f (List.mem_cons_of_mem _ hf)⟩
theorem FactsOK.set {fs : Facts} {i : Nat} (hi : fs.all (fun f => f.1 != i) = true) (L : Array Bool) (w : World) : FactsOK fs (L.setIfInBounds i true) w ↔ FactsOK fs L w := by
  have hne : ∀ f ∈ fs, i ≠ f.1 := fun f hf => by
    have := List.all_eq_true.1 hi f hf
    simp at this; exact fun h => this h.symm
  constructor <;> intro h f hf hL <;> refine h f hf ?_
  · rw [getD_set_ne false (hne f hf)]; exact hL
  · rw [getD_set_ne false (hne f hf)] at hL; exact hL

def RegG (ro : Option Nat) (P : Program) (n : Nat) (ds : List Deferred) (w0 : World) (ops : Array Oper) (fs : Facts) (fuel : Nat) (L : Array Bool) (e : Env) (H : Array Obj) (Q : Exit → Act → World → Prop) : Prop :=
  ∀ a w, Agree n ds e a → w.heap = H → Same w0 w → Closed .any ops L → FactsOK fs L w → wpG ro P .any ops (QN Q) (FactsOK fs) fuel L a w

section
variable {P : Program} {n : Nat} {w0 : World} {e : Env} {H : Array Obj} {Q : Exit → Act → World → Prop} {c : Code} {ops : Array Oper} {fs : Facts} {fuel : Nat} {L : Array Bool}

theorem S_regionG (id : Nat) (ops : Array Oper) (fs : Facts) (k : Nat) (L : Array Bool) (hc : c = .region id ops true) (hm : P.follows .mixedOrders = true) (_hs : Region.noSelect ops = true) (hk : ops.size = k) (hL : Array.replicate k false = L) (hf : FactsAt fs L H)
    (h : RegG ro P n ds w0 ops fs k L e H Q) : At n ds w0 e H (c.wpR ro P Q) := fun a w ha hw hs0 => by
  rw [hc]
  refine wpIn_mono (wpIn_region_any hm ?_) QN.imp
  subst hk; subst hL
  refine wpAny_of_G _ _ _ _ (h a _ ha ?_ ?_ (Closed.none _ rfl) ?_)
  · exact hw
  · exact ⟨hs0.os, hs0.tape, hs0.output, Nat.le_succ_of_le hs0.drawn⟩
  · exact FactsAt.ok (by show FactsAt fs _ w.heap; rw [hw]; exact hf)

theorem G_end (hr : Region.ready .any ops L = []) (h : At n ds w0 e H (Q .normal)) : RegG ro P n ds w0 ops fs fuel L e H Q := fun a w ha hw hs _ _ => by
  cases fuel with
  | zero => exact ⟨hr, h a w ha hw hs⟩
  | succ f => exact ⟨fun _ => h a w ha hw hs, by rw [hr]; simp⟩

theorem G_sub (e' : Env) (hs : Sub e' e) (h : RegG ro P n ds w0 ops fs fuel L e' H Q) : RegG ro P n ds w0 ops fs fuel L e H Q := fun a w ha => h a w (ha.sub hs)
theorem G_env (e' : Env) (he : e = e') (h : RegG ro P n ds w0 ops fs fuel L e' H Q) : RegG ro P n ds w0 ops fs fuel L e H Q := he ▸ h

theorem execAt_op {i : Nat} {w : World} {d : Option Tmp} {r : Result Next} (h : execAt P ops i e w = some (d, r)) : ∃ o, ops[i]? = some o ∧ wantS ops e o = some true ∧ okOps e o = true ∧ o.dst = d ∧ (execOp (rho e) o).run P w = r := by
  obtain ⟨o, hd, h1, h2, h3, h4⟩ := execAt_spec h
  refine ⟨o, ?_, h1, h2, h3, h4⟩
  have : ops.toList[i]? = some o := by
    have := congrArg List.head? hd
    simpa [List.head?_drop] using this
  simpa using this

theorem G_take (i : Nat) (d : Option Tmp) (v : Value) (L' : Array Bool) (e' : Env) (S : Sem Next) (hx : ∀ w, execAt P ops i e w = some (d, S.run P w))
    (hS : ∀ L w, Closed .any ops L → L.getD i true = false → FactsOK fs L w → S.run P w = .ok (.value v) w)
    (hr : (Region.ready .any ops L).contains i = true) (hsel : Region.noSelect ops = true) (hdef : noDefer ops = true) (hf : Region.free .any ops L i = true) (hfs : fs.all (fun f => f.1 != i) = true) (hL : L.setIfInBounds i true = L') (he : PutSub n e d v e')
    (h : RegG ro P n ds w0 ops fs fuel L' e' H Q) : RegG ro P n ds w0 ops fs (fuel + 1) L e H Q := fun a w ha hw hs hc hfo => by
  obtain ⟨o, hd, hwant, hok, hdst, _⟩ := execAt_op (hx default)
  subst hL
  have hri : i ∈ Region.ready .any ops L := by simpa using hr
  refine wpG_first (oi := o) (v := v) hd (Region.noSelect_spec hsel) (noDefer_spec hdef) (fun _ _ _ h => h) (FactsOK.set hfs) fuel L a w (Region.free_spec hd hf) hc hri ?_ hfo ?_
  · refine ⟨fun c => noDefer_spec hdef i o c hd, .inl ⟨ha.wanted hwant, fun L1 w1 hc1 hL1 hS1 => ?_⟩⟩
    obtain ⟨o', hd', _, _, _, hrun⟩ := execAt_op (hx w1)
    obtain rfl : o = o' := Option.some.inj (hd.symm.trans hd')
    rw [ha.exec hok, hrun]
    exact hS L1 w1 hc1 hL1 hS1
  · subst hdst
    exact h _ _ (ha.putSub he) hw hs (hc.set hri) ((FactsOK.set hfs L w).2 hfo)

theorem G_pass (i : Nat) (d : Option Tmp) (L' : Array Bool) (e' : Env) (hx : (ops[i]?).bind (fun o => (wantS ops e o).map (fun b => (o.dst, b))) = some (d, false))
    (hr : (Region.ready .any ops L).contains i = true) (hsel : Region.noSelect ops = true) (hdef : noDefer ops = true) (hf : Region.free .any ops L i = true) (hfs : fs.all (fun f => f.1 != i) = true) (hL : L.setIfInBounds i true = L') (he : PutSub n e d undef e')
    (h : RegG ro P n ds w0 ops fs fuel L' e' H Q) : RegG ro P n ds w0 ops fs (fuel + 1) L e H Q := fun a w ha hw hs hc hfo => by
  cases ho : ops[i]? with
  | none => rw [ho] at hx; cases hx
  | some o =>
    simp only [ho, Option.bind_some, Option.map_eq_some_iff, Prod.mk.injEq] at hx
    obtain ⟨b, hwant, hdst, rfl⟩ := hx
    subst hL
    have hri : i ∈ Region.ready .any ops L := by simpa using hr
    refine wpG_first (oi := o) (v := undef) ho (Region.noSelect_spec hsel) (noDefer_spec hdef) (fun _ _ _ h => h) (FactsOK.set hfs) fuel L a w (Region.free_spec ho hf) hc hri ⟨fun c => noDefer_spec hdef i o c ho, .inr ⟨ha.wanted hwant, rfl⟩⟩ hfo ?_
    subst hdst
    exact h _ _ (ha.putSub he) hw hs (hc.set hri) ((FactsOK.set hfs L w).2 hfo)

theorem held_row0 {a : Addr} {vs : List Value} {i : Nat} (k : Nat) (hm : (k, a, vs) ∈ fs) (hw : waitsF .any ops 12 k i = true ∨ Nat.ble ops.size k = true) {L : Array Bool} {w : World} (hc : Closed .any ops L) (hL : L.getD i true = false) (hf : FactsOK fs L w) : RowAt w.heap a 0 vs := by
  refine hf _ hm ?_
  rcases hw with hw | hw
  · cases hk : L.getD k false with
    | false => rfl
    | true =>
      have := waitsF_spec hc hw hk
      have h2 : L.getD i false = false := by
        rcases Nat.lt_or_ge i L.size with h | h
        · simp [h] at hL ⊢; exact hL
        · simp [Array.getElem?_eq_none h]
      rw [h2] at this; cases this
  · have : L.size ≤ k := by rw [hc.1]; exact Nat.le_of_ble_eq_true hw
    simp [Array.getElem?_eq_none this]
theorem held_one {t : TypeId} {a : Addr} {v : Value} {i : Nat} (k : Nat) (hg : ∀ w, (isAgg t).run P w = .ok false w) (hm : (k, a, [v]) ∈ fs) (hw : waitsF .any ops 12 k i = true ∨ Nat.ble ops.size k = true) :
    ∀ L w, Closed .any ops L → L.getD i true = false → FactsOK fs L w → (loadN t (.pointer (some a))).run P w = .ok (.value v) w := fun _ w hc hL hf =>
  loadN_run (H := w.heap) (loadOK_one hg (held_row0 k hm hw hc hL hf).1) w rfl
theorem held_row {t : TypeId} {a : Addr} {vs : List Value} {i : Nat} (k : Nat) (hg : ∀ w, (isAgg t).run P w = .ok true w) (hn : ∀ w, (sizeOf t).run P w = .ok vs.length w) (hm : (k, a, vs) ∈ fs) (hw : waitsF .any ops 12 k i = true ∨ Nat.ble ops.size k = true) :
    ∀ L w, Closed .any ops L → L.getD i true = false → FactsOK fs L w → (loadN t (.pointer (some a))).run P w = .ok (.value (.agg vs.toArray)) w := fun _ w hc hL hf =>
  loadN_run (H := w.heap) (loadOK_row hg hn (held_row0 k hm hw hc hL hf)) w rfl

theorem G_only (i : Nat) (d : Option Tmp) (L' : Array Bool) (S : Sem Next) (R : Value → Array Obj → Prop) (hr : Region.ready .any ops L = [i]) (hx : ∀ w, execAt P ops i e w = some (d, S.run P w)) (hS : SS P S H R) (hL : L.setIfInBounds i true = L')
    (h : ∀ v H', R v H' → ∃ e', PutSub n e d v e' ∧ FactsAt fs L' H' ∧ RegG ro P n ds w0 ops fs fuel L' e' H' Q) : RegG ro P n ds w0 ops fs (fuel + 1) L e H Q := fun a w ha hw hs hc _ => by
  obtain ⟨o, ho, hwant, hok, hdst, hrun⟩ := execAt_op (hx w)
  refine ⟨fun h0 => (by rw [hr] at h0; cases h0), fun j hj => ?_⟩
  have hri : i ∈ Region.ready .any ops L := by rw [hr]; simp
  rw [hr] at hj
  obtain rfl : j = i := by simpa using hj
  unfold wpOpIn
  simp only [ho]
  rw [ha.wanted hwant]
  simp only [if_true]
  refine ⟨fun _ _ => trivial, ?_⟩
  rw [ha.sem hok, hrun]
  obtain ⟨v, w', hv, hsame, hR⟩ := hS w hw
  rw [hv]
  obtain ⟨e', he', hfa, hk⟩ := h v _ hR
  subst hL; subst hdst
  simp only [Oper.uponIn]
  exact ⟨FactsAt.ok hfa, hk _ _ (ha.putSub he') rfl (hs.trans hsame) (hc.set hri) (FactsAt.ok hfa)⟩

theorem G_onlyskip (i : Nat) (d : Option Tmp) (L' : Array Bool) (S : Sem Next) (R : Array Obj → Prop) (hr : Region.ready .any ops L = [i]) (hx : ∀ w, execAt P ops i e w = some (d, S.run P w))
    (hS : ∀ w, w.heap = H → ∃ w', S.run P w = .ok .skip w' ∧ Same w w' ∧ R w'.heap) (hL : L.setIfInBounds i true = L')
    (h : ∀ H', R H' → ∃ e', PutSub n e d undef e' ∧ FactsAt fs L' H' ∧ RegG ro P n ds w0 ops fs fuel L' e' H' Q) : RegG ro P n ds w0 ops fs (fuel + 1) L e H Q := fun a w ha hw hs hc _ => by
  obtain ⟨o, ho, hwant, hok, hdst, hrun⟩ := execAt_op (hx w)
  refine ⟨fun h0 => (by rw [hr] at h0; cases h0), fun j hj => ?_⟩
  have hri : i ∈ Region.ready .any ops L := by rw [hr]; simp
  rw [hr] at hj
  obtain rfl : j = i := by simpa using hj
  unfold wpOpIn
  simp only [ho]
  rw [ha.wanted hwant]
  simp only [if_true]
  refine ⟨fun _ _ => trivial, ?_⟩
  rw [ha.sem hok, hrun]
  obtain ⟨w', hv, hsame, hR⟩ := hS w hw
  rw [hv]
  obtain ⟨e', he', hfa, hk⟩ := h _ hR
  subst hL; subst hdst
  simp only [Oper.uponIn]
  exact ⟨FactsAt.ok hfa, hk _ _ (ha.putSub he') rfl (hs.trans hsame) (hc.set hri) (FactsAt.ok hfa)⟩

theorem G_call (i : Nat) (d : Option Tmp) (L' : Array Bool) (f : FuncId) (args : Array Value) (hr : Region.ready .any ops L = [i]) (hx : ∀ w, execAt P ops i e w = some (d, .ok (.enter f args) w)) {R : Value → Array Obj → Prop} (hcall : HC P f args H R) (hL : L.setIfInBounds i true = L')
    (h : ∀ v H', R v H' → ∃ e', PutSub n e d v e' ∧ FactsAt fs L' H' ∧ RegG ro P n ds w0 ops fs fuel L' e' H' Q) : RegG ro P n ds w0 ops fs (fuel + 1) L e H Q := fun a w ha hw hs hc _ => by
  obtain ⟨o, ho, hwant, hok, hdst, hrun⟩ := execAt_op (hx w)
  refine ⟨fun h0 => (by rw [hr] at h0; cases h0), fun j hj => ?_⟩
  have hri : i ∈ Region.ready .any ops L := by rw [hr]; simp
  rw [hr] at hj
  obtain rfl : j = i := by simpa using hj
  unfold wpOpIn
  simp only [ho]
  rw [ha.wanted hwant]
  simp only [if_true]
  refine ⟨fun _ _ => trivial, ?_⟩
  rw [ha.sem hok, hrun]
  simp only [Oper.uponIn]
  refine ⟨fun hh => (by cases hh), CallsIn.mono (show CallsIn (fen ro) _ P f args w _ from callsIn_wide.2 (hcall w hw)) fun en w' ⟨v, hen, hsame, hR⟩ => ?_⟩
  subst hen
  obtain ⟨e', he', hfa, hk⟩ := h v _ hR
  subst hL; subst hdst
  simp only []
  exact ⟨FactsAt.ok hfa, hk _ _ (ha.putSub he') rfl (hs.trans hsame) (hc.set hri) (FactsAt.ok hfa)⟩

end
end Go.Proofs.YthlohokmnajpoaaGreatDoor
