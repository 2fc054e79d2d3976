/-
  Function values, and ranges over functions, said of heaps. Proves nothing of any one program.
-/
import Derived.Test.YtillpfaabdlaiaaIter
import Derived.Shelf.Abstract
import Derived.RangeFuncNested
set_option linter.unusedVariables false
set_option linter.unusedSimpArgs false
namespace Go.Proofs.Ytillpfaabdlaiaa
open Go
variable {ds : List Deferred} {ro : Option Nat}

def Back (R : Value → Array Obj → Prop) (w : World) : Ending → World → Prop := fun e w' => ∃ v, e = .returned v ∧ Same w w' ∧ R v w'.heap
def FE (P : Program) (fv : Value) (args : Array Value) (H : Array Obj) (R : Value → Array Obj → Prop) : Prop :=
  ∃ (f : FuncId) (first caps : Array Value), fv = .func (.func f) first caps ∧ Enters P f ∧ HC P f (first ++ args ++ caps) H R
def YC (P : Program) (fv : Value) (args : Array Value) (H : Array Obj) (R : Value → Array Obj → Prop) : Prop :=
  ∃ l, fv = .func (.yield l) #[] #[] ∧ ∀ w, w.heap = H → ∃ fn tmps assign body, (Instr.yield l args).run P w = .ok (.round l fn tmps assign body) w ∧ RoundIn Fence.wide 0 P l fn tmps assign body w (Back R w)
def FC (P : Program) (fv : Value) (args : Array Value) (H : Array Obj) (R : Value → Array Obj → Prop) : Prop := FE P fv args H R ∨ YC P fv args H R
theorem FE.mono {P : Program} {fv : Value} {args : Array Value} {H : Array Obj} {R R' : Value → Array Obj → Prop} (h : FE P fv args H R) (hr : ∀ v H', R v H' → R' v H') : FE P fv args H R' := by
  obtain ⟨f, first, caps, hf, he, hc⟩ := h
  exact ⟨f, first, caps, hf, he, hc.mono hr⟩
theorem YC.mono {P : Program} {fv : Value} {args : Array Value} {H : Array Obj} {R R' : Value → Array Obj → Prop} (h : YC P fv args H R) (hr : ∀ v H', R v H' → R' v H') : YC P fv args H R' := by
  obtain ⟨l, hf, hc⟩ := h
  refine ⟨l, hf, fun w hw => ?_⟩
  obtain ⟨fn, tmps, assign, body, h1, h2⟩ := hc w hw
  exact ⟨fn, tmps, assign, body, h1, h2.mono fun e w' ⟨v, h3, h4, h5⟩ => ⟨v, h3, h4, hr _ _ h5⟩⟩
theorem FC.mono {P : Program} {fv : Value} {args : Array Value} {H : Array Obj} {R R' : Value → Array Obj → Prop} (h : FC P fv args H R) (hr : ∀ v H', R v H' → R' v H') : FC P fv args H R' :=
  h.elim (fun h => .inl (h.mono hr)) (fun h => .inr (h.mono hr))
section
variable {P : Program} {n : Nat} {w0 : World} {e e' : Env} {H H' : Array Obj} {Q : Exit → Act → World → Prop} {K : Act → World → Prop} {c x y : Code}

end
abbrev vi (n : Int) : Value := .int .i64 n
abbrev vu (n : Int) : Value := .int .u64 n
abbrev vp (a : Option Addr) : Value := .pointer a
abbrev vs (b : Option Addr) (n c : Nat) : Value := .slice b n c
abbrev pa (b : Nat) : Option Addr := some (Addr.mk b 0 none)
section
variable {P : Program} {n : Nat} {ds : List Deferred} {ro : Option Nat} {w0 : World} {e : Env} {H : Array Obj} {Q Q' : Exit → Act → World → Prop} {K : Act → World → Prop} {c : Code} {ops : Array Oper} {i : Nat}
theorem sk {e' e : Env} (h : e'.map (fun p => e.get p.1) = e'.map (fun p => some p.2) := by kernel_rfl) : Sub e' e := h
theorem pk {n : Nat} {e : Env} {d : Option Nat} {v : Value} {e' : Env} (h : (putS n e d v).map (fun e1 => e'.map (fun p => e1.get p.1)) = some (e'.map (fun p => some p.2)) := by kernel_rfl) : PutSub n e d v e' := h
theorem T_sr (id : Nat) (x y : Code) (h : RegN ro P n ds w0 (Code.ops x) 0 e H (Exit.then (y.wpR ro P Q) Q)) (hc : c = .seq x y := by kernel_rfl) (hx : x = .region id (Code.ops x) false := by kernel_rfl) : At n ds w0 e H (c.wpR ro P Q) :=
  S_seq x y hc (S_region id (Code.ops x) hx h)
theorem T_e (h : At n ds w0 e H K) (hi : ops.toList.drop i = [] := by kernel_rfl) : RegN ro P n ds w0 ops i e H (Exit.then K Q) := N_end hi (S_then h)
theorem T_n (k : Nat) (e' : Env) (h : RegN ro P n ds w0 ops (i + k) e' H Q) (hr : ∀ w, sel e' (runS P n ops ((ops.toList.drop i).take k) e w) = keep e' w := by intro _; kernel_rfl) : RegN ro P n ds w0 ops i e H Q := N_run k e' hr h
theorem T_ne (k : Nat) (e' : Env) (h : At n ds w0 e' H K) (hr : ∀ w, sel e' (runS P n ops ((ops.toList.drop i).take k) e w) = keep e' w := by intro _; kernel_rfl) (hi : ops.toList.drop (i + k) = [] := by kernel_rfl) : RegN ro P n ds w0 ops i e H (Exit.then K Q) :=
  N_run k e' hr (N_end hi (S_then h))
theorem T_s (x y : Code) (h : At n ds w0 e H (x.wpR ro P (Exit.then (y.wpR ro P Q) Q))) (hc : c = .seq x y := by kernel_rfl) : At n ds w0 e H (c.wpR ro P Q) := S_seq x y hc h
theorem T_t (o : Tmp) (x y : Code) (h : At n ds w0 e H (x.wpR ro P Q)) (hc : c = .cond (.tmp o) x y := by kernel_rfl) (hv : evalS e (.tmp o) = some (.bool true) := by kernel_rfl) : At n ds w0 e H (c.wpR ro P Q) := S_condT (.tmp o) x y hc hv h
theorem T_f (o : Tmp) (x y : Code) (h : At n ds w0 e H (y.wpR ro P Q)) (hc : c = .cond (.tmp o) x y := by kernel_rfl) (hv : evalS e (.tmp o) = some (.bool false) := by kernel_rfl) : At n ds w0 e H (c.wpR ro P Q) := S_condF (.tmp o) x y hc hv h
theorem T_cT (o : Tmp) (x y : Code) {b : Bool} (hb : b = true) (h : At n ds w0 e H (x.wpR ro P Q)) (hc : c = .cond (.tmp o) x y := by kernel_rfl) (hv : evalS e (.tmp o) = some (.bool b) := by kernel_rfl) : At n ds w0 e H (c.wpR ro P Q) := S_condT (.tmp o) x y hc (by rw [hv, hb]) h
theorem T_cF (o : Tmp) (x y : Code) {b : Bool} (hb : b = false) (h : At n ds w0 e H (y.wpR ro P Q)) (hc : c = .cond (.tmp o) x y := by kernel_rfl) (hv : evalS e (.tmp o) = some (.bool b) := by kernel_rfl) : At n ds w0 e H (c.wpR ro P Q) := S_condF (.tmp o) x y hc (by rw [hv, hb]) h
theorem T_nT (o : Tmp) (x y : Code) {b : Bool} (hb : b = false) (h : At n ds w0 e H (x.wpR ro P Q)) (hc : c = .cond (.tmp o) x y := by kernel_rfl) (hv : evalS e (.tmp o) = some (.bool (!b)) := by kernel_rfl) : At n ds w0 e H (c.wpR ro P Q) := S_condT (.tmp o) x y hc (by rw [hv, hb]; rfl) h
theorem T_nF (o : Tmp) (x y : Code) {b : Bool} (hb : b = true) (h : At n ds w0 e H (y.wpR ro P Q)) (hc : c = .cond (.tmp o) x y := by kernel_rfl) (hv : evalS e (.tmp o) = some (.bool (!b)) := by kernel_rfl) : At n ds w0 e H (c.wpR ro P Q) := S_condF (.tmp o) x y hc (by rw [hv, hb]; rfl) h
theorem T_k (h : At n ds w0 e H (Q .normal)) (hc : c = .skip := by kernel_rfl) : At n ds w0 e H (c.wpR ro P Q) := S_skip hc h
theorem T_kt (h : At n ds w0 e H K) (hc : c = .skip := by kernel_rfl) : At n ds w0 e H (c.wpR ro P (Exit.then K Q)) := S_skip hc (S_then h)
theorem T_b (id : Nat) (x : Code) (h : At n ds w0 e H (x.wpR ro P (Exit.inBlock id Q))) (hc : c = .block id x := by kernel_rfl) : At n ds w0 e H (c.wpR ro P Q) := S_block id x hc h
theorem T_r (id : Nat) (x : Code) (h : RegN ro P n ds w0 (Code.ops x) 0 e H Q) (hc : c = .region id (Code.ops x) false := by kernel_rfl) : At n ds w0 e H (c.wpR ro P Q) := S_region id (Code.ops x) hc h
theorem T_rq (id : Nat) (x : Code) (h : RegQ P n ds w0 (Code.ops x) 0 e H Q) (hc : c = .region id (Code.ops x) true := by kernel_rfl) (hm : P.follows .mixedOrders = true := by kernel_rfl) (hB : Region.lexB .any (Code.ops x) = true := by kernel_rfl) : At n ds w0 e H (c.wpR none P Q) := S_regionQ id (Code.ops x) hc hm hB h
theorem T_su (e' : Env) (h : At n ds w0 e' H K) (hs : e'.map (fun p => e.get p.1) = e'.map (fun p => some p.2) := by kernel_rfl) : At n ds w0 e H K := S_sub e' hs h
theorem T_nu (e' : Env) (h : RegN ro P n ds w0 ops i e' H Q) (hs : e'.map (fun p => e.get p.1) = e'.map (fun p => some p.2) := by kernel_rfl) : RegN ro P n ds w0 ops i e H Q := N_sub e' hs h
theorem T_ret {fn : Func} {R : Value → Array Obj → Prop} (ts : List Nat) (vs : List Value) (hQ : ∀ a w, Leave P fn w0 R a w → Q .ret a w ∧ Q .normal a w) (h : R (tup vs) H) (hc : c = .ret := by kernel_rfl) (hq : Q' .ret = Q .ret := by exact rfl)
    (hf : fn.results.toList = ts.map .tmp := by kernel_rfl) (hv : ts.map e.get = vs.map some := by kernel_rfl) : At n [] w0 e H (c.wpR ro P Q') := by
  refine S_ret hc ?_
  rw [hq]
  refine S_done vs hQ ?_ h
  rw [hf]; clear hf h
  induction ts generalizing vs with
  | nil => cases vs with | nil => exact .nil | cons v l => cases hv
  | cons t ts ih =>
    cases vs with
    | nil => cases hv
    | cons v l =>
      rw [List.map_cons, List.map_cons, List.cons.injEq] at hv
      exact .tmp hv.1 (ih l hv.2)
theorem T_q (d : Option Tmp) (v : Value) (e' : Env) (h : RegQ P n ds w0 ops (i + 1) e' H Q) (hd : (ops.toList.drop i).head?.map (·.dst) = some d := by kernel_rfl)
    (hv : ∀ w, ((ops.toList.drop i).head?.bind fun o => stepV P ops o e w) = some (v, w) := by intro _; kernel_rfl) (he : (putS n e d v).map (fun e1 => e'.map (fun p => e1.get p.1)) = some (e'.map (fun p => some p.2)) := by kernel_rfl) : RegQ P n ds w0 ops i e H Q := Q_one v e' d hd hv he h
theorem T_qe (h : At n ds w0 e H K) (hi : ops.toList.drop i = [] := by kernel_rfl) : RegQ P n ds w0 ops i e H (Exit.then K Q) := Q_end hi (S_then h)
theorem T_v (d : Option Tmp) (S : Sem Next) (v : Value) (hS : ∀ w, w.heap = H → S.run P w = .ok (.value v) w) (e' : Env) (h : RegN ro P n ds w0 ops (i + 1) e' H Q) (hx : ∀ w, execAt P ops i e w = some (d, S.run P w) := by intro _; kernel_rfl)
    (he : (putS n e d v).map (fun e1 => e'.map (fun p => e1.get p.1)) = some (e'.map (fun p => some p.2)) := by kernel_rfl) : RegN ro P n ds w0 ops i e H Q := N_val d S v hx hS e' he h
theorem T_l (d : Option Tmp) (t : TypeId) {a : Addr} {v : Value} (q : hat H a = some v) (e' : Env) (h : RegN ro P n ds w0 ops (i + 1) e' H Q) (hx : ∀ w, execAt P ops i e w = some (d, (loadN t (.pointer (some a))).run P w) := by intro _; kernel_rfl)
    (hg : ∀ w, (isAgg t).run P w = .ok false w := by intro _; kernel_rfl) (he : (putS n e d v).map (fun e1 => e'.map (fun p => e1.get p.1)) = some (e'.map (fun p => some p.2)) := by kernel_rfl) : RegN ro P n ds w0 ops i e H Q :=
  N_val d (loadN t (.pointer (some a))) v hx (loadN_run (loadOK_one hg q)) e' he h
theorem T_ql (d : Option Tmp) (t : TypeId) {a : Addr} {v : Value} (q : hat H a = some v) (e' : Env) (h : RegQ P n ds w0 ops (i + 1) e' H Q) (hx : ∀ w, execAt P ops i e w = some (d, (loadN t (.pointer (some a))).run P w) := by intro _; kernel_rfl)
    (hg : ∀ w, (isAgg t).run P w = .ok false w := by intro _; kernel_rfl) (he : (putS n e d v).map (fun e1 => e'.map (fun p => e1.get p.1)) = some (e'.map (fun p => some p.2)) := by kernel_rfl) : RegQ P n ds w0 ops i e H Q :=
  Q_op d (loadN t (.pointer (some a))) v hx (loadN_run (loadOK_one hg q)) e' he h
theorem T_ix (d : Option Tmp) (t elem sz : Nat) (a : Addr) (len cap : Nat) (k : IntKind) (j : Int) (hu : P.underlying t = some (.slice elem)) (h0 : 0 ≤ j) (h1 : j < len) (e' : Env) (h : RegN ro P n ds w0 ops (i + 1) e' H Q)
    (hz : ∀ w, (sizeOf elem).run P w = .ok sz w := by intro _; kernel_rfl) (hx : ∀ w, execAt P ops i e w = some (d, (indexAtN t (.slice (some a) len cap) (.int k j)).run P w) := by intro _; kernel_rfl)
    (he : (putS n e d (.pointer (some (a.add (Int.toNat j * sz))))).map (fun e1 => e'.map (fun p => e1.get p.1)) = some (e'.map (fun p => some p.2)) := by kernel_rfl) : RegN ro P n ds w0 ops i e H Q :=
  N_val d (indexAtN t (.slice (some a) len cap) (.int k j)) (.pointer (some (a.add (Int.toNat j * sz)))) hx (fun w _ => indexAt_run hu hz h0 h1 w) e' he h
theorem T_g {fs : Facts} {fuel : Nat} {L : Array Bool} (i : Nat) (d : Option Tmp) (v : Value) (L' : Array Bool) (e' : Env) (S : Sem Next) (hS : ∀ L w, Closed .any ops L → L.getD i true = false → FactsOK fs L w → S.run P w = .ok (.value v) w)
    (h : RegG ro P n ds w0 ops fs fuel L' e' H Q) (hx : ∀ w, execAt P ops i e w = some (d, S.run P w) := by intro _; kernel_rfl)
    (hr : (Region.ready .any ops L).contains i = true := by kernel_rfl) (hsel : Region.noSelect ops = true := by kernel_rfl) (hdef : noDefer ops = true := by kernel_rfl) (hf : Region.free .any ops L i = true := by kernel_rfl) (hfs : fs.all (fun f => f.1 != i) = true := by kernel_rfl) (hL : L.setIfInBounds i true = L' := by kernel_rfl)
    (he : (putS n e d v).map (fun e1 => e'.map (fun p => e1.get p.1)) = some (e'.map (fun p => some p.2)) := by kernel_rfl) : RegG ro P n ds w0 ops fs (fuel + 1) L e H Q := G_take i d v L' e' S hx hS hr hsel hdef hf hfs hL he h
theorem T_gp {fs : Facts} {fuel : Nat} {L : Array Bool} (i : Nat) (d : Option Tmp) (v : Value) (L' : Array Bool) (e' : Env)
    (h : RegG ro P n ds w0 ops fs fuel L' e' H Q) (hx : ∀ w, execAt P ops i e w = some (d, (pure (.value v) : Sem Next).run P w) := by intro _; kernel_rfl)
    (hr : (Region.ready .any ops L).contains i = true := by kernel_rfl) (hsel : Region.noSelect ops = true := by kernel_rfl) (hdef : noDefer ops = true := by kernel_rfl) (hf : Region.free .any ops L i = true := by kernel_rfl) (hfs : fs.all (fun f => f.1 != i) = true := by kernel_rfl) (hL : L.setIfInBounds i true = L' := by kernel_rfl)
    (he : (putS n e d v).map (fun e1 => e'.map (fun p => e1.get p.1)) = some (e'.map (fun p => some p.2)) := by kernel_rfl) : RegG ro P n ds w0 ops fs (fuel + 1) L e H Q := G_take i d v L' e' (pure (.value v)) hx (fun _ _ _ _ _ => rfl) hr hsel hdef hf hfs hL he h
end
end Go.Proofs.Ytillpfaabdlaiaa
