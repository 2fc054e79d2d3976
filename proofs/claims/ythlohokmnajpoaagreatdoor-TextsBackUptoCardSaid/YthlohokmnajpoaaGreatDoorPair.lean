/-
  Pairs on the heap (package obj): the contracts. Proves nothing of any one statement.
-/
import Derived.Test.YthlohokmnajpoaaGreatDoorThing
import Derived.Test.YthlohokmnajpoaaGreatDoorLx
set_option linter.unusedVariables false
set_option linter.unusedSimpArgs false
namespace Go.Proofs.YthlohokmnajpoaaGreatDoor
open Go

def Mem.isPair (m : Mem) (w : Int) : Prop := (m.atW w 1 0 ∨ m.atW w 2 1) ∧ w / 8 % 2 = 0
instance (m : Mem) (w : Int) : Decidable (m.isPair w) := by unfold Mem.isPair; infer_instance
theorem obj_pair_c {H : Array Obj} {hv : Option Addr} {o : Option (Blk × Hp)} {w : Int} (V : View H hv o) (hw : IsWord w) :
    obj_Heap_pair.C hv w H (fun v H' => ∃ a : Int, v = .tuple #[.int .i64 a, .bool (decide ((mof o).isPair w))] ∧ ((mof o).isPair w → a = w / 8) ∧ Ext H H') := by
  refine HC.via fun R hR => obj_Heap_pair.link ?_
  unfold obj_Heap_pair.pt
  have hw0 : 0 ≤ w / 8 := by have := hw.1; omega
  refine HC.mono (obj_at_c V hw) ?_
  rintro _ H1 ⟨a, rfl, ha, e1⟩
  refine ⟨_, _, rfl, ?_⟩
  by_cases h1 : (mof o).atW w 1 0
  · rw [if_pos (decide_eq_true h1), ha h1, tmod_pos hw0]
    refine hR _ _ ⟨_, ?_, fun _ => rfl, e1⟩
    refine tupb ?_
    rw [Bool.eq_iff_iff, beq_iff_eq, decide_eq_true_eq]
    exact ⟨fun h => ⟨.inl h1, h⟩, fun h => h.2⟩
  rw [if_neg (by simpa using h1)]
  refine HC.mono (obj_at_c (V.ext e1) hw) ?_
  rintro _ H2 ⟨a2, rfl, ha2, e2⟩
  refine ⟨_, _, rfl, hR _ _ ⟨_, ?_, fun h => ha2 (h.1.resolve_left h1), e1.trans e2⟩⟩
  refine tupb ?_
  by_cases h2 : (mof o).atW w 2 1
  · rw [ha2 h2, tmod_pos hw0, decide_eq_true h2, Bool.true_and, Bool.eq_iff_iff, beq_iff_eq, decide_eq_true_eq]
    exact ⟨fun h => ⟨.inr h2, h⟩, fun h => h.2⟩
  · rw [decide_eq_false h2, Bool.false_and, decide_eq_false]
    exact fun h => h.1.elim h1 h2
theorem obj_Pair_c {H : Array Obj} {hv : Option Addr} {o : Option (Blk × Hp)} {w : Int} (V : View H hv o) (hw : IsWord w) :
    obj_Heap_Pair.C hv w H (fun v H' => v = .bool (decide ((mof o).isPair w)) ∧ Ext H H') := by
  refine HC.via fun R hR => obj_Heap_Pair.link ?_
  unfold obj_Heap_Pair.pt
  refine HC.mono (obj_pair_c V hw) ?_
  rintro _ H1 ⟨a, rfl, ha, e1⟩
  exact ⟨_, _, rfl, hR _ _ ⟨rfl, e1⟩⟩


def Mem.halfE (m : Mem) (w i : Int) : Int := if m.isPair w then (if m.used (w / 8 + i) then 0 else 18) else 3
theorem Mem.isPair.addr {m : Mem} {w : Int} (h : m.isPair w) (hw : IsWord w) : 0 ≤ w / 8 ∧ w / 8 < 65536 := by
  have := hw.1
  refine ⟨by omega, ?_⟩
  rcases h.1 with h | h
  · exact h.1.2
  · exact h.1.2
theorem obj_half_c {H : Array Obj} {hv : Option Addr} {o : Option (Blk × Hp)} {w i : Int} (V : View H hv o) (hw : IsWord w) (hi : 0 ≤ i ∧ i ≤ 1) :
    obj_Heap_half.C hv w i H (fun v H' => v = .tuple #[.int .u64 (if (mof o).halfE w i = 0 then (mof o).get (w / 8 + i) else 0), .int .i64 ((mof o).halfE w i)] ∧ Ext H H') := by
  refine HC.via fun R hR => obj_Heap_half.link ?_
  unfold obj_Heap_half.pt
  refine HC.mono (obj_pair_c V hw) ?_
  rintro _ H1 ⟨a, rfl, ha, e1⟩
  refine ⟨_, _, rfl, ?_⟩
  by_cases hp : (mof o).isPair w
  case neg =>
    rw [if_neg (by simpa using hp)]
    have e : (mof o).halfE w i = 3 := by unfold Mem.halfE; rw [if_neg hp]
    rw [e] at hR
    exact hR _ _ ⟨rfl, e1⟩
  rw [if_pos (decide_eq_true hp), ha hp]
  have hb := hp.addr hw
  have e : (mof o).halfE w i = if (mof o).used (w / 8 + i) then 0 else 18 := by unfold Mem.halfE; rw [if_pos hp]
  rw [e] at hR
  cases V with
  | nobody => exact absurd (hp.1.elim (fun h => h.2.2.1) (fun h => h.2.2.1)) nohas
  | empty h => exact absurd (hp.1.elim (fun h => h.2.2.1) (fun h => h.2.2.1)) nohas
  | @real b x h ok =>
    have h1 := h.ext e1
    have hm : mof (some (b, x)) = x.sp.mem := rfl
    rw [hm] at hR
    refine ⟨_, rfl, _, h1.hPtr, _, rfl, _, h1.cd.cPtr, _, rfl, _, h1.cd.sp.memPtr, ?_⟩
    rw [w64 (n := w / 8 + i) (by omega)]
    refine HC.mono (seg_Read_c h1.cd.sp.mem ok.mem (by omega)) ?_
    rintro _ H2 ⟨rfl, rfl⟩
    by_cases hu : x.sp.mem.used (w / 8 + i)
    · rw [if_pos hu] at hR ⊢
      exact ⟨_, _, rfl, hR _ _ ⟨rfl, e1⟩⟩
    · rw [if_neg hu] at hR ⊢
      exact ⟨_, _, rfl, hR _ _ ⟨rfl, e1⟩⟩
theorem obj_Car_c {H : Array Obj} {hv : Option Addr} {o : Option (Blk × Hp)} {w : Int} (V : View H hv o) (hw : IsWord w) :
    obj_Heap_Car.C hv w H (fun v H' => v = .tuple #[.int .u64 (if (mof o).halfE w 0 = 0 then (mof o).get (w / 8 + 0) else 0), .int .i64 ((mof o).halfE w 0)] ∧ Ext H H') := by
  refine HC.via fun R hR => obj_Heap_Car.link ?_
  unfold obj_Heap_Car.pt
  refine HC.mono (obj_half_c V hw (by decide)) ?_
  rintro _ H1 ⟨rfl, e1⟩
  exact ⟨_, _, rfl, hR _ _ ⟨rfl, e1⟩⟩
theorem obj_Cdr_c {H : Array Obj} {hv : Option Addr} {o : Option (Blk × Hp)} {w : Int} (V : View H hv o) (hw : IsWord w) :
    obj_Heap_Cdr.C hv w H (fun v H' => v = .tuple #[.int .u64 (if (mof o).halfE w 1 = 0 then (mof o).get (w / 8 + 1) else 0), .int .i64 ((mof o).halfE w 1)] ∧ Ext H H') := by
  refine HC.via fun R hR => obj_Heap_Cdr.link ?_
  unfold obj_Heap_Cdr.pt
  refine HC.mono (obj_half_c V hw (by decide)) ?_
  rintro _ H1 ⟨rfl, e1⟩
  exact ⟨_, _, rfl, hR _ _ ⟨rfl, e1⟩⟩
def Mem.sizeOf (m : Mem) (w : Int) : Int := if m.isPair w then 2 else if m.isObj w then m.len w + 1 else 0

theorem twoWords {H0 H : Array Obj} {b : Nat} {x y : Int} (hb : H[b]? = some (.cells #[.int .u64 x, .int .u64 y] 35 (0, 0))) : SrcAt H (some ⟨b, 0, none⟩) (wvs [x, y]) :=
  rowAt_blk hb _ 0 0 (fun j hj => by
    have : j = 0 ∨ j = 1 := by simp at hj; omega
    rcases this with rfl | rfl <;> rfl)
theorem obj_Cons_c {H : Array Obj} {hv : Option Addr} {o : Option (Blk × Hp)} {x y : Int} (V : View H hv o) (hx : IsWord x) (hy : IsWord y) (hc : cntOK o) :
    obj_Heap_Cons.C hv x y H (fun v H' => v = .tuple #[.int .u64 (putR o 0 1 [x, y]).1, .int .i64 (putR o 0 1 [x, y]).2] ∧ View H' hv (putO o 0 1 [x, y]) ∧ Fr (own o) H H') := by
  refine HC.via fun R hR => obj_Heap_Cons.link ?_
  unfold obj_Heap_Cons.pt
  intro b H1 hb hH1
  have e1 : Ext H H1 := Ext.push' hH1
  refine HC.mono (obj_put_c (ws := [x, y]) (V.ext e1) (twoWords (H0 := H) (push_get hb hH1)) rfl (fun w hw => by simp at hw; rcases hw with rfl | rfl <;> assumption) (fun i hi hio => by simp at hi; have := V.own_lt i hio; omega) hc (by decide) (by simp)) ?_
  rintro _ H2 ⟨rfl, V2, f2⟩
  exact ⟨_, _, rfl, hR _ _ ⟨rfl, V2, e1.fr.trans f2⟩⟩
end Go.Proofs.YthlohokmnajpoaaGreatDoor
