/-
  Written by a program of mine (gen.py): for functions of this translation a predicate transformer over heaps (.pt), and the proof that it is sound for the call (.link).
-/
import Derived.Test.YtgofbcapgikboaaFnsC
set_option linter.unusedSimpArgs false
set_option linter.unusedVariables false
namespace Go.Proofs.Ytgofbcapgikboaa
open Go
/-! moraine/morainelaw01.good -/
noncomputable def morainelaw01_good.k0 : Code := Func.code Try.f17
noncomputable def morainelaw01_good.k1 : Code := Code.fa morainelaw01_good.k0
noncomputable def morainelaw01_good.k2 : Code := Code.fb morainelaw01_good.k0
noncomputable def morainelaw01_good.k3 : Code := Code.fa morainelaw01_good.k2
noncomputable def morainelaw01_good.k4 : Code := Code.fb morainelaw01_good.k2
noncomputable def morainelaw01_good.k5 : Code := Code.fa morainelaw01_good.k3
noncomputable def morainelaw01_good.k6 : Code := Code.fb morainelaw01_good.k3
noncomputable def morainelaw01_good.k7 : Code := Code.fa morainelaw01_good.k6
noncomputable def morainelaw01_good.k8 : Code := Code.fb morainelaw01_good.k6
noncomputable def morainelaw01_good.k9 : Code := Code.fa morainelaw01_good.k4
noncomputable def morainelaw01_good.k10 : Code := Code.fb morainelaw01_good.k4
def morainelaw01_good.pt (lB : Option Addr) (lN : Nat) (lC : Nat) (wv : Int) (ev : Int) (H : Array Obj) (R : Value → Array Obj → Prop) : Prop :=
 if ev = 0 then (
  ∀ (b : Nat) (H1 : Array Obj), b = H.size → H1 = H.push (.cells #[.int .u64 wv] 23) →
  appendK 1 23 8 [.int .u64 0] lB lN lC (some (Addr.mk b 0 none)) 1 H1 (fun ap apC H2 =>
   R (.slice ap (lN + 1) apC) H2))
 else
 R (.slice lB lN lC) H
set_option maxRecDepth 100000 in
theorem morainelaw01_good.link {lB : Option Addr} {lN : Nat} {lC : Nat} {wv : Int} {ev : Int} {H : Array Obj} {R : Value → Array Obj → Prop} (h : morainelaw01_good.pt lB lN lC wv ev H R) : morainelaw01_good.C lB lN lC wv ev H R := by
  refine S_enter (fn := Try.f17) (c := morainelaw01_good.k0) 14 Try.func17 (by kernel_rfl) (by kernel_rfl) (Nat.le_of_ble_eq_true (by kernel_rfl)) ?_
  intro w0 Q hQ
  unfold morainelaw01_good.pt at h
  refine S_sub [(0, .slice lB lN lC), (1, .int .u64 wv), (2, .int .i64 ev)] (sb (by kernel_rfl)) ?_
  refine S_seq morainelaw01_good.k1 morainelaw01_good.k2 (by kernel_rfl) ?_
  refine S_region 0 (Code.ops morainelaw01_good.k1) (by kernel_rfl) ?_
  refine N_run 1 [(0, .slice lB lN lC), (1, .int .u64 wv), (2, .int .i64 ev)] (fun w => by kernel_rfl) ?_
  refine N_end (by kernel_rfl) ?_
  refine S_then ?_
  refine S_seq morainelaw01_good.k3 morainelaw01_good.k4 (by kernel_rfl) ?_
  refine S_seq morainelaw01_good.k5 morainelaw01_good.k6 (by kernel_rfl) ?_
  refine S_region 1 (Code.ops morainelaw01_good.k5) (by kernel_rfl) ?_
  refine N_run 2 [(0, .slice lB lN lC), (1, .int .u64 wv), (8, .bool (ev == 0))] (fun w => by kernel_rfl) ?_
  refine N_end (by kernel_rfl) ?_
  refine S_then ?_
  by_cases c1 : ev = 0
  · rw [if_pos c1] at h
    have b2 : (ev == 0) = true := beq_iff_eq.mpr c1
    refine S_env [(0, .slice lB lN lC), (1, .int .u64 wv), (8, .bool true)] (by simp only [b2, Bool.not_true, Bool.not_false]) ?_
    clear b2
    refine S_condT (.tmp 8) morainelaw01_good.k7 morainelaw01_good.k8 (by kernel_rfl) (by kernel_rfl) ?_
    refine S_region 2 (Code.ops morainelaw01_good.k7) (by kernel_rfl) ?_
    refine N_run 2 [(9, .slice lB lN lC), (10, .int .u64 wv)] (fun w => by kernel_rfl) ?_
    refine N_new (some 11) (fun b => .slice (some (Addr.mk b 0 none)) 1 1) (.cells #[.int .u64 wv] 23) (fun w => by kernel_rfl) ?_
    intro b H1 e3 e4
    replace h := h b H1 e3 e4
    refine ⟨[(9, .slice lB lN lC), (11, .slice (some (Addr.mk b 0 none)) 1 1)], ps (by kernel_rfl), ?_⟩
    refine N_op (some 12) (appendN #[39, 39] 39 #[.slice lB lN lC, .slice (some (Addr.mk b 0 none)) 1 1]) _ (fun w => by kernel_rfl) (ss_append (T := 23) (sz := 1) (bytes := 8) (zero := .int .u64 0) Try.underlying39 Try.underlying39 rfl (show Try.prog.info? 23 = some Try.t23 from by kernel_rfl) (by kernel_rfl) (by kernel_rfl) (by decide) (by kernel_rfl) h) ?_
    rintro _ H2 ⟨ap, apC, rfl, h⟩
    refine ⟨[(12, .slice ap (lN + 1) apC)], ps (by kernel_rfl), ?_⟩
    refine N_run 1 [(0, .slice ap (lN + 1) apC)] (fun w => by kernel_rfl) ?_
    refine N_end (by kernel_rfl) ?_
    refine S_then ?_
    refine S_seq morainelaw01_good.k9 morainelaw01_good.k10 (by kernel_rfl) ?_
    refine S_region 3 (Code.ops morainelaw01_good.k9) (by kernel_rfl) ?_
    refine N_run 2 [(6, .slice ap (lN + 1) apC)] (fun w => by kernel_rfl) ?_
    refine N_end (by kernel_rfl) ?_
    refine S_then ?_
    refine S_ret (by kernel_rfl) ?_
    show At _ _ _ _ (Q .ret)
    exact S_done (fn := Try.f17) [.slice ap (lN + 1) apC] hQ (show ResOK _ _ _ [.tmp 6] _ from .tmp (by kernel_rfl) (.nil)) h
  · rw [if_neg c1] at h
    have b2 : (ev == 0) = false := beq_eq_false_iff_ne.mpr c1
    refine S_env [(0, .slice lB lN lC), (1, .int .u64 wv), (8, .bool false)] (by simp only [b2, Bool.not_true, Bool.not_false]) ?_
    clear b2
    refine S_condF (.tmp 8) morainelaw01_good.k7 morainelaw01_good.k8 (by kernel_rfl) (by kernel_rfl) ?_
    refine S_skip (by kernel_rfl) ?_
    refine S_then ?_
    refine S_seq morainelaw01_good.k9 morainelaw01_good.k10 (by kernel_rfl) ?_
    refine S_region 3 (Code.ops morainelaw01_good.k9) (by kernel_rfl) ?_
    refine N_run 2 [(6, .slice lB lN lC)] (fun w => by kernel_rfl) ?_
    refine N_end (by kernel_rfl) ?_
    refine S_then ?_
    refine S_ret (by kernel_rfl) ?_
    show At _ _ _ _ (Q .ret)
    exact S_done (fn := Try.f17) [.slice lB lN lC] hQ (show ResOK _ _ _ [.tmp 6] _ from .tmp (by kernel_rfl) (.nil)) h

end Go.Proofs.Ytgofbcapgikboaa
