/-
  Written by a program of mine (gen.py): for functions of this translation a predicate transformer over heaps (.pt), and the proof that it is sound for the call (.link).
-/
import Derived.Test.YthlohokmnajpoaaFnsC
set_option linter.unusedSimpArgs false
set_option linter.unusedVariables false
set_option maxHeartbeats 1000000
noncomputable section
namespace Go.Proofs.Ythlohokmnajpoaa
open Go
/-! moraine/lists.find -/
namespace lists_pairs
def kk0 := Func.code Try.f31
def kk1 := Code.fa kk0
def kk2 := Code.fb kk0
def kk3 := Code.fa kk2
def kk4 := Code.fb kk2
end lists_pairs
def lists_pairs.pt (hv : Option Addr) (wv : Int) (H : Array Obj) (R : Value → Array Obj → Prop) : Prop :=
 ∀ (b : Nat) (H1 : Array Obj), b = H.size → H1 = H.push (.cells #[.pointer hv] 23) →
 ∀ (b_2 : Nat) (H2 : Array Obj), b_2 = H1.size → H2 = H1.push (.cells #[.int .u64 wv] 31) →
 R (.func (.func 47) #[] #[.pointer (some (Addr.mk b 0 none)), .pointer (some (Addr.mk b_2 0 none))]) H2
namespace lists_pairs
set_option maxRecDepth 100000 in
theorem link {hv : Option Addr} {wv : Int} {H : Array Obj} {R : Value → Array Obj → Prop} (h : pt hv wv H R) : C hv wv H R := by
  refine S_enter (fn := Try.f31) (c := kk0) 6 Try.func31 (by kernel_rfl) (by kernel_rfl) (Nat.le_of_ble_eq_true (by kernel_rfl)) ?_
  intro w0 Q hQ
  unfold pt at h
  refine S_sub [(0, .pointer hv), (1, .int .u64 wv)] (sb (by kernel_rfl)) ?_
  refine S_seq kk1 kk2 (by kernel_rfl) ?_
  refine S_region 0 (Code.ops kk1) (by kernel_rfl) ?_
  refine N_new (some 2) (fun b => .pointer (some (Addr.mk b 0 none))) (.cells #[.pointer hv] 23) (fun w => by kernel_rfl) ?_
  intro b H1 e1 e2
  replace h := h b H1 e1 e2
  refine ⟨[(1, .int .u64 wv), (2, .pointer (some (Addr.mk b 0 none)))], ps (by kernel_rfl), ?_⟩
  refine N_new (some 3) (fun b => .pointer (some (Addr.mk b 0 none))) (.cells #[.int .u64 wv] 31) (fun w => by kernel_rfl) ?_
  intro b_2 H2 e3 e4
  replace h := h b_2 H2 e3 e4
  refine ⟨[(2, .pointer (some (Addr.mk b 0 none))), (3, .pointer (some (Addr.mk b_2 0 none)))], ps (by kernel_rfl), ?_⟩
  refine N_run 1 [(2, .pointer (some (Addr.mk b 0 none))), (3, .pointer (some (Addr.mk b_2 0 none)))] (fun w => by kernel_rfl) ?_
  refine N_end (by kernel_rfl) ?_
  refine S_then ?_
  refine S_seq kk3 kk4 (by kernel_rfl) ?_
  refine S_region 1 (Code.ops kk3) (by kernel_rfl) ?_
  refine N_run 2 [(4, .func (.func 47) #[] #[.pointer (some (Addr.mk b 0 none)), .pointer (some (Addr.mk b_2 0 none))])] (fun w => by kernel_rfl) ?_
  refine N_end (by kernel_rfl) ?_
  refine S_then ?_
  refine S_ret (by kernel_rfl) ?_
  show At _ _ _ _ _ (Q .ret)
  exact S_done (fn := Try.f31) [.func (.func 47) #[] #[.pointer (some (Addr.mk b 0 none)), .pointer (some (Addr.mk b_2 0 none))]] hQ (show ResOK _ _ _ [.tmp 4] _ from .tmp (by kernel_rfl) (.nil)) h
end lists_pairs

end Go.Proofs.Ythlohokmnajpoaa
