/-
  Heaps that grow, blocks that are known whole; integers in the model's spelling. Proves nothing of any one program.
-/
import Derived.Test.YthlohokmnajpoaaGreatDoorSlice
set_option linter.unusedVariables false
set_option linter.unusedSimpArgs false
namespace Go.Proofs.YthlohokmnajpoaaGreatDoor
open Go

structure Ext (H H' : Array Obj) : Prop where
  size : H.size ≤ H'.size
  old : ∀ i, i < H.size → H'[i]? = H[i]?
theorem Ext.refl (H : Array Obj) : Ext H H := ⟨Nat.le_refl _, fun _ _ => rfl⟩
theorem Ext.trans {a b c : Array Obj} (h : Ext a b) (k : Ext b c) : Ext a c :=
  ⟨Nat.le_trans h.size k.size, fun i hi => (k.old i (Nat.lt_of_lt_of_le hi h.size)).trans (h.old i hi)⟩
theorem Ext.push (H : Array Obj) (o : Obj) : Ext H (H.push o) :=
  ⟨by simp, fun i hi => by rw [Array.getElem?_push, if_neg (by omega)]⟩
theorem Ext.push' {H H' : Array Obj} {o : Obj} (h : H' = H.push o) : Ext H H' := h ▸ Ext.push H o
theorem Ext.get {H H' : Array Obj} (h : Ext H H') {b : Nat} {o : Obj} (hb : H[b]? = some o) : H'[b]? = some o := by
  have : b < H.size := by
    rcases Nat.lt_or_ge b H.size with h | h
    · exact h
    · simp [Array.getElem?_eq_none h] at hb
  rw [h.old b this]; exact hb
theorem Ext.hat {H H' : Array Obj} (h : Ext H H') {a : Addr} {v : Value} (hb : hat H a = some v) : hat H' a = some v := by
  unfold Go.Proofs.YthlohokmnajpoaaGreatDoor.hat at *
  cases hx : H[a.block]? with
  | none => simp [hx] at hb
  | some o => rw [h.get hx]; rw [hx] at hb; exact hb

theorem push_get {H H' : Array Obj} {b : Nat} {o : Obj} (hb : b = H.size) (hH : H' = H.push o) : H'[b]? = some o := by
  subst hb; subst hH; simp
theorem lt_size {H : Array Obj} {b : Nat} {o : Obj} (h : H[b]? = some o) : b < H.size := by
  rcases Nat.lt_or_ge b H.size with h' | h'
  · exact h'
  · simp [Array.getElem?_eq_none h'] at h

theorem hat_blk {H : Array Obj} {b o : Nat} {cs : Array Value} {T : TypeId} {fz : Nat × Nat} (h : H[b]? = some (.cells cs T fz)) : hat H ⟨b, o, none⟩ = cs[o]? := by
  unfold hat; simp [h]
theorem canPut_blk {H : Array Obj} {b o : Nat} {cs : Array Value} {T : TypeId} (h : H[b]? = some (.cells cs T (0, 0))) (ho : o < cs.size) : CanPut H ⟨b, o, none⟩ := by
  refine ⟨by rw [hat_blk h]; simp [ho], ?_⟩
  unfold hfz; simp [h]
theorem canPuts_blk {H : Array Obj} {b : Nat} {cs : Array Value} {T : TypeId} (h : H[b]? = some (.cells cs T (0, 0))) : ∀ (n o i : Nat), o + i + n ≤ cs.size → CanPuts H ⟨b, o, none⟩ i n
  | 0, _, _, _ => trivial
  | n + 1, o, i, hn => ⟨by rw [addr_add_mk]; exact canPut_blk h (by omega), canPuts_blk h n o (i + 1) (by omega)⟩

def setBlk (H : Array Obj) (b : Nat) (o : Obj) : Array Obj := H.setIfInBounds b o
theorem setBlk_get {H : Array Obj} {b : Nat} {o : Obj} (hb : b < H.size) : (setBlk H b o)[b]? = some o := by
  unfold setBlk; simp [hb]
theorem setBlk_other {H : Array Obj} {b b' : Nat} {o : Obj} (hb : b ≠ b') : (setBlk H b o)[b']? = H[b']? := by
  unfold setBlk; rw [Array.getElem?_setIfInBounds_ne hb]
@[simp] theorem setBlk_size {H : Array Obj} {b : Nat} {o : Obj} : (setBlk H b o).size = H.size := by unfold setBlk; simp
theorem setBlk_same {H : Array Obj} {b : Nat} {o : Obj} (h : H[b]? = some o) : setBlk H b o = H := by
  refine Array.ext_getElem? fun i => ?_
  by_cases hi : b = i
  · subst hi; rw [setBlk_get (lt_size h), h]
  · rw [setBlk_other hi]
theorem setBlk_twice {H : Array Obj} {b : Nat} {o o' : Obj} : setBlk (setBlk H b o) b o' = setBlk H b o' := by
  unfold setBlk; simp

def splice (cs : Array Value) (o : Nat) : List Value → Array Value
  | [] => cs
  | v :: vs => splice (cs.setIfInBounds o v) (o + 1) vs
@[simp] theorem splice_size (cs : Array Value) : ∀ (vs : List Value) (o : Nat), (splice cs o vs).size = cs.size
  | [], _ => rfl
  | v :: vs, o => by simp only [splice]; rw [splice_size _ vs (o + 1)]; simp
theorem splice_get_lt (cs : Array Value) : ∀ (vs : List Value) (o i : Nat), i < o → (splice cs o vs)[i]? = cs[i]?
  | [], _, _, _ => rfl
  | v :: vs, o, i, h => by simp only [splice]; rw [splice_get_lt _ vs (o + 1) i (by omega), Array.getElem?_setIfInBounds_ne (by omega)]
theorem splice_get_ge (cs : Array Value) : ∀ (vs : List Value) (o i : Nat), o + vs.length ≤ i → (splice cs o vs)[i]? = cs[i]?
  | [], _, _, _ => rfl
  | v :: vs, o, i, h => by
    simp only [List.length_cons] at h
    simp only [splice]; rw [splice_get_ge _ vs (o + 1) i (by omega), Array.getElem?_setIfInBounds_ne (by omega)]
theorem splice_get_in (cs : Array Value) : ∀ (vs : List Value) (o j : Nat), o + vs.length ≤ cs.size → j < vs.length → (splice cs o vs)[o + j]? = vs[j]?
  | [], _, _, _, h => by simp at h
  | v :: vs, o, 0, h, _ => by
    simp only [List.length_cons] at h
    simp only [splice, Nat.add_zero, List.getElem?_cons_zero]
    rw [splice_get_lt _ vs (o + 1) o (by omega)]
    have ho : o < cs.size := by omega
    simp [ho]
  | v :: vs, o, j + 1, h, hj => by
    simp only [List.length_cons] at h hj
    simp only [splice, List.getElem?_cons_succ]
    have := splice_get_in (cs.setIfInBounds o v) vs (o + 1) j (by simp; omega) (by omega)
    rw [show o + (j + 1) = o + 1 + j by omega]; exact this

theorem hput_blk {H : Array Obj} {b o : Nat} {cs : Array Value} {T : TypeId} {fz : Nat × Nat} (h : H[b]? = some (.cells cs T fz)) (v : Value) : hput H ⟨b, o, none⟩ v = setBlk H b (.cells (cs.setIfInBounds o v) T fz) := by
  refine Array.ext_getElem? fun i => ?_
  unfold hput
  rw [Array.getElem?_modify]
  by_cases hi : b = i
  · subst hi; rw [if_pos rfl, h, setBlk_get (lt_size h)]; rfl
  · rw [if_neg hi, setBlk_other hi]
theorem hputs_blk {b : Nat} {T : TypeId} {fz : Nat × Nat} : ∀ (vs : List Value) (H : Array Obj) (cs : Array Value) (o i : Nat), H[b]? = some (.cells cs T fz) → hputs H ⟨b, o, none⟩ vs i = setBlk H b (.cells (splice cs (o + i) vs) T fz)
  | [], H, cs, o, i, h => by simp only [hputs, splice]; rw [setBlk_same h]
  | v :: vs, H, cs, o, i, h => by
    simp only [hputs, addr_add_mk, splice]
    rw [hput_blk h, hputs_blk vs _ (cs.setIfInBounds (o + i) v) o (i + 1) (setBlk_get (lt_size h)), setBlk_twice, show o + (i + 1) = o + i + 1 by omega]

theorem rowAt_blk {H : Array Obj} {b : Nat} {cs : Array Value} {T : TypeId} {fz : Nat × Nat} (h : H[b]? = some (.cells cs T fz)) : ∀ (vs : List Value) (o i : Nat), (∀ j, j < vs.length → cs[o + i + j]? = vs[j]?) → RowAt H ⟨b, o, none⟩ i vs
  | [], _, _, _ => trivial
  | v :: vs, o, i, hv => ⟨by rw [addr_add_mk, hat_blk h]; have := hv 0 (by simp); simpa using this,
      rowAt_blk h vs o (i + 1) fun j hj => by have := hv (j + 1) (by simp; omega); rw [show o + (i + 1) + j = o + i + (j + 1) by omega, this]; simp⟩
theorem rowAt_hat {H : Array Obj} {a : Addr} : ∀ {vs : List Value} {i : Nat}, RowAt H a i vs → ∀ j v, vs[j]? = some v → hat H (a.add (i + j)) = some v
  | [], _, _, j, v, hv => by simp at hv
  | u :: vs, i, h, 0, v, hv => by simp at hv; subst hv; exact h.1
  | u :: vs, i, h, j + 1, v, hv => by
    have := rowAt_hat h.2 j v (by simpa using hv)
    rw [show i + (j + 1) = i + 1 + j by omega]; exact this
theorem Ext.rowAt {H H' : Array Obj} (h : Ext H H') {a : Addr} : ∀ {vs : List Value} {i : Nat}, RowAt H a i vs → RowAt H' a i vs
  | [], _, _ => trivial
  | _ :: _, _, hr => ⟨h.hat hr.1, Ext.rowAt h hr.2⟩
theorem Ext.set {H0 H : Array Obj} (h : Ext H0 H) {b : Nat} {o : Obj} (hb : H0.size ≤ b) : Ext H0 (setBlk H b o) :=
  ⟨by simpa using h.size, fun i hi => by rw [setBlk_other (by omega)]; exact h.old i hi⟩

theorem boxed {H H1 : Array Obj} {b : Nat} {cs : Array Value} {T : TypeId} {vs : List Value} {n : Nat} (hb : H[b]? = some (.cells cs T (0, 0))) (hn : cs.size = n) (hv : vs.length = n) :
    CanPuts H ⟨b, 0, none⟩ 0 n ∧ (∀ H1, H1 = hputs H ⟨b, 0, none⟩ vs 0 → RowAt H1 ⟨b, 0, none⟩ 0 vs ∧ ∀ H0 : Array Obj, Ext H0 H → H0.size ≤ b → Ext H0 H1) := by
  refine ⟨canPuts_blk hb n 0 0 (by omega), fun H1 hH => ?_⟩
  rw [hputs_blk vs H cs 0 0 hb] at hH
  subst hH
  refine ⟨rowAt_blk (setBlk_get (lt_size hb)) vs 0 0 fun j hj => ?_, fun H0 h hle => h.set hle⟩
  rw [show 0 + 0 + j = 0 + j by omega]
  exact splice_get_in cs vs 0 j (by omega) hj

theorem HC.via {P : Program} {f : FuncId} {args : Array Value} {H : Array Obj} {post : Value → Array Obj → Prop} (h : ∀ R : Value → Array Obj → Prop, (∀ v H', post v H' → R v H') → HC P f args H R) : HC P f args H post := h post fun _ _ h => h

abbrev IsWord (w : Int) : Prop := 0 ≤ w ∧ w < 18446744073709551616
theorem w64 {n : Int} (h : -9223372036854775808 ≤ n ∧ n ≤ 9223372036854775807) : IntKind.wrap .i64 n = n := Go.IntWalk.i64_in n h
theorem wu64 {n : Int} (h : 0 ≤ n ∧ n ≤ 18446744073709551615) : IntKind.wrap .u64 n = n := Go.IntWalk.u64_in n h
theorem wi32 {n : Int} (h : -2147483648 ≤ n ∧ n ≤ 2147483647) : IntKind.wrap .i32 n = n := Go.IntWalk.i32_in n h
theorem wrapU64 (n : Int) : IntKind.wrap .u64 n = n % 18446744073709551616 := by
  unfold IntKind.wrap; simp only [IntKind.bits, IntKind.signed, Bool.false_and, Bool.false_eq_true, if_false]; rfl
theorem wrapI64 (n : Int) : IntKind.wrap .i64 n = (if n % 18446744073709551616 ≥ 9223372036854775808 then n % 18446744073709551616 - 18446744073709551616 else n % 18446744073709551616) := by
  unfold IntKind.wrap
  have e1 : (2 : Int) ^ IntKind.i64.bits = 18446744073709551616 := by decide
  have e2 : (2 : Int) ^ (IntKind.i64.bits - 1) = 9223372036854775808 := by decide
  simp only [e1, e2, IntKind.signed, Bool.true_and, decide_eq_true_eq]

theorem toNat_ofInt64 {x : Int} (h0 : 0 ≤ x) (h1 : x < 18446744073709551616) : (BitVec.ofInt IntKind.u64.bits x).toNat = x.toNat := by
  rw [BitVec.toNat_ofInt]
  show (x % ((2 ^ 64 : Nat) : Int)).toNat = _
  rw [Int.emod_eq_of_lt h0 (by simpa using h1)]
theorem iand_u64 {x y : Int} (hx : 0 ≤ x ∧ x < 18446744073709551616) (hy : 0 ≤ y ∧ y < 18446744073709551616) : iand .u64 x y = ((x.toNat &&& y.toNat : Nat) : Int) := by
  unfold iand
  rw [BitVec.toNat_and, toNat_ofInt64 hx.1 hx.2, toNat_ofInt64 hy.1 hy.2]
  apply wu64
  have : x.toNat &&& y.toNat ≤ x.toNat := Nat.and_le_left
  omega
theorem ior_u64 {x y : Int} (hx : 0 ≤ x ∧ x < 18446744073709551616) (hy : 0 ≤ y ∧ y < 18446744073709551616) : ior .u64 x y = ((x.toNat ||| y.toNat : Nat) : Int) := by
  unfold ior
  rw [BitVec.toNat_or, toNat_ofInt64 hx.1 hx.2, toNat_ofInt64 hy.1 hy.2]
  apply wu64
  have : x.toNat ||| y.toNat < 2 ^ 64 := Nat.or_lt_two_pow (by omega) (by omega)
  omega
theorem iand_mask {x : Int} (b : Nat) (hb : b < 64) (hx : 0 ≤ x ∧ x < 18446744073709551616) (m : Int) (hm : m = 2 ^ b - 1) : iand .u64 x m = x % (2 ^ b : Int) := by
  have hp : (0 : Int) < 2 ^ b := Int.pow_pos (by decide)
  have hle : (2 : Nat) ^ b ≤ 2 ^ 63 := Nat.pow_le_pow_right (by decide) (by omega)
  have hcast : ((2 ^ b : Nat) : Int) = (2 : Int) ^ b := by simp
  rw [iand_u64 hx (by omega), hm]
  have e : ((2 : Int) ^ b - 1).toNat = 2 ^ b - 1 := by omega
  rw [e, Nat.and_two_pow_sub_one_eq_mod]
  have : x = (x.toNat : Int) := by omega
  rw [Int.natCast_emod, hcast, ← this]
theorem ior_add {x y : Int} (b : Nat) (hx : 0 ≤ x ∧ x < 18446744073709551616) (hd : x % (2 ^ b : Int) = 0) (hy : 0 ≤ y ∧ y < (2 ^ b : Int)) (hb : b ≤ 64) : ior .u64 x y = x + y := by
  have hcast : ((2 ^ b : Nat) : Int) = (2 : Int) ^ b := by simp
  have hle : (2 : Nat) ^ b ≤ 2 ^ 64 := Nat.pow_le_pow_right (by decide) hb
  rw [ior_u64 hx (by omega)]
  have hdn : x.toNat % 2 ^ b = 0 := by
    have : ((x.toNat % 2 ^ b : Nat) : Int) = 0 := by rw [Int.natCast_emod, hcast, show ((x.toNat : Nat) : Int) = x by omega]; exact hd
    omega
  have hq : x.toNat = 2 ^ b * (x.toNat / 2 ^ b) := by
    have := Nat.div_add_mod x.toNat (2 ^ b); omega
  have hyn : y.toNat < 2 ^ b := by omega
  rw [hq, ← Nat.two_pow_add_eq_or_of_lt hyn, ← hq]
  omega
theorem ishr_pos {k : IntKind} {x : Int} (y : Int) (n : Nat) (hy : y = n) (hn : n ≤ k.bits) : ishr k x y = x / (2 ^ n : Int) := by
  unfold ishr
  subst hy
  rw [show min (n : Int).toNat k.bits = n by rw [Int.toNat_natCast]; exact Nat.min_eq_left hn]
  rw [Int.fdiv_eq_ediv_of_nonneg _ (Int.pow_nonneg (by decide))]
theorem ishl_u64 {x : Int} (y : Int) (n : Nat) (hy : y = n) (hn : n ≤ 64) : ishl .u64 x y = (x * 2 ^ n) % 18446744073709551616 := by
  unfold ishl
  subst hy
  rw [show min (n : Int).toNat IntKind.u64.bits = n by rw [Int.toNat_natCast]; exact Nat.min_eq_left hn, wrapU64]
theorem ishl_i64 {x : Int} (y : Int) (n : Nat) (hy : y = n) (hn : n ≤ 64) : ishl .i64 x y = IntKind.wrap .i64 (x * 2 ^ n) := by
  unfold ishl
  subst hy
  rw [show min (n : Int).toNat IntKind.i64.bits = n by rw [Int.toNat_natCast]; exact Nat.min_eq_left hn]
theorem tdiv_pos {x y : Int} (hx : 0 ≤ x) : Int.tdiv x y = x / y := Int.tdiv_eq_ediv_of_nonneg hx
theorem tmod_pos {x y : Int} (hx : 0 ≤ x) : Int.tmod x y = x % y := Int.tmod_eq_emod_of_nonneg hx
end Go.Proofs.YthlohokmnajpoaaGreatDoor
