/-
  slices.SortFunc at []int, said of heaps: its contract is the library's; what it asks is laid at this program. Proves nothing of any one statement.
-/
import Derived.Test.YtillpfaabdlaiaaRows
import Derived.Test.YtillpfaabdlaiaaRow
import Derived.Shelf.SlSortCmp.NoneTotal
set_option linter.unusedVariables false
set_option linter.unusedSimpArgs false
namespace Go.Proofs.Ytillpfaabdlaiaa
open Go Go.Shelf Go.RowKit Go.Lib Go.Sort Go.Proofs

def sortInts_ren : Go.Shelf.Ren := ⟨fun | 6 => 58 | 15 => 74 | 14 => 73 | 28 => 85 | 29 => 86 | 20 => 77 | 21 => 78 | 22 => 79 | 23 => 80 | 24 => 81 | 25 => 82 | 26 => 83 | 27 => 84 | 46 => 87 | 47 => 88 | 48 => 89 | 49 => 90 | 50 => 91 | 57 => 92 | n => n, fun | 22 => 90 | 24 => 3 | 25 => 123 | 3 => 3 | 39 => 50 | 0 => 0 | 53 => 77 | 55 => 31 | 4 => 4 | 46 => 144 | 45 => 143 | 50 => 51 | 5 => 5 | 9 => 9 | 66 => 151 | 70 => 155 | 76 => 157 | 77 => 158 | n => n, fun | n => n⟩
theorem sortInts : Go.Proofs.SlLaysF.n6 Try.prog sortInts_ren := {
  mixed := by kernel_rfl
  f6 := ⟨Try.f58.name, by decide, Try.func58.trans (congrArg some (by kernel_rfl))⟩
  f14 := ⟨Try.f73.name, by decide, Try.func73.trans (congrArg some (by kernel_rfl))⟩
  f15 := Try.func74.trans (congrArg some (by kernel_rfl))
  f20 := ⟨Try.f77.name, by decide, Try.func77.trans (congrArg some (by kernel_rfl))⟩
  f21 := ⟨Try.f78.name, by decide, Try.func78.trans (congrArg some (by kernel_rfl))⟩
  f22 := ⟨Try.f79.name, by decide, Try.func79.trans (congrArg some (by kernel_rfl))⟩
  f23 := ⟨Try.f80.name, by decide, Try.func80.trans (congrArg some (by kernel_rfl))⟩
  f24 := ⟨Try.f81.name, by decide, Try.func81.trans (congrArg some (by kernel_rfl))⟩
  f25 := ⟨Try.f82.name, by decide, Try.func82.trans (congrArg some (by kernel_rfl))⟩
  f26 := ⟨Try.f83.name, by decide, Try.func83.trans (congrArg some (by kernel_rfl))⟩
  f27 := ⟨Try.f84.name, by decide, Try.func84.trans (congrArg some (by kernel_rfl))⟩
  f28 := Try.func85.trans (congrArg some (by kernel_rfl))
  f29 := Try.func86.trans (congrArg some (by kernel_rfl))
  f46 := ⟨Try.f87.name, by decide, Try.func87.trans (congrArg some (by kernel_rfl))⟩
  f47 := Try.func88.trans (congrArg some (by kernel_rfl))
  f48 := Try.func89.trans (congrArg some (by kernel_rfl))
  f49 := ⟨Try.f90.name, by decide, Try.func90.trans (congrArg some (by kernel_rfl))⟩
  f50 := ⟨Try.f91.name, by decide, Try.func91.trans (congrArg some (by kernel_rfl))⟩
  f57 := ⟨Try.f92.name, by decide, Try.func92.trans (congrArg some (by kernel_rfl))⟩
  t0 := Try.underlying0
  a0 := Try.isAgg0
  z0 := Try.sizeOf0
  v0 := Try.zeroValue0
  t3 := Try.underlying3
  a3 := Try.isAgg3
  z3 := Try.sizeOf3
  v3 := Try.zeroValue3
  t4 := Try.underlying4
  a4 := Try.isAgg4
  z4 := Try.sizeOf4
  v4 := Try.zeroValue4
  t5 := Try.underlying5
  a5 := Try.isAgg5
  z5 := Try.sizeOf5
  v5 := Try.zeroValue5
  t9 := Try.underlying9
  a9 := Try.isAgg9
  z9 := Try.sizeOf9
  v9 := Try.zeroValue9
  t22 := Try.underlying90
  a22 := Try.isAgg90
  z22 := Try.sizeOf90
  v22 := Try.zeroValue90
  a24 := Try.isAgg3
  z24 := Try.sizeOf3
  t25 := Try.underlying123
  a25 := Try.isAgg123
  z25 := Try.sizeOf123
  v25 := Try.zeroValue123
  t39 := Try.underlying50
  a39 := Try.isAgg50
  z39 := Try.sizeOf50
  v39 := Try.zeroValue50
  t45 := Try.underlying143
  a45 := Try.isAgg143
  z45 := Try.sizeOf143
  v45 := Try.zeroValue143
  t46 := Try.underlying144
  a46 := Try.isAgg144
  z46 := Try.sizeOf144
  v46 := Try.zeroValue144
  t50 := Try.underlying51
  a50 := Try.isAgg51
  z50 := Try.sizeOf51
  v50 := Try.zeroValue51
  t53 := Try.underlying77
  a53 := Try.isAgg77
  z53 := Try.sizeOf77
  v53 := Try.zeroValue77
  t55 := Try.underlying31
  a55 := Try.isAgg31
  z55 := Try.sizeOf31
  v55 := Try.zeroValue31
  t66 := Try.underlying151
  a66 := Try.isAgg151
  z66 := Try.sizeOf151
  v66 := Try.zeroValue151
  t70 := Try.underlying155
  a70 := Try.isAgg155
  z70 := Try.sizeOf155
  v70 := Try.zeroValue155
  t76 := Try.underlying157
  a76 := Try.isAgg157
  z76 := Try.sizeOf157
  v76 := Try.zeroValue157
  t77 := Try.underlying158
  a77 := Try.isAgg158
  z77 := Try.sizeOf158
  v77 := Try.zeroValue158 }


theorem sort_none_c {H : Array Obj} {p : Option Addr} {c : Nat} {fv : Value} : HC Try.prog 58 #[.slice p 0 c, fv] H (fun v H' => v = .tuple #[] ∧ H' = H) := fun w hw => by
  have h := AnyF.slices_SortFunc_none (P := Try.prog) (ρ := sortInts_ren) { sortInts with } p c fv w
  exact h.mono fun e w' ⟨he, hw'⟩ => ⟨_, he, by subst hw'; exact Same.refl _, rfl, by rw [hw']; exact hw⟩

theorem world_grow {w w' : World} (s : Same w w') (e : Ext w.heap w'.heap) : ∃ q os', w' = grow (w.drewN q) os' := by
  refine ⟨w'.drawn - w.drawn, w'.heap.extract w.heap.size w'.heap.size, ?_⟩
  obtain ⟨h1, h2, h3, h4⟩ := s
  cases w with
  | mk heap tape drawn os output =>
  cases w' with
  | mk heap' tape' drawn' os' output' =>
  simp only at h1 h2 h3 h4 e
  subst h1 h2 h3
  have hd : drawn + (drawn' - drawn) = drawn' := by omega
  have hh : heap ++ heap'.extract heap.size heap'.size = heap' := by
    refine Array.ext_getElem? fun i => ?_
    have hs := e.size
    rcases Nat.lt_or_ge i heap.size with h | h
    · rw [Array.getElem?_append_left h, e.old i h]
    · rw [Array.getElem?_append_right h, Array.getElem?_extract]
      split
      · congr 1; omega
      · rw [Array.getElem?_eq_none (by omega)]
  simp only [grow, World.drewN, hd, hh]

variable {k : Nat}
def encF (i : Fin (k + 1)) : Value := .int .i64 (i.val : Int)
theorem modify_self {H : Array Obj} {b i : Nat} {f : Obj → Obj} : (H.modify b f)[i]? = if b = i then H[i]?.map f else H[i]? := by
  rw [Array.getElem?_modify]
theorem sort_c {H : Array Obj} {T : TypeId} {b n c g : Nat} {cb : Array Value} {xs : List (Fin (k + 1))} {tk : Fin (k + 1) → Int} (how : Own H T 1 (some ⟨b, 0, none⟩) n c (xs.map encF)) (hn : n < 4611686018427387904)
    (eg : ∀ args w, (callFunc g args).run Try.prog w = .ok (.enter g args) w)
    (hcl : ∀ H', Fr [b] H H' → ∀ x y : Fin (k + 1), HC Try.prog g (#[encF x, encF y] ++ cb) H' (fun v H'' => v = .int .i64 (Lib.compareInt (tk x) (tk y)) ∧ Ext H' H'')) :
    HC Try.prog 58 #[.slice (some ⟨b, 0, none⟩) n c, .func (.func g) #[] cb] H (fun v H' => v = .tuple #[] ∧ ∃ ys : List (Fin (k + 1)), ys.Perm xs ∧ ys.Pairwise (fun x y => tk x ≤ tk y) ∧ Own H' T 1 (some ⟨b, 0, none⟩) n c (ys.map encF) ∧ Fr [b] H H') := fun w hw => by
  subst hw
  have hlen := how.len
  simp only [List.length_map, Nat.mul_one] at hlen
  obtain ⟨_, cs, hb, hcs, hnc, hl, hc⟩ := how
  have hblt := lt_size hb
  have hcell : ∀ (d : Array (Fin (k + 1))), d.size = n → ∀ m os, (sortWorld encF w b 0 m d os).heap = (w.heap.modify b (onCells (putCells encF 0 d))) ++ os := fun d hd m os => rfl
  have hget : ∀ (d : Array (Fin (k + 1))) (os : Array Obj), ((w.heap.modify b (onCells (putCells encF 0 d))) ++ os)[b]? = some (.cells (putCells encF 0 d cs) T (0, 0)) := fun d os => by
    rw [Array.getElem?_append_left (by simpa using hblt), modify_self, if_pos rfl, hb]; rfl
  have hfr : ∀ (d : Array (Fin (k + 1))) (os : Array Obj), Fr [b] w.heap ((w.heap.modify b (onCells (putCells encF 0 d))) ++ os) := fun d os => by
    refine ⟨by simp, fun i hi hn => ?_⟩
    rw [Array.getElem?_append_left (by simpa using hi), modify_self, if_neg (by simp at hn; omega)]
  have hO : SWO (ltOf fun x y : Fin (k + 1) => Lib.compareInt (tk x) (tk y)) := by
    have e : ∀ x y, ltOf (fun x y : Fin (k + 1) => Lib.compareInt (tk x) (tk y)) x y = decide (tk x < tk y) := fun x y => by
      unfold ltOf Lib.compareInt
      by_cases h1 : tk x < tk y
      · simp [h1]
      · by_cases h2 : tk y < tk x <;> simp [h1, h2]
    exact ⟨fun x => by rw [e]; simp, fun x y z h1 h2 => by rw [e] at *; simp at *; omega, fun x y z h1 h2 => by rw [e] at *; simp at *; omega⟩
  have hH : Holds encF w b 0 xs.toArray := fun j hj => by
    have hj' : j < xs.length := by simpa using hj
    have h1 := hc j (by omega)
    rw [List.getElem?_map, List.getElem?_eq_getElem hj'] at h1
    refine ⟨?_, ?_⟩
    · unfold World.cell?
      simp only [hb]
      simp only [Option.isSome_none, Bool.false_eq_true, if_false, Nat.zero_add]
      rw [h1]
      simp [getElem!_pos xs.toArray j hj]
    · unfold World.frozen?
      simp only [hb]
      simp
  have hcmp : CmpLays1 Try.prog g cb encF (fun x y : Fin (k + 1) => Lib.compareInt (tk x) (tk y)) b 0 xs.toArray.size w := fun m os dk hdk x y => by
    refine (hcl _ (by rw [hcell dk (by simpa using hdk.trans (by simpa using hlen))]; exact hfr dk os) x y _ rfl).mono ?_
    rintro e w' ⟨v, rfl, hs, rfl, he⟩
    exact ⟨rfl, world_grow hs he⟩
  have h := Any.slices_SortFunc sortInts encF (fun _ => rfl) (fun x y : Fin (k + 1) => Lib.compareInt (tk x) (tk y)) hO g cb b 0 c xs.toArray w eg hcmp hH hblt (by simpa using (by omega : xs.length < 4611686018427387904))
  rw [show xs.toArray.size = n by simpa using hlen] at h
  refine h.mono ?_
  rintro e w' ⟨rfl, d', m, os, hp, hs, rfl⟩
  have hd : d'.size = n := by rw [hp.1]; simpa using hlen
  refine ⟨_, rfl, ⟨rfl, rfl, rfl, Nat.le_add_right _ _⟩, rfl, d'.toList, ?_, ?_, ?_, hfr d' os⟩
  · have h1 := hp.2.2
    simp only [Array.extract_eq_self_of_le, hd, Nat.le_refl] at h1
    have e2 : ((xs.toArray).extract 0 n).toList = xs := by rw [show n = xs.toArray.size by simp; omega]; simp
    rw [e2] at h1
    exact h1
  · rw [List.pairwise_iff_getElem]
    intro i j hi hj hij
    have h1 := hs i j (Nat.zero_le _) hij (by simpa using (by simpa [hd] using hj))
    unfold ltOf Lib.compareInt at h1
    rw [getElem!_pos d' i (by simpa using hi), getElem!_pos d' j (by simpa using hj)] at h1
    simp only [Array.getElem_toList]
    by_cases h2 : tk d'[j] < tk d'[i]
    · simp [h2] at h1
    · omega
  · refine ⟨rfl, _, hget d' os, by simp [putCells, hcs], hnc, by simp [hd], fun j hj => ?_⟩
    have hjc : j < cs.size := by omega
    simp only [putCells, Array.getElem?_mapIdx, Array.getElem?_eq_getElem hjc, Option.map_some]
    rw [if_pos ⟨Nat.zero_le _, by omega⟩, Nat.sub_zero, getElem!_pos d' j (by omega)]
    simp [List.getElem?_eq_getElem (show j < d'.toList.length by simp; omega)]
end Go.Proofs.Ytillpfaabdlaiaa
