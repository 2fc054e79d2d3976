/-
  A string that is ranged over, runes that become a string, said of heaps. Proves nothing of any one program.
-/
import Derived.Laws.Externs
import Derived.Test.YthlohokmnajpoaaGreatDoorOwn
import Derived.Laws.IdiomStrings
set_option linter.unusedVariables false
set_option linter.unusedSimpArgs false
namespace Go.Proofs.YthlohokmnajpoaaGreatDoor
open Go

def nextN (it : Value) (st : Bool) (ty : TypeId) : Sem Next := do pure (.value (← Instr.next it st ty))
theorem getObj_iter {P : Program} {w : World} {r pos : Nat} {s : ByteArray} (h : w.heap[r]? = some (.stringIter s pos)) : (getObj r).run P w = .ok (.stringIter s pos) w := by
  show Sem.run P (Sem.getObj r Sem.pure) w = _
  simp only [Sem.run, h]
theorem setObj_iter {P : Program} {w : World} {r pos : Nat} {s : ByteArray} {o : Obj} (h : w.heap[r]? = some (.stringIter s pos)) : (setObj r o).run P w = .ok () { w with heap := w.heap.setIfInBounds r o } := by
  show Sem.run P (Sem.setObj r o (Sem.pure ())) w = _
  simp only [Sem.run, h]
theorem next_go {P : Program} {H : Array Obj} {b : Nat} {s : ByteArray} {pos : Nat} {ty : TypeId} (hb : H[b]? = some (.stringIter s pos)) (hp : pos < s.size) :
    SS P (nextN (.pointer (some ⟨b, 0, none⟩)) true ty) H (fun v H' => v = .tuple #[.bool true, .int .i64 pos, .int .i32 (Utf8.decode s pos).1] ∧ H' = setBlk H b (.stringIter s (pos + (Utf8.decode s pos).2))) := fun w hw => by
  have hb' : w.heap[b]? = some (.stringIter s pos) := by rw [hw]; exact hb
  refine ⟨_, { w with heap := w.heap.setIfInBounds b (.stringIter s (pos + (Utf8.decode s pos).2)) }, ?_, ⟨rfl, rfl, rfl, Nat.le_refl _⟩, rfl, by rw [← hw]; rfl⟩
  unfold nextN Instr.next
  simp only [bind_assoc]
  rw [run_bind_ok (getObj_iter hb')]
  simp only [hp, if_true]
  rw [bind_assoc, run_bind_ok (setObj_iter hb')]
  rfl
theorem next_end {P : Program} {H : Array Obj} {b : Nat} {s : ByteArray} {pos : Nat} {ty : TypeId} (hb : H[b]? = some (.stringIter s pos)) (hp : ¬ pos < s.size) :
    SS P (nextN (.pointer (some ⟨b, 0, none⟩)) true ty) H (fun v H' => v = .tuple #[.bool false] ∧ H' = H) := fun w hw => by
  have hb' : w.heap[b]? = some (.stringIter s pos) := by rw [hw]; exact hb
  refine ⟨_, w, ?_, Same.refl w, rfl, hw⟩
  unfold nextN Instr.next
  simp only [bind_assoc]
  rw [run_bind_ok (getObj_iter hb')]
  simp only [hp, if_false]
  rfl

def runesStr (rs : List Int) : ByteArray := rs.foldl (fun s n => s ++ Utf8.encode n) ByteArray.empty
def convertN (src dst : TypeId) (x : Value) : Sem Next := do pure (.value (← convert src dst x))
theorem runes_loop {P : Program} {w : World} (f : Value → ByteArray → Sem (ForInStep ByteArray)) (hf : ∀ n s, f (.int .i32 n) s = pure (ForInStep.yield (s ++ Utf8.encode n))) : ∀ (rs : List Int) (s : ByteArray),
    (forIn (rs.map (Value.int .i32)) s f).run P w = .ok (rs.foldl (fun s n => s ++ Utf8.encode n) s) w
  | [], s => rfl
  | r :: rs, s => by
    simp only [List.map_cons, List.forIn_cons, List.foldl_cons]
    rw [hf]
    exact runes_loop f hf rs (s ++ Utf8.encode r)
theorem runesToString_run {P : Program} {w : World} {b : Option Addr} {n c : Nat} {rs : List Int} (h : SrcAt w.heap b (rs.map (Value.int .i32))) (hl : b ≠ none → rs.length = n) : (Conv.runesToString (.slice b n c)).run P w = .ok (.string (runesStr rs)) w := by
  cases b with
  | none =>
    have : rs.map (Value.int .i32) = [] := h
    simp at this
    subst this
    rfl
  | some a =>
    have hn := hl (by simp)
    unfold Conv.runesToString
    simp only
    have h1 : (loadCells a n).run P w = .ok (rs.map (Value.int .i32)).toArray w := by
      unfold loadCells
      have := loadCells_run (P := P) (rs.map (Value.int .i32)) 0 #[] h
      rw [List.length_map, hn] at this
      simpa using this
    rw [run_bind_ok h1]
    rw [List.forIn_toArray]
    refine (run_bind_ok (runes_loop _ (fun n s => rfl) rs ByteArray.empty)).trans ?_
    rfl
theorem convert_runes {P : Program} {w : World} {sT dT e : TypeId} {b : Option Addr} {n c : Nat} {rs : List Int} (hs : P.underlying sT = some (.slice e)) (hd : P.underlying dT = some .string) (he : P.underlying e = some (.int .i32)) (h : SrcAt w.heap b (rs.map (Value.int .i32))) (hl : b ≠ none → rs.length = n) :
    (convertN sT dT (.slice b n c)).run P w = .ok (.value (.string (runesStr rs))) w := by
  have us : ∀ w, (underlying sT).run P w = .ok (.slice e) w := fun w => by simp [underlying, program, Sem.run, hs, Sem.run_bind, pure, Result.andThen]
  have ud : ∀ w, (underlying dT).run P w = .ok .string w := fun w => by simp [underlying, program, Sem.run, hd, Sem.run_bind, pure, Result.andThen]
  have ue : ∀ w, (underlying e).run P w = .ok (.int .i32) w := fun w => by simp [underlying, program, Sem.run, he, Sem.run_bind, pure, Result.andThen]
  unfold convertN convert
  simp only [bind_assoc]
  rw [run_bind_ok (us w), run_bind_ok (ud w)]
  simp only [bind_assoc]
  rw [run_bind_ok (ue w)]
  simp only []
  rw [run_bind_ok (runesToString_run h hl)]
  rfl

theorem runesFrom_ints (s : ByteArray) : ∀ (k i : Nat) (acc : Array Value), ∃ rs : List Int, (Conv.runesFrom s k i acc).toList = acc.toList ++ rs.map (Value.int .i32)
  | 0, _, acc => ⟨[], by simp [Conv.runesFrom]⟩
  | k + 1, i, acc => by
    unfold Conv.runesFrom
    by_cases h : i < s.size
    · rw [if_pos h]
      obtain ⟨rs, e⟩ := runesFrom_ints s k (i + (Utf8.decode s i).2) (acc.push (.int .i32 (Int.ofNat (Utf8.decode s i).1)))
      exact ⟨Int.ofNat (Utf8.decode s i).1 :: rs, by rw [e]; simp⟩
    · rw [if_neg h]; exact ⟨[], by simp⟩
def torunesK (e : TypeId) (s : ByteArray) (H : Array Obj) (K : Option Addr → Nat → Nat → Array Obj → Prop) : Prop :=
  ∀ rs : List Int, Conv.runesFrom s s.size 0 #[] = (rs.map (Value.int .i32)).toArray → rs.length ≤ 70368744177664 ∧
    ∀ (c b : Nat) (H' : Array Obj), rs.length ≤ c → b = H.size → H' = H.push (.cells ((rs.map (Value.int .i32)).toArray ++ Array.replicate (c - rs.length) (.int .i32 0)) e) → K (some ⟨b, 0, none⟩) rs.length c H'
theorem ss_torunes {P : Program} {H : Array Obj} {src dst e : TypeId} {s : ByteArray} {K : Option Addr → Nat → Nat → Array Obj → Prop} (hs : P.underlying src = some .string) (hd : P.underlying dst = some (.slice e)) (he : P.underlying e = some (.int .i32))
    (h : torunesK e s H K) : SS P (convertN src dst (.string s)) H (fun v H' => ∃ b n c, v = .slice b n c ∧ K b n c H') := fun w hw => by
  obtain ⟨rs, hrs⟩ := runesFrom_ints s s.size 0 #[]
  have hrs : Conv.runesFrom s s.size 0 #[] = (rs.map (Value.int .i32)).toArray := by apply Array.toList_inj.1; rw [hrs]; simp
  obtain ⟨h46, hk⟩ := h rs hrs
  have hn : (Conv.runesFrom s s.size 0 #[]).size = rs.length := by rw [hrs]; simp
  have hrun := run_runes_of_string (P := P) w src dst e s hs hd he (by rw [hn]; exact h46)
  rw [hn, hrs] at hrun
  refine ⟨_, w.drew.alloc (.cells ((rs.map (Value.int .i32)).toArray ++ Array.replicate (grownCap w rs.length 0 e - rs.length) (.int .i32 0)) e), ?_, ⟨rfl, rfl, rfl, Nat.le_succ _⟩, some ⟨w.heap.size, 0, none⟩, rs.length, grownCap w rs.length 0 e, rfl, ?_⟩
  · unfold convertN; rw [run_bind_ok hrun]; rfl
  · exact hk _ _ _ (grownCap_ge w rs.length 0 e) (by rw [hw]) (by rw [← hw]; rfl)
theorem indexByte_run {P : Program} {f : FuncId} {fn : Func} (hf : P.funcs[f]? = some fn) (hname : (fn.name == "runtime.NumGoroutine") = false) (hb : fn.body.isNone = true) (hn : Extern.findNext fn = none)
    (he : Extern.find fn = some Extern.BytealgIndexByte.indexByte) (s : ByteArray) (c : Int) (w : World) : (callFunc f #[.string s, .int .u8 c]).run P w = .ok (.value (.int .i64 (firstIdx s c.toNat.toUInt8))) w := by
  rw [run_callFunc_extern hf hname hb hn he, run_indexByte_string]; rfl
end Go.Proofs.YthlohokmnajpoaaGreatDoor
