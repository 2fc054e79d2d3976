/-
  On a heap of a law's own: strings, vectors, whatever is made; what is told of it. Proves nothing of any one statement.
-/
import Derived.Test.YthlohokmnajpoaaGreatText
import Derived.Test.YthlohokmnajpoaaGreatCons
set_option linter.unusedVariables false
set_option linter.unusedSimpArgs false
namespace Go.Proofs.YthlohokmnajpoaaGreat
open Go

theorem live_Car {H0 H : Array Obj} {b : Blk} {x : Hp} (L : Live H0 H b x) {w tag a d : Int} (t : Pr x.sp.mem w tag a d) :
    obj_Heap_Car.C (some ⟨b.h, 0, none⟩) w H (fun v H' => v = .tuple #[.int .u64 a, .int .i64 0] ∧ Ext H H') := by
  refine HC.mono (obj_Car_c L.view t.word) ?_
  rintro _ H1 ⟨rfl, e⟩
  have hm : mof (some (b, x)) = x.sp.mem := rfl
  rw [hm, t.half.1, if_pos rfl, show w / 8 + 0 = w / 8 by omega, t.car]
  exact ⟨rfl, e⟩
end Go.Proofs.YthlohokmnajpoaaGreat
