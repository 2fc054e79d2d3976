/-
 The segments that are taken, in the order in which they were; how many words they have. Proves nothing of any one statement.
-/
import Derived.Test.YtibpklpgmgakcaaGreatDoorRows
import Derived.Test.YtibpklpgmgakcaaGreatDoorRow
import Derived.Test.YtibpklpgmgakcaaGreatDoorPair
import Derived.Test.YtibpklpgmgakcaaGreatDoorLx
import Derived.Test.YtibpklpgmgakcaaGreatDoorFnsC
set_option linter.unusedVariables false
set_option linter.unusedSimpArgs false
namespace Go.Proofs.YtibpklpgmgakcaaGreatDoor
open Go

def ivs(l:List Int):List Value:=l.map (Value.int .i64)
theorem allOne_ivs(l:List Int):allOne (ivs l)=true:=by
 induction l with
 | nil=>rfl
 | cons x l ih=>simpa[ivs,allOne]using ih
def Mem.takenTo(m:Mem)(gs:List Int)(k:Nat):List Nat:=(List.range k).filter λi=>decide (0< (m.seg i).taken) && (gs.isEmpty || decide ((m.seg i).gen∈gs))
structure IsTaken (m:Mem) (gs:List Int) (l:List Nat):Prop where
 perm:l.Perm (m.takenTo gs m.limit)
 sorted:l.Pairwise (λi j=>(m.seg i).taken<=(m.seg j).taken)
theorem Mem.takenTo_lt{m:Mem}{gs:List Int}{k i:Nat}(h:i∈m.takenTo gs k):i<k:=by
 unfold Mem.takenTo at h;rw[List.mem_filter,List.mem_range]at h;exact h.1
theorem Mem.takenTo_len(m:Mem)(gs:List Int)(k:Nat):(m.takenTo gs k).length<=k:=by
 unfold Mem.takenTo;refine Nat.le_trans (List.length_filter_le _ _) (by simp)
end Go.Proofs.YtibpklpgmgakcaaGreatDoor
