/-
 How many words the segments of some generations have. Proves nothing of any one statement.
-/
import Derived.Test.YtibpklpgmgakcaaGreatDoorTaken
set_option linter.unusedVariables false
set_option linter.unusedSimpArgs false
namespace Go.Proofs.YtibpklpgmgakcaaGreatDoor
open Go

def Mem.sumN(m:Mem)(l:List Nat):Int:=(l.map λi=>(m.seg i).n).sum
def Mem.words(m:Mem)(gs:List Int):Int:=m.sumN (m.takenTo gs m.limit)
theorem IsTaken.has{m:Mem}{gs:List Int}{l:List Nat}(h:IsTaken m gs l){i:Nat}(hi:i∈l):m.has (i:Int)/\i<m.limit/\0< (m.seg i).taken/\(gs=[]\/(m.seg i).gen∈gs):=by
 have h1:=h.perm.subset hi
 have hlt:=Mem.takenTo_lt h1
 unfold Mem.takenTo at h1
 rw[List.mem_filter]at h1
 simp only[Bool.and_eq_true,decide_eq_true_eq,Bool.or_eq_true,List.isEmpty_iff]at h1
 refine⟨⟨by omega,by omega,?_⟩,hlt,h1.2.1,h1.2.2⟩
 have:((i:Int)).toNat=i:=by omega
 rw[this];omega
theorem IsTaken.len{m:Mem}{gs:List Int}{l:List Nat}(h:IsTaken m gs l):l.length<=m.limit:=by
 rw[h.perm.length_eq];exact m.takenTo_len gs _
theorem words_fresh(n:Nat)(gs:List Int):(Mem.fresh n).words gs=0:=by
 unfold Mem.words
 have:(Mem.fresh n).takenTo gs (Mem.fresh n).limit=[]:=by
  unfold Mem.takenTo
  rw[List.filter_eq_nil_iff]
  intro i _
  simp[Mem.fresh,Seg.none]
 rw[this];rfl
end Go.Proofs.YtibpklpgmgakcaaGreatDoor
