/-
 How many words the segments of some generations have. Proves nothing of any one statement.
-/
import Derived.Test.YtmlhlkbpglcccaaGreatTaken
set_option linter.unusedVariables false
set_option linter.unusedSimpArgs false
namespace Go.Proofs.YtmlhlkbpglcccaaGreat
open Go

def Mem.sumN(m:Mem)(l:List Nat):Int:=(l.map λi=>(m.seg i).n).sum
def Mem.words(m:Mem)(gs:List Int):Int:=m.sumN (m.takenTo gs m.limit)
theorem dP.has{m:Mem}{gs:List Int}{l:List Nat}(h:dP m gs l){i:Nat}(hi:i∈l):m.has (i:Int)/\i<m.limit/\0< (m.seg i).taken/\(gs=[]\/(m.seg i).gen∈gs):=by
 have h1:=h.perm.subset hi
 have hlt:=Mem.takenTo_lt h1
 unfold Mem.takenTo at h1
 rw[List.mem_filter]at h1
 simp only[Bool.and_eq_true,decide_eq_true_eq,Bool.or_eq_true,List.isEmpty_iff]at h1
 refine⟨⟨by omega,by omega,?_⟩,hlt,h1.2.1,h1.2.2⟩
 have:((i:Int)).toNat=i:=by omega
 rw[this];omega
theorem dP.len{m:Mem}{gs:List Int}{l:List Nat}(h:dP m gs l):l.length<=m.limit:=by
 rw[h.perm.length_eq];exact m.takenTo_len gs _
theorem jO{H:zV}{T:TypeId}{B:zW}{n c:Nat}{l:List Nat}(how:Own H T 1 B n c (ivs (l.map λi:Nat=>(i:Int)))){i:Nat}(hi:i<l.length): ∃a,B=some a/\hat H (a.add (i*1))=some (.int .i64 (l[i]:Int)):=by
 obtain⟨a,ha,h⟩:=jq how.src (i:=i) (by simpa using hi)
 exact⟨a,ha,by simpa using h⟩
