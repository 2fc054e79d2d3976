/-
 A string that is ranged over, runes that become a string, said of heaps. Proves nothing of any one program.
-/
import Derived.Laws.Externs
import Derived.Test.YtiebboaeaoobmaaGreatOwn
import Derived.Laws.IdiomStrings
set_option linter.unusedVariables false
set_option linter.unusedSimpArgs false
namespace Go.Proofs.YtiebboaeaoobmaaGreat
open Go

def nj(it:Value)(st:Bool)(ty:TypeId):Sem Next:=do pure (.value (<-Instr.next it st ty))
theorem lE{P:Program}{w:World}{r pos:Nat}{s:ByteArray}(h:w.heap[r]?=some (.stringIter s pos)):(getObj r).run P w=.ok (.stringIter s pos) w:=by
 show Sem.run P (Sem.getObj r Sem.pure) w=_
 simp only[Sem.run,h]
theorem ox{P:Program}{w:World}{r pos:Nat}{s:ByteArray}{o:Obj}(h:w.heap[r]?=some (.stringIter s pos)):(setObj r o).run P w=.ok () {w with heap:=w.heap.setIfInBounds r o}:=by
 show Sem.run P (Sem.setObj r o (Sem.pure ())) w=_
 simp only[Sem.run,h]
theorem su{P:Program}{H:zV}{b:Nat}{s:ByteArray}{pos:Nat}{ty:TypeId}(hb:H[b]?=some (.stringIter s pos))(hp:pos<s.size):
  SS P (nj (.pointer (some ⟨b,0,none⟩)) true ty) H (λv H'=>v=.tuple #[.bool true,.int .i64 pos,.int .i32 (Utf8.decode s pos).1]/\H'=aV H b (.stringIter s (pos+(Utf8.decode s pos).2))):=λw hw=>by
 have hb':w.heap[b]?=some (.stringIter s pos):=by rw[hw];exact hb
 refine⟨_,{w with heap:=w.heap.setIfInBounds b (.stringIter s (pos+(Utf8.decode s pos).2))},?_,⟨rfl,rfl,rfl,Nat.le_refl _⟩,rfl,by rw[<-hw];rfl⟩
 unfold nj Instr.next
 simp only[bind_assoc]
 rw[run_bind_ok (lE hb')]
 simp only[hp,if_true]
 rw[bind_assoc,run_bind_ok (ox hb')]
 rfl
theorem rm{P:Program}{H:zV}{b:Nat}{s:ByteArray}{pos:Nat}{ty:TypeId}(hb:H[b]?=some (.stringIter s pos))(hp: ¬pos<s.size):
  SS P (nj (.pointer (some ⟨b,0,none⟩)) true ty) H (λv H'=>v=.tuple #[.bool false]/\H'=H):=λw hw=>by
 have hb':w.heap[b]?=some (.stringIter s pos):=by rw[hw];exact hb
 refine⟨_,w,?_,Same.refl w,rfl,hw⟩
 unfold nj Instr.next
 simp only[bind_assoc]
 rw[run_bind_ok (lE hb')]
 simp only[hp,if_false]
 rfl

