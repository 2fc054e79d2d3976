/-
 Maps whose keys are numbers or strings, said of heaps. Proves nothing of any one program.
-/
import Derived.Test.YtiebboaeaoobmaaGreatOwn
set_option linter.unusedVariables false
set_option linter.unusedSimpArgs false
namespace Go.Proofs.YtiebboaeaoobmaaGreat
open Go

structure KeyKind (α:Type) [DecidableEq α]where
 cell:α->Value
 desc:TypeDesc
 same: ∀a b,Instr.sameNow desc (cell a) (cell b)=some (decide (a=b))
 bits: ∀a,Instr.sameBits 10000 (cell a) (cell a)=true
 plain: ∀(P:Program) (t:TypeId) (e:Bool) (w:World) (a:α),P.underlying t=some desc->(Instr.checkKey e 10000 t (cell a)).run P w=.ok () w
section
variable {α:Type} [DecidableEq α] (kk:KeyKind α)
variable {kk}
variable {P:Program} {w:World}
def Born(es:Array MapEntry)(cl:Nat):Prop:=(es.toList.map (·.born)).Nodup/\ ∀e∈es.toList,e.born<cl
theorem born_modify{l:List MapEntry}{i:Nat}{f:MapEntry->MapEntry}(hf: ∀e,(f e).born=e.born):(l.modify i f).map (·.born)=l.map (·.born):=by
 induction l generalizing i with
 | nil=>simp
 | cons a l ih=>cases i<;>simp[hf,ih]
theorem Born.modify{es:Array MapEntry}{cl i:Nat}{f:MapEntry->MapEntry}(h:Born es cl)(hf: ∀e,(f e).born=e.born):Born (es.modify i f) cl:=by
 unfold Born at*
 rw[Array.toList_modify]
 refine⟨by rw[born_modify hf];exact h.1,λe he=>?_⟩
 have:e.born∈(es.toList.modify i f).map (·.born):=List.mem_map_of_mem he
 rw[born_modify hf,List.mem_map]at this
 obtain⟨e',h1,h2⟩:=this
 rw[<-h2];exact h.2 e' h1
end
