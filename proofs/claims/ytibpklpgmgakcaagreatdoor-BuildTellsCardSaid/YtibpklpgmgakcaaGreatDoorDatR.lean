/-
 A datum that is handed to a law, read as a tree. Proves nothing of any one program.
-/
import Derived.Test.YtibpklpgmgakcaaGreatDoorRead
import Derived.Test.YtibpklpgmgakcaaGreatDoorDatM
set_option linter.unusedVariables false
set_option linter.unusedSimpArgs false
namespace Go.Proofs.YtibpklpgmgakcaaGreatDoor
open Go
open Go.ChangeShapes Go.WideShapes

section
variable {Hd:Type} {enc:TypeId×Value->Hd} {P:Program} {w:World} {base:Nat} {spare:Nat->Bool} {held:Bool} {B:Nat}
def ReadsN{α:Type}(n:Nat)(enc:TypeId×Value->Hd)(P:Program)(w:World)(base:Nat)(spare:Nat->Bool)(held:Bool)(B:Nat)(t:TypeId)(r:Rdr α):Prop:=
 ∀{cs:List Value} {x:DataW Hd×List MemPlace},DataW.trod enc P w base spare held n t cs=some x->Small B x.1-> ∃y,cs=r.cells y/\r.ok B w.heap y
theorem Reads.n{α:Type}{t:TypeId}{r:Rdr α}(h:Reads enc P w base spare held B t r)(n:Nat):ReadsN n enc P w base spare held B t r:=λh1 h2=>h h1 h2
end

structure NumRd where
 neg:Bool
 mag:Sl Int
abbrev NumRd.cells(y:NumRd):List Value:=[.bool y.neg,.slice y.mag.p y.mag.n y.mag.c]
end Go.Proofs.YtibpklpgmgakcaaGreatDoor
