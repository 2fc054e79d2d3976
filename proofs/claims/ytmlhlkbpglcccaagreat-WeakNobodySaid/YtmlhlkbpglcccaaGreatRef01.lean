/-
 Contracts of the document's answer for words (moraineref01), said of integers. Proves nothing of any one statement.
-/
import Derived.Test.YtmlhlkbpglcccaaGreatWord
set_option linter.unusedVariables false
set_option linter.unusedSimpArgs false
namespace Go.Proofs.YtmlhlkbpglcccaaGreat
open Go

def OfIs(w k t a x m:Int):Prop:=
 (w % 8=0/\k=1/\t=0/\a=0/\x=signed w / 8/\m=0)\/
 ((w % 8=1\/w % 8=2\/w % 8=3\/w % 8=6)/\w / 8<65536/\k=2/\t=w % 8/\a=w / 8/\x=0/\m=0)\/
 (w % 8=4/\w / 8 % 32<7/\w / 256=0/\k=3/\t=0/\a=w / 8 % 32/\x=0/\m=0)\/
 (w % 8=4/\w / 8 % 32=7/\jo (w / 256)=true/\k=4/\t=0/\a=w / 256/\x=0/\m=0)\/
 (w % 8=5/\(1<=w / 8 % 32/\w / 8 % 32<=13/\w / 256 % 256<=62)/\k=5/\t=w / 8 % 32/\a=w / 256 % 256/\x=0/\m=w / 65536)\/
 (mayW w=false/\k=0/\t=0/\a=0/\x=0/\m=0)

