/- A reader of what is handed in, printed by a program of mine (openr.py). -/
import Derived.Test.YtmlhlkbpglcccaaGreatRead
set_option linter.unusedVariables false
set_option linter.unusedSimpArgs false
namespace Go.Proofs.YtmlhlkbpglcccaaGreat
open Go
open Go.ChangeShapes Go.WideShapes

structure dw where
 obj:Int
 guardian:Int
abbrev dw.cells(rr:dw):List Value:=[.int .u64 rr.obj,.int .u64 rr.guardian]
structure dw.OK (B:Nat) (H:zV) (rr:dw):Prop where
 obj:(intR .u64).ok B H rr.obj
 guardian:(intR .u64).ok B H rr.guardian
def j2:Rdr dw:=⟨dw.cells,dw.OK,λe h=>⟨(intR .u64).mono e h.obj,(intR .u64).mono e h.guardian⟩⟩
set_option maxRecDepth 100000 in
theorem kg{Hd:Type}{enc:TypeId×Value->Hd}{w:World}{base:Nat}{spare:Nat->Bool}{held:Bool}{B:Nat}:Reads enc Tryz.prog w base spare held B 36 j2:=λ{fuel cs x} h hs=>by
 have csn:Tryz.prog.cellsOf 36=2:=by kernel_rfl
 obtain⟨hlen,hf⟩:=nb Tryz.underlying36 h hs
 rw[csn]at hlen
 match cs,hlen with
 | [a0,a1],_=>
  obtain⟨n0,y0,g0,s0⟩:=hf 0 _ rfl
  have c0:Tryz.prog.cellsOf 28=1:=by kernel_rfl
  have e0:([a0,a1].drop 0).take (Tryz.prog.cellsOf 28)=[a0]:=by rw[c0];rfl
  replace g0:DataW.trod enc Tryz.prog w base spare held n0 28 [a0]=some y0:=by rw[<-e0];exact g0
  obtain⟨z0,k0,o0⟩:=(kA Tryz.underlying28:Reads enc Tryz.prog w base spare held B 28 (intR .u64)) g0 s0
  obtain⟨n1,y1,g1,s1⟩:=hf 1 _ rfl
  have c1:Tryz.prog.cellsOf 28=1:=by kernel_rfl
  have e1:([a0,a1].drop 1).take (Tryz.prog.cellsOf 28)=[a1]:=by rw[c1];rfl
  replace g1:DataW.trod enc Tryz.prog w base spare held n1 28 [a1]=some y1:=by rw[<-e1];exact g1
  obtain⟨z1,k1,o1⟩:=(kA Tryz.underlying28:Reads enc Tryz.prog w base spare held B 28 (intR .u64)) g1 s1
  cases k0
  cases k1
  exact⟨⟨z0,z1⟩,rfl,⟨o0,o1⟩⟩
