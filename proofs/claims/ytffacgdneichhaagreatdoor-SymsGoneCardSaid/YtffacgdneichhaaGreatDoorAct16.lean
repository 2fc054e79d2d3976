/- A reader of what is handed in, printed by a program of mine (openr.py). -/
import Derived.Test.YtffacgdneichhaaGreatDoorRead
set_option linter.unusedVariables false
set_option linter.unusedSimpArgs false
namespace Go.Proofs.YtffacgdneichhaaGreatDoor
open Go
open Go.ChangeShapes Go.WideShapes

structure jg where
 what:Int
 atv:Int
 gen:Int
 name:ByteArray
abbrev jg.cells(rr:jg):List Value:=[.int .i64 rr.what,.int .i64 rr.atv,.int .i64 rr.gen,.string rr.name]
structure jg.OK (B:Nat) (H:zV) (rr:jg):Prop where
 what:(intR .i64).ok B H rr.what
 atv:(intR .i64).ok B H rr.atv
 gen:(intR .i64).ok B H rr.gen
 name:pR.ok B H rr.name
def nG:Rdr jg:=⟨jg.cells,jg.OK,λe h=>⟨(intR .i64).mono e h.what,(intR .i64).mono e h.atv,(intR .i64).mono e h.gen,pR.mono e h.name⟩⟩
set_option maxRecDepth 100000 in
theorem nH{Hd:Type}{enc:TypeId×Value->Hd}{w:World}{base:Nat}{spare:Nat->Bool}{held:Bool}{B:Nat}:Reads enc Tryz.prog w base spare held B 29 nG:=λ{fuel cs x} h hs=>by
 have csn:Tryz.prog.cellsOf 29=4:=by kernel_rfl
 obtain⟨hlen,hf⟩:=qf Tryz.underlying29 h hs
 rw[csn]at hlen
 match cs,hlen with
 | [a0,a1,a2,a3],_=>
  obtain⟨n0,y0,g0,s0⟩:=hf 0 _ rfl
  have c0:Tryz.prog.cellsOf 3=1:=by kernel_rfl
  have e0:([a0,a1,a2,a3].drop 0).take (Tryz.prog.cellsOf 3)=[a0]:=by rw[c0];rfl
  replace g0:DataW.trod enc Tryz.prog w base spare held n0 3 [a0]=some y0:=by rw[<-e0];exact g0
  obtain⟨z0,k0,o0⟩:=(kJ Tryz.underlying3:Reads enc Tryz.prog w base spare held B 3 (intR .i64)) g0 s0
  obtain⟨n1,y1,g1,s1⟩:=hf 1 _ rfl
  have c1:Tryz.prog.cellsOf 3=1:=by kernel_rfl
  have e1:([a0,a1,a2,a3].drop 1).take (Tryz.prog.cellsOf 3)=[a1]:=by rw[c1];rfl
  replace g1:DataW.trod enc Tryz.prog w base spare held n1 3 [a1]=some y1:=by rw[<-e1];exact g1
  obtain⟨z1,k1,o1⟩:=(kJ Tryz.underlying3:Reads enc Tryz.prog w base spare held B 3 (intR .i64)) g1 s1
  obtain⟨n2,y2,g2,s2⟩:=hf 2 _ rfl
  have c2:Tryz.prog.cellsOf 3=1:=by kernel_rfl
  have e2:([a0,a1,a2,a3].drop 2).take (Tryz.prog.cellsOf 3)=[a2]:=by rw[c2];rfl
  replace g2:DataW.trod enc Tryz.prog w base spare held n2 3 [a2]=some y2:=by rw[<-e2];exact g2
  obtain⟨z2,k2,o2⟩:=(kJ Tryz.underlying3:Reads enc Tryz.prog w base spare held B 3 (intR .i64)) g2 s2
  obtain⟨n3,y3,g3,s3⟩:=hf 3 _ rfl
  have c3:Tryz.prog.cellsOf 9=1:=by kernel_rfl
  have e3:([a0,a1,a2,a3].drop 3).take (Tryz.prog.cellsOf 9)=[a3]:=by rw[c3];rfl
  replace g3:DataW.trod enc Tryz.prog w base spare held n3 9 [a3]=some y3:=by rw[<-e3];exact g3
  obtain⟨z3,k3,o3⟩:=(qg Tryz.underlying9:Reads enc Tryz.prog w base spare held B 9 pR) g3 s3
  cases k0
  cases k1
  cases k2
  cases k3
  exact⟨⟨z0,z1,z2,z3⟩,rfl,⟨o0,o1,o2,o3⟩⟩
