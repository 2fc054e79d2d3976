/- A reader of what is handed in, printed by a program of mine (openr.py). -/
import Derived.Test.YtojbbgcjiaphjaaGreatRead
set_option linter.unusedVariables false
set_option linter.unusedSimpArgs false
namespace Go.Proofs.YtojbbgcjiaphjaaGreat
open Go
open Go.ChangeShapes Go.WideShapes

structure eM where
 tag:Int
 type:Int
 more:Int
 words:Sl Int
 is:Sl Int
abbrev eM.cells(rr:eM):List Value:=[.int .i64 rr.tag,.int .i64 rr.type,.int .u64 rr.more,.slice rr.words.p rr.words.n rr.words.c,.slice rr.is.p rr.is.n rr.is.c]
structure eM.OK (B:Nat) (H:zV) (rr:eM):Prop where
 tag:(intR .i64).ok B H rr.tag
 type:(intR .i64).ok B H rr.type
 more:(intR .u64).ok B H rr.more
 words:(slR 1 (intR .u64)).ok B H rr.words
 is:(slR 1 (intR .i64)).ok B H rr.is
def eU:Rdr eM:=⟨eM.cells,eM.OK,λe h=>⟨(intR .i64).mono e h.tag,(intR .i64).mono e h.type,(intR .u64).mono e h.more,(slR 1 (intR .u64)).mono e h.words,(slR 1 (intR .i64)).mono e h.is⟩⟩
set_option maxRecDepth 100000 in
theorem kZ{Hd:Type}{enc:TypeId×Value->Hd}{w:World}{base:Nat}{spare:Nat->Bool}{held:Bool}{B:Nat}:Reads enc Tryz.prog w base spare held B 61 eU:=λ{fuel cs x} h hs=>by
 have csn:Tryz.prog.cellsOf 61=5:=by kernel_rfl
 obtain⟨hlen,hf⟩:=oP Tryz.underlying61 h hs
 rw[csn]at hlen
 match cs,hlen with
 | [a0,a1,a2,a3,a4],_=>
  obtain⟨n0,y0,g0,s0⟩:=hf 0 _ rfl
  have c0:Tryz.prog.cellsOf 3=1:=by kernel_rfl
  have e0:([a0,a1,a2,a3,a4].drop 0).take (Tryz.prog.cellsOf 3)=[a0]:=by rw[c0];rfl
  replace g0:DataW.trod enc Tryz.prog w base spare held n0 3 [a0]=some y0:=by rw[<-e0];exact g0
  obtain⟨z0,k0,o0⟩:=(jt Tryz.underlying3:Reads enc Tryz.prog w base spare held B 3 (intR .i64)) g0 s0
  obtain⟨n1,y1,g1,s1⟩:=hf 1 _ rfl
  have c1:Tryz.prog.cellsOf 3=1:=by kernel_rfl
  have e1:([a0,a1,a2,a3,a4].drop 1).take (Tryz.prog.cellsOf 3)=[a1]:=by rw[c1];rfl
  replace g1:DataW.trod enc Tryz.prog w base spare held n1 3 [a1]=some y1:=by rw[<-e1];exact g1
  obtain⟨z1,k1,o1⟩:=(jt Tryz.underlying3:Reads enc Tryz.prog w base spare held B 3 (intR .i64)) g1 s1
  obtain⟨n2,y2,g2,s2⟩:=hf 2 _ rfl
  have c2:Tryz.prog.cellsOf 35=1:=by kernel_rfl
  have e2:([a0,a1,a2,a3,a4].drop 2).take (Tryz.prog.cellsOf 35)=[a2]:=by rw[c2];rfl
  replace g2:DataW.trod enc Tryz.prog w base spare held n2 35 [a2]=some y2:=by rw[<-e2];exact g2
  obtain⟨z2,k2,o2⟩:=(jt Tryz.underlying35:Reads enc Tryz.prog w base spare held B 35 (intR .u64)) g2 s2
  obtain⟨n3,y3,g3,s3⟩:=hf 3 _ rfl
  have c3:Tryz.prog.cellsOf 29=1:=by kernel_rfl
  have e3:([a0,a1,a2,a3,a4].drop 3).take (Tryz.prog.cellsOf 29)=[a3]:=by rw[c3];rfl
  replace g3:DataW.trod enc Tryz.prog w base spare held n3 29 [a3]=some y3:=by rw[<-e3];exact g3
  obtain⟨z3,k3,o3⟩:=(jY Tryz.underlying29 (by kernel_rfl) (jt Tryz.underlying40):Reads enc Tryz.prog w base spare held B 29 (slR 1 (intR .u64))) g3 s3
  obtain⟨n4,y4,g4,s4⟩:=hf 4 _ rfl
  have c4:Tryz.prog.cellsOf 59=1:=by kernel_rfl
  have e4:([a0,a1,a2,a3,a4].drop 4).take (Tryz.prog.cellsOf 59)=[a4]:=by rw[c4];rfl
  replace g4:DataW.trod enc Tryz.prog w base spare held n4 59 [a4]=some y4:=by rw[<-e4];exact g4
  obtain⟨z4,k4,o4⟩:=(jY Tryz.underlying59 (by kernel_rfl) (jt Tryz.underlying3):Reads enc Tryz.prog w base spare held B 59 (slR 1 (intR .i64))) g4 s4
  cases k0
  cases k1
  cases k2
  cases k3
  cases k4
  exact⟨⟨z0,z1,z2,z3,z4⟩,rfl,⟨o0,o1,o2,o3,o4⟩⟩
