/- A reader of what is handed in, printed by a program of mine (openr.py). -/
import Derived.Test.YtibpklpgmgakcaaGreatRead
set_option linter.unusedVariables false
set_option linter.unusedSimpArgs false
namespace Go.Proofs.YtibpklpgmgakcaaGreat
open Go
open Go.ChangeShapes Go.WideShapes

structure ValOf where
 w:Int
 ofv:Int
abbrev ValOf.cells(rr:ValOf):List Value:=[.int .u64 rr.w,.int .i64 rr.ofv]
structure ValOf.OK (B:Nat) (H:Array Obj) (rr:ValOf):Prop where
 w:(intR .u64).ok B H rr.w
 ofv:(intR .i64).ok B H rr.ofv
def valOfR:Rdr ValOf:=⟨ValOf.cells,ValOf.OK,λe h=>⟨(intR .u64).mono e h.w,(intR .i64).mono e h.ofv⟩⟩
set_option maxRecDepth 100000 in
theorem reads_ValOf{Hd:Type}{enc:TypeId×Value->Hd}{w:World}{base:Nat}{spare:Nat->Bool}{held:Bool}{B:Nat}:Reads enc Tryz.prog w base spare held B 37 valOfR:=λ{fuel cs x} h hs=>by
 have csn:Tryz.prog.cellsOf 37=2:=by kernel_rfl
 obtain⟨hlen,hf⟩:=rd_fields Tryz.underlying37 h hs
 rw[csn]at hlen
 match cs,hlen with
 | [a0,a1],_=>
  obtain⟨n0,y0,g0,s0⟩:=hf 0 _ rfl
  have c0:Tryz.prog.cellsOf 35=1:=by kernel_rfl
  have e0:([a0,a1].drop 0).take (Tryz.prog.cellsOf 35)=[a0]:=by rw[c0];rfl
  replace g0:DataW.trod enc Tryz.prog w base spare held n0 35 [a0]=some y0:=by rw[<-e0];exact g0
  obtain⟨z0,k0,o0⟩:=(reads_int Tryz.underlying35:Reads enc Tryz.prog w base spare held B 35 (intR .u64)) g0 s0
  obtain⟨n1,y1,g1,s1⟩:=hf 1 _ rfl
  have c1:Tryz.prog.cellsOf 3=1:=by kernel_rfl
  have e1:([a0,a1].drop 1).take (Tryz.prog.cellsOf 3)=[a1]:=by rw[c1];rfl
  replace g1:DataW.trod enc Tryz.prog w base spare held n1 3 [a1]=some y1:=by rw[<-e1];exact g1
  obtain⟨z1,k1,o1⟩:=(reads_int Tryz.underlying3:Reads enc Tryz.prog w base spare held B 3 (intR .i64)) g1 s1
  cases k0
  cases k1
  exact⟨⟨z0,z1⟩,rfl,⟨o0,o1⟩⟩
structure ActOf where
 dov:Int
 kind:Int
 up:Int
 n:Int
 x:ValOf
 y:ValOf
 l:Sl ValOf
abbrev ActOf.cells(rr:ActOf):List Value:=[.int .i64 rr.dov,.int .i64 rr.kind,.int .i64 rr.up,.int .i64 rr.n,.int .u64 rr.x.w,.int .i64 rr.x.ofv,.int .u64 rr.y.w,.int .i64 rr.y.ofv,.slice rr.l.p rr.l.n rr.l.c]
structure ActOf.OK (B:Nat) (H:Array Obj) (rr:ActOf):Prop where
 dov:(intR .i64).ok B H rr.dov
 kind:(intR .i64).ok B H rr.kind
 up:(intR .i64).ok B H rr.up
 n:(intR .i64).ok B H rr.n
 x:valOfR.ok B H rr.x
 y:valOfR.ok B H rr.y
 l:(slR 2 valOfR).ok B H rr.l
def actOfR:Rdr ActOf:=⟨ActOf.cells,ActOf.OK,λe h=>⟨(intR .i64).mono e h.dov,(intR .i64).mono e h.kind,(intR .i64).mono e h.up,(intR .i64).mono e h.n,valOfR.mono e h.x,valOfR.mono e h.y,(slR 2 valOfR).mono e h.l⟩⟩
set_option maxRecDepth 100000 in
theorem reads_ActOf{Hd:Type}{enc:TypeId×Value->Hd}{w:World}{base:Nat}{spare:Nat->Bool}{held:Bool}{B:Nat}:Reads enc Tryz.prog w base spare held B 40 actOfR:=λ{fuel cs x} h hs=>by
 have csn:Tryz.prog.cellsOf 40=9:=by kernel_rfl
 obtain⟨hlen,hf⟩:=rd_fields Tryz.underlying40 h hs
 rw[csn]at hlen
 match cs,hlen with
 | [a0,a1,a2,a3,a4,a5,a6,a7,a8],_=>
  obtain⟨n0,y0,g0,s0⟩:=hf 0 _ rfl
  have c0:Tryz.prog.cellsOf 3=1:=by kernel_rfl
  have e0:([a0,a1,a2,a3,a4,a5,a6,a7,a8].drop 0).take (Tryz.prog.cellsOf 3)=[a0]:=by rw[c0];rfl
  replace g0:DataW.trod enc Tryz.prog w base spare held n0 3 [a0]=some y0:=by rw[<-e0];exact g0
  obtain⟨z0,k0,o0⟩:=(reads_int Tryz.underlying3:Reads enc Tryz.prog w base spare held B 3 (intR .i64)) g0 s0
  obtain⟨n1,y1,g1,s1⟩:=hf 1 _ rfl
  have c1:Tryz.prog.cellsOf 3=1:=by kernel_rfl
  have e1:([a0,a1,a2,a3,a4,a5,a6,a7,a8].drop 1).take (Tryz.prog.cellsOf 3)=[a1]:=by rw[c1];rfl
  replace g1:DataW.trod enc Tryz.prog w base spare held n1 3 [a1]=some y1:=by rw[<-e1];exact g1
  obtain⟨z1,k1,o1⟩:=(reads_int Tryz.underlying3:Reads enc Tryz.prog w base spare held B 3 (intR .i64)) g1 s1
  obtain⟨n2,y2,g2,s2⟩:=hf 2 _ rfl
  have c2:Tryz.prog.cellsOf 3=1:=by kernel_rfl
  have e2:([a0,a1,a2,a3,a4,a5,a6,a7,a8].drop 2).take (Tryz.prog.cellsOf 3)=[a2]:=by rw[c2];rfl
  replace g2:DataW.trod enc Tryz.prog w base spare held n2 3 [a2]=some y2:=by rw[<-e2];exact g2
  obtain⟨z2,k2,o2⟩:=(reads_int Tryz.underlying3:Reads enc Tryz.prog w base spare held B 3 (intR .i64)) g2 s2
  obtain⟨n3,y3,g3,s3⟩:=hf 3 _ rfl
  have c3:Tryz.prog.cellsOf 3=1:=by kernel_rfl
  have e3:([a0,a1,a2,a3,a4,a5,a6,a7,a8].drop 3).take (Tryz.prog.cellsOf 3)=[a3]:=by rw[c3];rfl
  replace g3:DataW.trod enc Tryz.prog w base spare held n3 3 [a3]=some y3:=by rw[<-e3];exact g3
  obtain⟨z3,k3,o3⟩:=(reads_int Tryz.underlying3:Reads enc Tryz.prog w base spare held B 3 (intR .i64)) g3 s3
  obtain⟨n4,y4,g4,s4⟩:=hf 4 _ rfl
  have c4:Tryz.prog.cellsOf 37=2:=by kernel_rfl
  have e4:([a0,a1,a2,a3,a4,a5,a6,a7,a8].drop 4).take (Tryz.prog.cellsOf 37)=[a4,a5]:=by rw[c4];rfl
  replace g4:DataW.trod enc Tryz.prog w base spare held n4 37 [a4,a5]=some y4:=by rw[<-e4];exact g4
  obtain⟨z4,k4,o4⟩:=(reads_ValOf:Reads enc Tryz.prog w base spare held B 37 valOfR) g4 s4
  obtain⟨n5,y5,g5,s5⟩:=hf 5 _ rfl
  have c5:Tryz.prog.cellsOf 37=2:=by kernel_rfl
  have e5:([a0,a1,a2,a3,a4,a5,a6,a7,a8].drop 6).take (Tryz.prog.cellsOf 37)=[a6,a7]:=by rw[c5];rfl
  replace g5:DataW.trod enc Tryz.prog w base spare held n5 37 [a6,a7]=some y5:=by rw[<-e5];exact g5
  obtain⟨z5,k5,o5⟩:=(reads_ValOf:Reads enc Tryz.prog w base spare held B 37 valOfR) g5 s5
  obtain⟨n6,y6,g6,s6⟩:=hf 6 _ rfl
  have c6:Tryz.prog.cellsOf 38=1:=by kernel_rfl
  have e6:([a0,a1,a2,a3,a4,a5,a6,a7,a8].drop 8).take (Tryz.prog.cellsOf 38)=[a8]:=by rw[c6];rfl
  replace g6:DataW.trod enc Tryz.prog w base spare held n6 38 [a8]=some y6:=by rw[<-e6];exact g6
  obtain⟨z6,k6,o6⟩:=(reads_slice Tryz.underlying38 (by kernel_rfl) (reads_ValOf):Reads enc Tryz.prog w base spare held B 38 (slR 2 valOfR)) g6 s6
  cases k0
  cases k1
  cases k2
  cases k3
  cases k4
  cases k5
  cases k6
  exact⟨⟨z0,z1,z2,z3,z4,z5,z6⟩,rfl,⟨o0,o1,o2,o3,o4,o5,o6⟩⟩
end Go.Proofs.YtibpklpgmgakcaaGreat
