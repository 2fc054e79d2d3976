/- Readers of what is handed in, printed by a program of mine (openr.py). -/
import Derived.Test.YtihdffpekpnglaaGreatRead
set_option linter.unusedVariables false
set_option linter.unusedSimpArgs false
namespace Go.Proofs.YtihdffpekpnglaaGreat
open Go
open Go.ChangeShapes Go.WideShapes

structure mi where
 neg:Bool
 mag:Sl Int
abbrev mi.cells(rr:mi):List Value:=[.bool rr.neg,.slice rr.mag.p rr.mag.n rr.mag.c]
structure mi.OK (B:Nat) (H:zW) (rr:mi):Prop where
 neg:qK.ok B H rr.neg
 mag:(slR 1 (intR .u32)).ok B H rr.mag
def ov:Rdr mi:=⟨mi.cells,mi.OK,λe h=>⟨qK.mono e h.neg,(slR 1 (intR .u32)).mono e h.mag⟩⟩
set_option maxRecDepth 100000 in
theorem pE{Hd:Type}{enc:TypeId×Value->Hd}{w:World}{base:Nat}{spare:Nat->Bool}{held:Bool}{B:Nat}:Reads enc Tryz.prog w base spare held B 39 ov:=λ{fuel cs x} h hs=>by
 have csn:Tryz.prog.cellsOf 39=2:=by kernel_rfl
 obtain⟨hlen,hf⟩:=lS Tryz.underlying39 h hs
 rw[csn]at hlen
 match cs,hlen with
 | [a0,a1],_=>
  obtain⟨n0,y0,g0,s0⟩:=hf 0 _ rfl
  have c0:Tryz.prog.cellsOf 4=1:=by kernel_rfl
  have e0:([a0,a1].drop 0).take (Tryz.prog.cellsOf 4)=[a0]:=by rw[c0];rfl
  replace g0:DataW.trod enc Tryz.prog w base spare held n0 4 [a0]=some y0:=by rw[<-e0];exact g0
  obtain⟨z0,k0,o0⟩:=(qw Tryz.underlying4:Reads enc Tryz.prog w base spare held B 4 qK) g0 s0
  obtain⟨n1,y1,g1,s1⟩:=hf 1 _ rfl
  have c1:Tryz.prog.cellsOf 37=1:=by kernel_rfl
  have e1:([a0,a1].drop 1).take (Tryz.prog.cellsOf 37)=[a1]:=by rw[c1];rfl
  replace g1:DataW.trod enc Tryz.prog w base spare held n1 37 [a1]=some y1:=by rw[<-e1];exact g1
  obtain⟨z1,k1,o1⟩:=(kE Tryz.underlying37 (by kernel_rfl) (jk Tryz.underlying154):Reads enc Tryz.prog w base spare held B 37 (slR 1 (intR .u32))) g1 s1
  cases k0
  cases k1
  exact⟨⟨z0,z1⟩,rfl,⟨o0,o1⟩⟩
structure kF where
 w:Int
 ofv:Int
abbrev kF.cells(rr:kF):List Value:=[.int .u64 rr.w,.int .i64 rr.ofv]
structure kF.OK (B:Nat) (H:zW) (rr:kF):Prop where
 w:(intR .u64).ok B H rr.w
 ofv:(intR .i64).ok B H rr.ofv
def jT:Rdr kF:=⟨kF.cells,kF.OK,λe h=>⟨(intR .u64).mono e h.w,(intR .i64).mono e h.ofv⟩⟩
set_option maxRecDepth 100000 in
theorem kG{Hd:Type}{enc:TypeId×Value->Hd}{w:World}{base:Nat}{spare:Nat->Bool}{held:Bool}{B:Nat}:Reads enc Tryz.prog w base spare held B 35 jT:=λ{fuel cs x} h hs=>by
 have csn:Tryz.prog.cellsOf 35=2:=by kernel_rfl
 obtain⟨hlen,hf⟩:=lS Tryz.underlying35 h hs
 rw[csn]at hlen
 match cs,hlen with
 | [a0,a1],_=>
  obtain⟨n0,y0,g0,s0⟩:=hf 0 _ rfl
  have c0:Tryz.prog.cellsOf 33=1:=by kernel_rfl
  have e0:([a0,a1].drop 0).take (Tryz.prog.cellsOf 33)=[a0]:=by rw[c0];rfl
  replace g0:DataW.trod enc Tryz.prog w base spare held n0 33 [a0]=some y0:=by rw[<-e0];exact g0
  obtain⟨z0,k0,o0⟩:=(jk Tryz.underlying33:Reads enc Tryz.prog w base spare held B 33 (intR .u64)) g0 s0
  obtain⟨n1,y1,g1,s1⟩:=hf 1 _ rfl
  have c1:Tryz.prog.cellsOf 3=1:=by kernel_rfl
  have e1:([a0,a1].drop 1).take (Tryz.prog.cellsOf 3)=[a1]:=by rw[c1];rfl
  replace g1:DataW.trod enc Tryz.prog w base spare held n1 3 [a1]=some y1:=by rw[<-e1];exact g1
  obtain⟨z1,k1,o1⟩:=(jk Tryz.underlying3:Reads enc Tryz.prog w base spare held B 3 (intR .i64)) g1 s1
  cases k0
  cases k1
  exact⟨⟨z0,z1⟩,rfl,⟨o0,o1⟩⟩
structure kH where
 dov:Int
 x:kF
 y:kF
 kind:Int
 n:Int
 more:Int
 l:Sl kF
 s:ByteArray
 num:mi
abbrev kH.cells(rr:kH):List Value:=[.int .i64 rr.dov,.int .u64 rr.x.w,.int .i64 rr.x.ofv,.int .u64 rr.y.w,.int .i64 rr.y.ofv,.int .i64 rr.kind,.int .i64 rr.n,.int .u64 rr.more,.slice rr.l.p rr.l.n rr.l.c,.string rr.s,.bool rr.num.neg,.slice rr.num.mag.p rr.num.mag.n rr.num.mag.c]
structure kH.OK (B:Nat) (H:zW) (rr:kH):Prop where
 dov:(intR .i64).ok B H rr.dov
 x:jT.ok B H rr.x
 y:jT.ok B H rr.y
 kind:(intR .i64).ok B H rr.kind
 n:(intR .i64).ok B H rr.n
 more:(intR .u64).ok B H rr.more
 l:(slR 2 jT).ok B H rr.l
 s:qL.ok B H rr.s
 num:ov.ok B H rr.num
def ow:Rdr kH:=⟨kH.cells,kH.OK,λe h=>⟨(intR .i64).mono e h.dov,jT.mono e h.x,jT.mono e h.y,(intR .i64).mono e h.kind,(intR .i64).mono e h.n,(intR .u64).mono e h.more,(slR 2 jT).mono e h.l,qL.mono e h.s,ov.mono e h.num⟩⟩
set_option maxRecDepth 100000 in
theorem pF{Hd:Type}{enc:TypeId×Value->Hd}{w:World}{base:Nat}{spare:Nat->Bool}{held:Bool}{B:Nat}:Reads enc Tryz.prog w base spare held B 41 ow:=λ{fuel cs x} h hs=>by
 have csn:Tryz.prog.cellsOf 41=12:=by kernel_rfl
 obtain⟨hlen,hf⟩:=lS Tryz.underlying41 h hs
 rw[csn]at hlen
 match cs,hlen with
 | [a0,a1,a2,a3,a4,a5,a6,a7,a8,a9,a10,a11],_=>
  obtain⟨n0,y0,g0,s0⟩:=hf 0 _ rfl
  have c0:Tryz.prog.cellsOf 3=1:=by kernel_rfl
  have e0:([a0,a1,a2,a3,a4,a5,a6,a7,a8,a9,a10,a11].drop 0).take (Tryz.prog.cellsOf 3)=[a0]:=by rw[c0];rfl
  replace g0:DataW.trod enc Tryz.prog w base spare held n0 3 [a0]=some y0:=by rw[<-e0];exact g0
  obtain⟨z0,k0,o0⟩:=(jk Tryz.underlying3:Reads enc Tryz.prog w base spare held B 3 (intR .i64)) g0 s0
  obtain⟨n1,y1,g1,s1⟩:=hf 1 _ rfl
  have c1:Tryz.prog.cellsOf 35=2:=by kernel_rfl
  have e1:([a0,a1,a2,a3,a4,a5,a6,a7,a8,a9,a10,a11].drop 1).take (Tryz.prog.cellsOf 35)=[a1,a2]:=by rw[c1];rfl
  replace g1:DataW.trod enc Tryz.prog w base spare held n1 35 [a1,a2]=some y1:=by rw[<-e1];exact g1
  obtain⟨z1,k1,o1⟩:=(kG:Reads enc Tryz.prog w base spare held B 35 jT) g1 s1
  obtain⟨n2,y2,g2,s2⟩:=hf 2 _ rfl
  have c2:Tryz.prog.cellsOf 35=2:=by kernel_rfl
  have e2:([a0,a1,a2,a3,a4,a5,a6,a7,a8,a9,a10,a11].drop 3).take (Tryz.prog.cellsOf 35)=[a3,a4]:=by rw[c2];rfl
  replace g2:DataW.trod enc Tryz.prog w base spare held n2 35 [a3,a4]=some y2:=by rw[<-e2];exact g2
  obtain⟨z2,k2,o2⟩:=(kG:Reads enc Tryz.prog w base spare held B 35 jT) g2 s2
  obtain⟨n3,y3,g3,s3⟩:=hf 3 _ rfl
  have c3:Tryz.prog.cellsOf 3=1:=by kernel_rfl
  have e3:([a0,a1,a2,a3,a4,a5,a6,a7,a8,a9,a10,a11].drop 5).take (Tryz.prog.cellsOf 3)=[a5]:=by rw[c3];rfl
  replace g3:DataW.trod enc Tryz.prog w base spare held n3 3 [a5]=some y3:=by rw[<-e3];exact g3
  obtain⟨z3,k3,o3⟩:=(jk Tryz.underlying3:Reads enc Tryz.prog w base spare held B 3 (intR .i64)) g3 s3
  obtain⟨n4,y4,g4,s4⟩:=hf 4 _ rfl
  have c4:Tryz.prog.cellsOf 3=1:=by kernel_rfl
  have e4:([a0,a1,a2,a3,a4,a5,a6,a7,a8,a9,a10,a11].drop 6).take (Tryz.prog.cellsOf 3)=[a6]:=by rw[c4];rfl
  replace g4:DataW.trod enc Tryz.prog w base spare held n4 3 [a6]=some y4:=by rw[<-e4];exact g4
  obtain⟨z4,k4,o4⟩:=(jk Tryz.underlying3:Reads enc Tryz.prog w base spare held B 3 (intR .i64)) g4 s4
  obtain⟨n5,y5,g5,s5⟩:=hf 5 _ rfl
  have c5:Tryz.prog.cellsOf 32=1:=by kernel_rfl
  have e5:([a0,a1,a2,a3,a4,a5,a6,a7,a8,a9,a10,a11].drop 7).take (Tryz.prog.cellsOf 32)=[a7]:=by rw[c5];rfl
  replace g5:DataW.trod enc Tryz.prog w base spare held n5 32 [a7]=some y5:=by rw[<-e5];exact g5
  obtain⟨z5,k5,o5⟩:=(jk Tryz.underlying32:Reads enc Tryz.prog w base spare held B 32 (intR .u64)) g5 s5
  obtain⟨n6,y6,g6,s6⟩:=hf 6 _ rfl
  have c6:Tryz.prog.cellsOf 36=1:=by kernel_rfl
  have e6:([a0,a1,a2,a3,a4,a5,a6,a7,a8,a9,a10,a11].drop 8).take (Tryz.prog.cellsOf 36)=[a8]:=by rw[c6];rfl
  replace g6:DataW.trod enc Tryz.prog w base spare held n6 36 [a8]=some y6:=by rw[<-e6];exact g6
  obtain⟨z6,k6,o6⟩:=(kE Tryz.underlying36 (by kernel_rfl) (kG):Reads enc Tryz.prog w base spare held B 36 (slR 2 jT)) g6 s6
  obtain⟨n7,y7,g7,s7⟩:=hf 7 _ rfl
  have c7:Tryz.prog.cellsOf 9=1:=by kernel_rfl
  have e7:([a0,a1,a2,a3,a4,a5,a6,a7,a8,a9,a10,a11].drop 9).take (Tryz.prog.cellsOf 9)=[a9]:=by rw[c7];rfl
  replace g7:DataW.trod enc Tryz.prog w base spare held n7 9 [a9]=some y7:=by rw[<-e7];exact g7
  obtain⟨z7,k7,o7⟩:=(rl Tryz.underlying9:Reads enc Tryz.prog w base spare held B 9 qL) g7 s7
  obtain⟨n8,y8,g8,s8⟩:=hf 8 _ rfl
  have c8:Tryz.prog.cellsOf 39=2:=by kernel_rfl
  have e8:([a0,a1,a2,a3,a4,a5,a6,a7,a8,a9,a10,a11].drop 10).take (Tryz.prog.cellsOf 39)=[a10,a11]:=by rw[c8];rfl
  replace g8:DataW.trod enc Tryz.prog w base spare held n8 39 [a10,a11]=some y8:=by rw[<-e8];exact g8
  obtain⟨z8,k8,o8⟩:=(pE:Reads enc Tryz.prog w base spare held B 39 ov) g8 s8
  cases k0
  cases k1
  cases k2
  cases k3
  cases k4
  cases k5
  cases k6
  cases k7
  cases k8
  exact⟨⟨z0,z1,z2,z3,z4,z5,z6,z7,z8⟩,rfl,⟨o0,o1,o2,o3,o4,o5,o6,o7,o8⟩⟩
