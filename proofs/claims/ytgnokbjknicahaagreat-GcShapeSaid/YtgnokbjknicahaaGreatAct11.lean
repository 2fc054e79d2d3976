/- A reader of what is handed in, printed by a program of mine (openr.py). -/
import Derived.Test.YtgnokbjknicahaaGreatRead
set_option linter.unusedVariables false
set_option linter.unusedSimpArgs false
namespace Go.Proofs.YtgnokbjknicahaaGreat
open Go
open Go.ChangeShapes Go.WideShapes

structure ValOf where
 w:Int
 ofv:Int
abbrev ValOf.cells(rr:ValOf):List Value:=[.int .u64 rr.w,.int .i64 rr.ofv]
structure ValOf.OK (B:Nat) (H:zV) (rr:ValOf):Prop where
 w:(intR .u64).ok B H rr.w
 ofv:(intR .i64).ok B H rr.ofv
def valOfR:Rdr ValOf:=⟨ValOf.cells,ValOf.OK,λe h=>⟨(intR .u64).mono e h.w,(intR .i64).mono e h.ofv⟩⟩
set_option maxRecDepth 100000 in
theorem reads_ValOf{Hd:Type}{enc:TypeId×Value->Hd}{w:World}{base:Nat}{spare:Nat->Bool}{held:Bool}{B:Nat}:Reads enc Tryz.prog w base spare held B 96 valOfR:=λ{fuel cs x} h hs=>by
 have csn:Tryz.prog.cellsOf 96=2:=by kernel_rfl
 obtain⟨hlen,hf⟩:=rd_fields Tryz.underlying96 h hs
 rw[csn]at hlen
 match cs,hlen with
 | [a0,a1],_=>
  obtain⟨n0,y0,g0,s0⟩:=hf 0 _ rfl
  have c0:Tryz.prog.cellsOf 24=1:=by kernel_rfl
  have e0:([a0,a1].drop 0).take (Tryz.prog.cellsOf 24)=[a0]:=by rw[c0];rfl
  replace g0:DataW.trod enc Tryz.prog w base spare held n0 24 [a0]=some y0:=by rw[<-e0];exact g0
  obtain⟨z0,k0,o0⟩:=(reads_int Tryz.underlying24:Reads enc Tryz.prog w base spare held B 24 (intR .u64)) g0 s0
  obtain⟨n1,y1,g1,s1⟩:=hf 1 _ rfl
  have c1:Tryz.prog.cellsOf 3=1:=by kernel_rfl
  have e1:([a0,a1].drop 1).take (Tryz.prog.cellsOf 3)=[a1]:=by rw[c1];rfl
  replace g1:DataW.trod enc Tryz.prog w base spare held n1 3 [a1]=some y1:=by rw[<-e1];exact g1
  obtain⟨z1,k1,o1⟩:=(reads_int Tryz.underlying3:Reads enc Tryz.prog w base spare held B 3 (intR .i64)) g1 s1
  cases k0
  cases k1
  exact⟨⟨z0,z1⟩,rfl,⟨o0,o1⟩⟩
structure ActOf where
 dov:Int
 kind:Int
 n:Int
 x:ValOf
 y:ValOf
 l:Sl ValOf
abbrev ActOf.cells(rr:ActOf):List Value:=[.int .i64 rr.dov,.int .i64 rr.kind,.int .i64 rr.n,.int .u64 rr.x.w,.int .i64 rr.x.ofv,.int .u64 rr.y.w,.int .i64 rr.y.ofv,.slice rr.l.p rr.l.n rr.l.c]
structure ActOf.OK (B:Nat) (H:zV) (rr:ActOf):Prop where
 dov:(intR .i64).ok B H rr.dov
 kind:(intR .i64).ok B H rr.kind
 n:(intR .i64).ok B H rr.n
 x:valOfR.ok B H rr.x
 y:valOfR.ok B H rr.y
 l:(slR 2 valOfR).ok B H rr.l
def actOfR:Rdr ActOf:=⟨ActOf.cells,ActOf.OK,λe h=>⟨(intR .i64).mono e h.dov,(intR .i64).mono e h.kind,(intR .i64).mono e h.n,valOfR.mono e h.x,valOfR.mono e h.y,(slR 2 valOfR).mono e h.l⟩⟩
set_option maxRecDepth 100000 in
theorem reads_ActOf{Hd:Type}{enc:TypeId×Value->Hd}{w:World}{base:Nat}{spare:Nat->Bool}{held:Bool}{B:Nat}:Reads enc Tryz.prog w base spare held B 98 actOfR:=λ{fuel cs x} h hs=>by
 have csn:Tryz.prog.cellsOf 98=8:=by kernel_rfl
 obtain⟨hlen,hf⟩:=rd_fields Tryz.underlying98 h hs
 rw[csn]at hlen
 match cs,hlen with
 | [a0,a1,a2,a3,a4,a5,a6,a7],_=>
  obtain⟨n0,y0,g0,s0⟩:=hf 0 _ rfl
  have c0:Tryz.prog.cellsOf 3=1:=by kernel_rfl
  have e0:([a0,a1,a2,a3,a4,a5,a6,a7].drop 0).take (Tryz.prog.cellsOf 3)=[a0]:=by rw[c0];rfl
  replace g0:DataW.trod enc Tryz.prog w base spare held n0 3 [a0]=some y0:=by rw[<-e0];exact g0
  obtain⟨z0,k0,o0⟩:=(reads_int Tryz.underlying3:Reads enc Tryz.prog w base spare held B 3 (intR .i64)) g0 s0
  obtain⟨n1,y1,g1,s1⟩:=hf 1 _ rfl
  have c1:Tryz.prog.cellsOf 3=1:=by kernel_rfl
  have e1:([a0,a1,a2,a3,a4,a5,a6,a7].drop 1).take (Tryz.prog.cellsOf 3)=[a1]:=by rw[c1];rfl
  replace g1:DataW.trod enc Tryz.prog w base spare held n1 3 [a1]=some y1:=by rw[<-e1];exact g1
  obtain⟨z1,k1,o1⟩:=(reads_int Tryz.underlying3:Reads enc Tryz.prog w base spare held B 3 (intR .i64)) g1 s1
  obtain⟨n2,y2,g2,s2⟩:=hf 2 _ rfl
  have c2:Tryz.prog.cellsOf 3=1:=by kernel_rfl
  have e2:([a0,a1,a2,a3,a4,a5,a6,a7].drop 2).take (Tryz.prog.cellsOf 3)=[a2]:=by rw[c2];rfl
  replace g2:DataW.trod enc Tryz.prog w base spare held n2 3 [a2]=some y2:=by rw[<-e2];exact g2
  obtain⟨z2,k2,o2⟩:=(reads_int Tryz.underlying3:Reads enc Tryz.prog w base spare held B 3 (intR .i64)) g2 s2
  obtain⟨n3,y3,g3,s3⟩:=hf 3 _ rfl
  have c3:Tryz.prog.cellsOf 96=2:=by kernel_rfl
  have e3:([a0,a1,a2,a3,a4,a5,a6,a7].drop 3).take (Tryz.prog.cellsOf 96)=[a3,a4]:=by rw[c3];rfl
  replace g3:DataW.trod enc Tryz.prog w base spare held n3 96 [a3,a4]=some y3:=by rw[<-e3];exact g3
  obtain⟨z3,k3,o3⟩:=(reads_ValOf:Reads enc Tryz.prog w base spare held B 96 valOfR) g3 s3
  obtain⟨n4,y4,g4,s4⟩:=hf 4 _ rfl
  have c4:Tryz.prog.cellsOf 96=2:=by kernel_rfl
  have e4:([a0,a1,a2,a3,a4,a5,a6,a7].drop 5).take (Tryz.prog.cellsOf 96)=[a5,a6]:=by rw[c4];rfl
  replace g4:DataW.trod enc Tryz.prog w base spare held n4 96 [a5,a6]=some y4:=by rw[<-e4];exact g4
  obtain⟨z4,k4,o4⟩:=(reads_ValOf:Reads enc Tryz.prog w base spare held B 96 valOfR) g4 s4
  obtain⟨n5,y5,g5,s5⟩:=hf 5 _ rfl
  have c5:Tryz.prog.cellsOf 52=1:=by kernel_rfl
  have e5:([a0,a1,a2,a3,a4,a5,a6,a7].drop 7).take (Tryz.prog.cellsOf 52)=[a7]:=by rw[c5];rfl
  replace g5:DataW.trod enc Tryz.prog w base spare held n5 52 [a7]=some y5:=by rw[<-e5];exact g5
  obtain⟨z5,k5,o5⟩:=(reads_slice Tryz.underlying52 (by kernel_rfl) (reads_ValOf):Reads enc Tryz.prog w base spare held B 52 (slR 2 valOfR)) g5 s5
  cases k0
  cases k1
  cases k2
  cases k3
  cases k4
  cases k5
  exact⟨⟨z0,z1,z2,z3,z4,z5⟩,rfl,⟨o0,o1,o2,o3,o4,o5⟩⟩
def anyR:Rdr (List Value):=⟨λl=>l,λ_ _ _=>True,λ_ h=>h⟩
theorem reads_any{Hd:Type}{enc:TypeId×Value->Hd}{P:Program}{w:World}{base:Nat}{spare:Nat->Bool}{held:Bool}{B:Nat}{t:TypeId}:Reads enc P w base spare held B t anyR:=λ{_ cs _} _ _=>⟨cs,rfl,trivial⟩
structure RoundOf where
 acts:Sl ActOf
 guard:Sl (List Value)
 symbols:Sl ValOf
 g:Int
 target:Int
 keep:Int
abbrev RoundOf.cells(rr:RoundOf):List Value:=[.slice rr.acts.p rr.acts.n rr.acts.c,.slice rr.guard.p rr.guard.n rr.guard.c,.slice rr.symbols.p rr.symbols.n rr.symbols.c,.int .i64 rr.g,.int .i64 rr.target,.int .u32 rr.keep]
structure RoundOf.OK (B:Nat) (H:zV) (rr:RoundOf):Prop where
 acts:(slR 8 actOfR).ok B H rr.acts
 guard:(slR 4 anyR).ok B H rr.guard
 symbols:(slR 2 valOfR).ok B H rr.symbols
 g:(intR .i64).ok B H rr.g
 target:(intR .i64).ok B H rr.target
 keep:(intR .u32).ok B H rr.keep
def roundOfR:Rdr RoundOf:=⟨RoundOf.cells,RoundOf.OK,λe h=>⟨(slR 8 actOfR).mono e h.acts,(slR 4 anyR).mono e h.guard,(slR 2 valOfR).mono e h.symbols,(intR .i64).mono e h.g,(intR .i64).mono e h.target,(intR .u32).mono e h.keep⟩⟩
set_option maxRecDepth 100000 in
theorem reads_RoundOf{Hd:Type}{enc:TypeId×Value->Hd}{w:World}{base:Nat}{spare:Nat->Bool}{held:Bool}{B:Nat}:Reads enc Tryz.prog w base spare held B 55 roundOfR:=λ{fuel cs x} h hs=>by
 have csn:Tryz.prog.cellsOf 55=6:=by kernel_rfl
 obtain⟨hlen,hf⟩:=rd_fields Tryz.underlying55 h hs
 rw[csn]at hlen
 match cs,hlen with
 | [a0,a1,a2,a3,a4,a5],_=>
  obtain⟨n0,y0,g0,s0⟩:=hf 0 _ rfl
  have c0:Tryz.prog.cellsOf 50=1:=by kernel_rfl
  have e0:([a0,a1,a2,a3,a4,a5].drop 0).take (Tryz.prog.cellsOf 50)=[a0]:=by rw[c0];rfl
  replace g0:DataW.trod enc Tryz.prog w base spare held n0 50 [a0]=some y0:=by rw[<-e0];exact g0
  obtain⟨z0,k0,o0⟩:=(reads_slice Tryz.underlying50 (by kernel_rfl) (reads_ActOf):Reads enc Tryz.prog w base spare held B 50 (slR 8 actOfR)) g0 s0
  obtain⟨n1,y1,g1,s1⟩:=hf 1 _ rfl
  have c1:Tryz.prog.cellsOf 51=1:=by kernel_rfl
  have e1:([a0,a1,a2,a3,a4,a5].drop 1).take (Tryz.prog.cellsOf 51)=[a1]:=by rw[c1];rfl
  replace g1:DataW.trod enc Tryz.prog w base spare held n1 51 [a1]=some y1:=by rw[<-e1];exact g1
  obtain⟨z1,k1,o1⟩:=(reads_slice Tryz.underlying51 (by kernel_rfl) (reads_any):Reads enc Tryz.prog w base spare held B 51 (slR 4 anyR)) g1 s1
  obtain⟨n2,y2,g2,s2⟩:=hf 2 _ rfl
  have c2:Tryz.prog.cellsOf 52=1:=by kernel_rfl
  have e2:([a0,a1,a2,a3,a4,a5].drop 2).take (Tryz.prog.cellsOf 52)=[a2]:=by rw[c2];rfl
  replace g2:DataW.trod enc Tryz.prog w base spare held n2 52 [a2]=some y2:=by rw[<-e2];exact g2
  obtain⟨z2,k2,o2⟩:=(reads_slice Tryz.underlying52 (by kernel_rfl) (reads_ValOf):Reads enc Tryz.prog w base spare held B 52 (slR 2 valOfR)) g2 s2
  obtain⟨n3,y3,g3,s3⟩:=hf 3 _ rfl
  have c3:Tryz.prog.cellsOf 3=1:=by kernel_rfl
  have e3:([a0,a1,a2,a3,a4,a5].drop 3).take (Tryz.prog.cellsOf 3)=[a3]:=by rw[c3];rfl
  replace g3:DataW.trod enc Tryz.prog w base spare held n3 3 [a3]=some y3:=by rw[<-e3];exact g3
  obtain⟨z3,k3,o3⟩:=(reads_int Tryz.underlying3:Reads enc Tryz.prog w base spare held B 3 (intR .i64)) g3 s3
  obtain⟨n4,y4,g4,s4⟩:=hf 4 _ rfl
  have c4:Tryz.prog.cellsOf 3=1:=by kernel_rfl
  have e4:([a0,a1,a2,a3,a4,a5].drop 4).take (Tryz.prog.cellsOf 3)=[a4]:=by rw[c4];rfl
  replace g4:DataW.trod enc Tryz.prog w base spare held n4 3 [a4]=some y4:=by rw[<-e4];exact g4
  obtain⟨z4,k4,o4⟩:=(reads_int Tryz.underlying3:Reads enc Tryz.prog w base spare held B 3 (intR .i64)) g4 s4
  obtain⟨n5,y5,g5,s5⟩:=hf 5 _ rfl
  have c5:Tryz.prog.cellsOf 53=1:=by kernel_rfl
  have e5:([a0,a1,a2,a3,a4,a5].drop 5).take (Tryz.prog.cellsOf 53)=[a5]:=by rw[c5];rfl
  replace g5:DataW.trod enc Tryz.prog w base spare held n5 53 [a5]=some y5:=by rw[<-e5];exact g5
  obtain⟨z5,k5,o5⟩:=(reads_int Tryz.underlying53:Reads enc Tryz.prog w base spare held B 53 (intR .u32)) g5 s5
  cases k0
  cases k1
  cases k2
  cases k3
  cases k4
  cases k5
  exact⟨⟨z0,z1,z2,z3,z4,z5⟩,rfl,⟨o0,o1,o2,o3,o4,o5⟩⟩
