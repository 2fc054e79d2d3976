/- Printed: what each function asks, and that it is sound. -/
import Derived.Test.YtibpklpgmgakcaaGreatFnsC
import Derived.Test.YtibpklpgmgakcaaGreatEqa
set_option linter.unusedSimpArgs false
set_option linter.unusedVariables false
set_option maxRecDepth 100000
set_option maxHeartbeats 1000000
noncomputable section
namespace Go.Proofs.YtibpklpgmgakcaaGreat
open Go
/-! moraine/morainelaw11.Alike -/
namespace morainelaw11_Alike
def K0:=Func.code Tryz.f12
def K2:=cb K0
def K3:=ca K2
def K4:=cb K2
def K5:=ca K4
def K6:=cb K4
def K7:=ca K5
def K11:=ca K6
def K14:=cb K11
def K15:=ca K14
def K16:=ca K15
def K18:=cb K16
def K23:=ca K18
def K25:=ca K23
def K26:=ca K25
def K27:=cb K25
def K29:=cb K27
def K31:=cb K29
def K37:=cb K31
def K38:=ca K37
def K39:=ca K38
def K41:=cb K39
def K46:=ca K41
def K48:=ca K46
def K49:=ca K48
end morainelaw11_Alike
def morainelaw11_Alike.pt(hv m:Option Addr)(H:Array Obj)(R:Value->Array Obj->Prop):Prop:=
 ∃f:Addr,hv=some f/\
 ∃x:Option Addr,hat H f=some (.pointer x)/\
 ∃xA:Addr,x=some xA/\
 ∃es:Option Addr,hat H xA=some (.pointer es)/\
 ∃c3:Addr,es=some c3/\
 ∃cr:Option Addr,hat H c3=some (.pointer cr)/\
 ∃mA:Addr,m=some mA/\
 ∃er:Option Addr,hat H mA=some (.pointer er)/\
 ∃cu:Addr,er=some cu/\
 ∃ep:Option Addr,hat H cu=some (.pointer ep)/\
 ∃cv:Addr,ep=some cv/\
 ∃dp:Option Addr,hat H cv=some (.pointer dp)/\
 seg_Mem_Taken.C cr none 0 0 H (λv H1=> ∃(xB:Option Addr) (xN xC:Nat),v=.slice xB xN xC/\RowAt H1 mA 0 [.pointer (some cu)]/\RowAt H1 cu 0 [.pointer (some cv)]/\RowAt H1 cv 0 [.pointer dp]/\
 moraineref07_Mem_Taken.C dp none 0 0 H1 (λez H2=> ∃(l:Option Addr) (d e:Nat),ez=.slice l d e/\
 if(xN:Int)=(d:Int)then(
 ∃eo:Option Addr,hat H2 f=some (.pointer eo)/\
 ∃c4:Addr,eo=some c4/\
 ∃et:Option Addr,hat H2 c4=some (.pointer et)/\
 ∃c2:Addr,et=some c2/\
 ∃bz:Option Addr,hat H2 c2=some (.pointer bz)/\
 ∃ei:Option Addr,hat H2 mA=some (.pointer ei)/\
 ∃bw:Addr,ei=some bw/\
 ∃eh:Option Addr,hat H2 bw=some (.pointer eh)/\
 ∃bx:Addr,eh=some bx/\
 ∃ef:Option Addr,hat H2 bx=some (.pointer ef)/\
 ∃bu:Addr,ef=some bu/\
 ∃a8:Int,hat H2 bu=some (.int .i64 a8)/\
 ∃bt:Int,hat H2 (mA.add 1)=some (.int .u64 bt)/\
 seg_Mem_Free.C bz H2 (λeu H3=> ∃cc:Int,eu=.int .i64 cc/\RowAt H3 mA 0 [.pointer (some bw)]/\RowAt H3 bw 0 [.pointer (some bx)]/\RowAt H3 bx 0 [.pointer (some bu)]/\RowAt H3 bu 0 [.int .i64 a8]/\RowAt H3 (mA.add 1) 0 [.int .u64 bt]/\
 if cc=(IntKind.wrap .i64 (a8-(d:Int)))then(
 obj_Heap_Epoch.C (some f) H3 (λew H4=> ∃cg:Int,ew=.int .u64 cg/\RowAt H4 mA 0 [.pointer (some bw)]/\RowAt H4 bw 0 [.pointer (some bx)]/\RowAt H4 bx 0 [.pointer (some bu)]/\RowAt H4 bu 0 [.int .i64 a8]/\RowAt H4 (mA.add 1) 0 [.int .u64 bt]/\
 if cg=bt then(
 ∃(ea:Int->Array Obj->Prop) (m17:Int->Array Obj->Nat),ea 0 H4/\ ∀(i:Int) (H5:Array Obj),ea i H5->
 if i< (xN:Int)then(
 ∃el:Option Addr,hat H5 f=some (.pointer el)/\
 ∃b7:Addr,el=some b7/\
 ∃eg:Option Addr,hat H5 b7=some (.pointer eg)/\
 ∃b6:Addr,eg=some b6/\
 ∃ce:Option Addr,hat H5 b6=some (.pointer ce)/\
 ∃j:Addr,xB=some j/\
 ((0:Int)<=i/\i< (xN:Int))/\
 ∃c0:Int,hat H5 (j.add (Int.toNat i*1))=some (.int .i64 c0)/\
 (
 seg_Mem_Seg.C ce c0 H5 (λex H6=> ∃(bm bb cw ak aj ai ah:Int) (rb:Bool),ex=.tuple #[.agg #[.int .i64 bm,.int .i64 bb,.int .i64 cw,.int .i64 ak,.int .i64 aj,.int .i64 ai,.int .i64 ah],.bool rb]/\
 ∀(b:Nat) (H7:Array Obj),b=H6.size->H7=H6.push (.cells #[.int .i64 0,.int .i64 0,.int .i64 0,.int .i64 0,.int .i64 0,.int .i64 0,.int .i64 0] 92)->
 (CanPuts H7 (ad b) 0 7)/\ ∀H8,H8=hputs H7 (ad b) [.int .i64 bm,.int .i64 bb,.int .i64 cw,.int .i64 ak,.int .i64 aj,.int .i64 ai,.int .i64 ah] 0->
 ∃d9:Option Addr,hat H8 mA=some (.pointer d9)/\
 ∃dw:Addr,d9=some dw/\
 ∃dy:Option Addr,hat H8 dw=some (.pointer dy)/\
 ∃dz:Addr,dy=some dz/\
 ∃d4:Option Addr,hat H8 dz=some (.pointer d4)/\
 ∃d3:Addr,d4=some d3/\
 ∃(dt:Option Addr) (de dl:Nat),hat H8 (d3.add 1)=some (.slice dt de dl)/\
 ∃c9:Addr,dt=some c9/\
 ((0:Int)<=i/\i< (de:Int))/\
 ∃(dq cz cm dn bi bg be bl:Int) (b2:Option Addr) (b1 b0:Nat),RowAt H8 (c9.add (Int.toNat i*9)) 0 [.int .i64 dq,.int .i64 cz,.int .i64 cm,.int .i64 dn,.int .i64 bi,.int .i64 bg,.int .i64 be,.int .i64 bl,.slice b2 b1 b0]/\
 ∀(r:Nat) (H9:Array Obj),r=H8.size->H9=H8.push (.cells #[.int .i64 0,.int .i64 0,.int .i64 0,.int .i64 0,.int .i64 0,.int .i64 0,.int .i64 0,.int .i64 0,.slice none 0 0] 96)->
 (CanPuts H9 (ad r) 0 9)/\ ∀db,db=hputs H9 (ad r) [.int .i64 dq,.int .i64 cz,.int .i64 cm,.int .i64 dn,.int .i64 bi,.int .i64 bg,.int .i64 be,.int .i64 bl,.slice b2 b1 b0] 0->
 ((0:Int)<=i/\i< (xN:Int))/\
 ∃b9:Int,hat db (j.add (Int.toNat i*1))=some (.int .i64 b9)/\
 ∃o:Addr,l=some o/\
 ((0:Int)<=i/\i< (d:Int))/\
 ∃cs:Int,hat db (o.add (Int.toNat i*1))=some (.int .i64 cs)/\
 if b9=cs then(
 if rb=true then(
 ∃b8 bn b5 aw az ay ax:Int,RowAt db (ad b) 0 [.int .i64 b8,.int .i64 bn,.int .i64 b5,.int .i64 aw,.int .i64 az,.int .i64 ay,.int .i64 ax]/\
 ∃bh ba cf av aq al an:Int,RowAt db ((ad r).add 1) 0 [.int .i64 bh,.int .i64 ba,.int .i64 cf,.int .i64 av,.int .i64 aq,.int .i64 al,.int .i64 an]/\
 (True)/\
 if b8=bh/\bn=ba/\b5=cf/\aw=av/\az=aq/\ay=al/\ax=an then(
 ∃(ec:Int->Array Obj->Prop) (m40:Int->Array Obj->Nat),ec 0 db/\ ∀(a:Int) (H11:Array Obj),ec a H11->
 ∃c5:Int,hat H11 ((ad b).add 2)=some (.int .i64 c5)/\
 if a<c5 then(
 ∃ej:Option Addr,hat H11 f=some (.pointer ej)/\
 ∃ci:Addr,ej=some ci/\
 ∃em:Option Addr,hat H11 ci=some (.pointer em)/\
 ∃ch:Addr,em=some ch/\
 ∃cq:Option Addr,hat H11 ch=some (.pointer cq)/\
 ((0:Int)<=i/\i< (xN:Int))/\
 ∃cl:Int,hat H11 (j.add (Int.toNat i*1))=some (.int .i64 cl)/\
 seg_Mem_Read.C cq (IntKind.wrap .i64 ((IntKind.wrap .i64 (64*cl))+a)) H11 (λev dx=> ∃ra bp:Int,ev=.tuple #[.int .u64 ra,.int .i64 bp]/\
 if bp=0 then(
 ∃(du:Option Addr) (dd dj:Nat),hat dx ((ad r).add 8)=some (.slice du dd dj)/\
 ∃dg:Addr,du=some dg/\
 ((0:Int)<=a/\a< (dd:Int))/\
 ∃c8:Int,hat dx (dg.add (Int.toNat a*1))=some (.int .u64 c8)/\
 if ra=c8 then(
 (ec (IntKind.wrap .i64 (a+1)) dx/\m40 (IntKind.wrap .i64 (a+1)) dx<m40 a H11))
 else
 R (.bool false) dx)
 else
 R (.bool false) dx))
 else
 (ea (IntKind.wrap .i64 (i+1)) H11/\m17 (IntKind.wrap .i64 (i+1)) H11<m17 i H5))
 else
 R (.bool false) db)
 else
 R (.bool false) db)
 else
 R (.bool false) db))/\(
 ∀(p:Nat) (H13:Array Obj),p=H5.size->H13=H5.push (.cells #[.int .i64 0,.int .i64 0,.int .i64 0,.int .i64 0,.int .i64 0,.int .i64 0,.int .i64 0] 92)->RowAt H13 f 0 [.pointer (some b7)]/\RowAt H13 b7 0 [.pointer (some b6)]/\RowAt H13 b6 0 [.pointer ce]/\RowAt H13 (j.add (Int.toNat i*1)) 0 [.int .i64 c0]/\
 seg_Mem_Seg.C ce c0 H13 (λe0 en=> ∃(a3 a0 bq ab z y aa:Int) (u:Bool),e0=.tuple #[.agg #[.int .i64 a3,.int .i64 a0,.int .i64 bq,.int .i64 ab,.int .i64 z,.int .i64 y,.int .i64 aa],.bool u]/\
 (CanPuts en (ad p) 0 7)/\ ∀di,di=hputs en (ad p) [.int .i64 a3,.int .i64 a0,.int .i64 bq,.int .i64 ab,.int .i64 z,.int .i64 y,.int .i64 aa] 0->
 ∃d0:Option Addr,hat di mA=some (.pointer d0)/\
 ∃d5:Addr,d0=some d5/\
 ∃d6:Option Addr,hat di d5=some (.pointer d6)/\
 ∃d7:Addr,d6=some d7/\
 ∃d1:Option Addr,hat di d7=some (.pointer d1)/\
 ∃d2:Addr,d1=some d2/\
 ∃(dv:Option Addr) (dc dk:Nat),hat di (d2.add 1)=some (.slice dv dc dk)/\
 ∃df:Addr,dv=some df/\
 ((0:Int)<=i/\i< (dc:Int))/\
 ∃(cx b3 br cy a6 a4 a5 a7:Int) (bj:Option Addr) (bd bf:Nat),RowAt di (df.add (Int.toNat i*9)) 0 [.int .i64 cx,.int .i64 b3,.int .i64 br,.int .i64 cy,.int .i64 a6,.int .i64 a4,.int .i64 a5,.int .i64 a7,.slice bj bd bf]/\
 ∀(q:Nat) (H16:Array Obj),q=di.size->H16=di.push (.cells #[.int .i64 0,.int .i64 0,.int .i64 0,.int .i64 0,.int .i64 0,.int .i64 0,.int .i64 0,.int .i64 0,.slice none 0 0] 96)->
 (CanPuts H16 (ad q) 0 9)/\ ∀dh,dh=hputs H16 (ad q) [.int .i64 cx,.int .i64 b3,.int .i64 br,.int .i64 cy,.int .i64 a6,.int .i64 a4,.int .i64 a5,.int .i64 a7,.slice bj bd bf] 0->
 ((0:Int)<=i/\i< (xN:Int))/\
 ∃cd:Int,hat dh (j.add (Int.toNat i*1))=some (.int .i64 cd)/\
 ∃n:Addr,l=some n/\
 ((0:Int)<=i/\i< (d:Int))/\
 ∃ct:Int,hat dh (n.add (Int.toNat i*1))=some (.int .i64 ct)/\
 if cd=ct then(
 if u=true then(
 ∃bc a2 b4 ag ae ac af:Int,RowAt dh (ad p) 0 [.int .i64 bc,.int .i64 a2,.int .i64 b4,.int .i64 ag,.int .i64 ae,.int .i64 ac,.int .i64 af]/\
 ∃bk a9 ck am ao au ap:Int,RowAt dh ((ad q).add 1) 0 [.int .i64 bk,.int .i64 a9,.int .i64 ck,.int .i64 am,.int .i64 ao,.int .i64 au,.int .i64 ap]/\
 (True)/\
 if bc=bk/\a2=a9/\b4=ck/\ag=am/\ae=ao/\ac=au/\af=ap then(
 ∃(eb:Int->Array Obj->Prop) (m59:Int->Array Obj->Nat),eb 0 dh/\ ∀(s:Int) (H18:Array Obj),eb s H18->
 ∃c7:Int,hat H18 ((ad p).add 2)=some (.int .i64 c7)/\
 if s<c7 then(
 ∃ee:Option Addr,hat H18 f=some (.pointer ee)/\
 ∃cn:Addr,ee=some cn/\
 ∃ek:Option Addr,hat H18 cn=some (.pointer ek)/\
 ∃cj:Addr,ek=some cj/\
 ∃co:Option Addr,hat H18 cj=some (.pointer co)/\
 ((0:Int)<=i/\i< (xN:Int))/\
 ∃cp:Int,hat H18 (j.add (Int.toNat i*1))=some (.int .i64 cp)/\
 seg_Mem_Read.C co (IntKind.wrap .i64 ((IntKind.wrap .i64 (64*cp))+s)) H18 (λey d8=> ∃a1 bo:Int,ey=.tuple #[.int .u64 a1,.int .i64 bo]/\
 if bo=0 then(
 ∃(dr:Option Addr) (c1 dm:Nat),hat d8 ((ad q).add 8)=some (.slice dr c1 dm)/\
 ∃da:Addr,dr=some da/\
 ((0:Int)<=s/\s< (c1:Int))/\
 ∃c6:Int,hat d8 (da.add (Int.toNat s*1))=some (.int .u64 c6)/\
 if a1=c6 then(
 (eb (IntKind.wrap .i64 (s+1)) d8/\m59 (IntKind.wrap .i64 (s+1)) d8<m59 s H18))
 else
 R (.bool false) d8)
 else
 R (.bool false) d8))
 else
 (ea (IntKind.wrap .i64 (i+1)) H18/\m17 (IntKind.wrap .i64 (i+1)) H18<m17 i H5))
 else
 R (.bool false) dh)
 else
 R (.bool false) dh)
 else
 R (.bool false) dh)))
 else
 R (.bool true) H5)
 else
 R (.bool false) H4))
 else
 R (.bool false) H3))
 else
 R (.bool false) H2))
namespace morainelaw11_Alike
theorem link{hv m:Option Addr}{H:Array Obj}{R:Value->Array Obj->Prop}(h:pt hv m H R):C hv m H R:=by
 refine T_en K0 177 Tryz.func12 ?_
 intro w0 Q hQ
 unfold pt at h
 refine T_su [(0,vp hv),(1,vp m)]<| T_srz 0<| T_ed 1 [] []<| T_sz ?_
 obtain⟨f,rfl,h⟩:=h
 obtain⟨x,q1,h⟩:=h
 obtain⟨xA,rfl,h⟩:=h
 obtain⟨es,q2,h⟩:=h
 obtain⟨c3,rfl,h⟩:=h
 obtain⟨cr,q3,h⟩:=h
 obtain⟨mA,rfl,h⟩:=h
 obtain⟨er,q4,h⟩:=h
 obtain⟨cu,rfl,h⟩:=h
 obtain⟨ep,q5,h⟩:=h
 obtain⟨cv,rfl,h⟩:=h
 obtain⟨dp,q6,h⟩:=h
 refine S_regionG 1 (Code.ops K3) [(10,f,[vp (some xA)]),(10,xA,[vp (some c3)]),(10,c3,[vp cr]),(21,mA,[vp (some cu)]),(21,cu,[vp (some cv)]),(21,cv,[vp dp])] 24 (bv 24 0) (by kernel_rfl) (by kernel_rfl) (by kernel_rfl) (by kernel_rfl) (by kernel_rfl) (show FactsAt _ _ _ from⟨⟨q1,trivial⟩,⟨q2,trivial⟩,⟨q3,trivial⟩,⟨q4,trivial⟩,⟨q5,trivial⟩,⟨q6,trivial⟩,trivial⟩) ?_
 refine T_gp 0 (some 14) (vp (some f)) (bv 24 1) [(0,vp (some f)),(1,vp (some mA)),(14,vp (some f))]<| T_gp1 1 15 (vp (some f)) (bv 24 3) [14]<| T_gp1 2 16 (vp (some f)) (bv 24 7) [15]<| T_g1 3 17 (vp (some xA)) (bv 24 15) [16] (loadN 64 (vp (some f))) (held_one 10 (λ_=>by kernel_rfl) (List.Mem.head _) (.inl (by kernel_rfl)))<| T_gp1 4 18 (vp (some xA)) (bv 24 31) [17]<| T_gp1 5 19 (vp (some xA)) (bv 24 63) [18]<| T_g1 6 20 (vp (some c3)) (bv 24 127) [19] (loadN 68 (vp (some xA))) (held_one 10 (λ_=>by kernel_rfl) (List.Mem.tail _ (List.Mem.head _)) (.inl (by kernel_rfl)))<| T_gp1 7 21 (vp (some c3)) (bv 24 255) [20]<| T_gp1 8 22 (vp (some c3)) (bv 24 511) [21] ?_
 refine T_g1 9 23 (vp cr) (bv 24 1023) [22] (loadN 71 (vp (some c3))) (held_one 10 (λ_=>by kernel_rfl) (List.Mem.tail _ (List.Mem.tail _ (List.Mem.head _))) (.inl (by kernel_rfl)))<| T_gp1 11 25 (vp (some mA)) (bv 24 3071) []<| T_gp1 12 26 (vp (some mA)) (bv 24 7167) [25]<| T_gp1 13 27 (vp (some mA)) (bv 24 15359) [26]<| T_g1 14 28 (vp (some cu)) (bv 24 31743) [27] (loadN 82 (vp (some mA))) (held_one 21 (λ_=>by kernel_rfl) (List.Mem.tail _ (List.Mem.tail _ (List.Mem.tail _ (List.Mem.head _)))) (.inl (by kernel_rfl)))<| T_gp1 15 29 (vp (some cu)) (bv 24 64511) [28]<| T_gp1 16 30 (vp (some cu)) (bv 24 130047) [29]<| T_g1 17 31 (vp (some cv)) (bv 24 261119) [30] (loadN 79 (vp (some cu))) (held_one 21 (λ_=>by kernel_rfl) (List.Mem.tail _ (List.Mem.tail _ (List.Mem.tail _ (List.Mem.tail _ (List.Mem.head _))))) (.inl (by kernel_rfl)))<| T_gp1 18 32 (vp (some cv)) (bv 24 523263) [31] ?_
 refine T_gp1 19 33 (vp (some cv)) (bv 24 1047551) [32]<| T_g1 20 34 (vp dp) (bv 24 2096127) [33] (loadN 76 (vp (some cv))) (held_one 21 (λ_=>by kernel_rfl) (List.Mem.tail _ (List.Mem.tail _ (List.Mem.tail _ (List.Mem.tail _ (List.Mem.tail _ (List.Mem.head _)))))) (.inl (by kernel_rfl))) ?_
 refine G_call 10 (some 24) (bv 24 2097151) 25 #[vp cr,vs none 0 0] (by kernel_rfl) (λ_=>by kernel_rfl) h (by kernel_rfl) ?_;clear h
 rintro v H1 ⟨xB,xN,xC,rfl,h⟩
 obtain⟨f7,f8,f9,h⟩:=h
 refine⟨[(0,vp (some f)),(1,vp (some mA)),(24,vs xB xN xC),(34,vp dp)],pk,(show FactsAt _ _ _ from⟨trivial,trivial,trivial,f7,f8,f9,trivial⟩),?_⟩
 refine G_call 21 (some 35) (bv 24 4194303) 26 #[vp dp,vs none 0 0] (by kernel_rfl) (λ_=>by kernel_rfl) h (by kernel_rfl) ?_;clear h
 rintro ez H2 ⟨l,d,e,rfl,h⟩
 refine⟨[(0,vp (some f)),(1,vp (some mA)),(24,vs xB xN xC),(35,vs l d e)],pk,(show FactsAt _ _ _ from⟨trivial,trivial,trivial,trivial,trivial,trivial,trivial⟩),?_⟩
 refine T_g 22 (some 5) (vs xB xN xC) (bv 24 8388607) [(0,vp (some f)),(1,vp (some mA)),(5,vs xB xN xC),(35,vs l d e)] (pure (.value (vs xB xN xC)):Sem Next) (λ_ _ _ _ _=>rfl)<| T_g1 23 6 (vs l d e) (bv 24 16777215) [35] (pure (.value (vs l d e)):Sem Next) (λ_ _ _ _ _=>rfl) ?_
 refine G_sub [(0,vp (some f)),(1,vp (some mA)),(5,vs xB xN xC),(6,vs l d e)] sk ?_
 refine G_end (by kernel_rfl) ?_
 refine S_then ?_
 refine T_sz<| T_sz ?_
 by_cases c10:(xN:Int)=(d:Int)
 ·rw[if_pos c10]at h
  obtain⟨eo,q12,h⟩:=h
  obtain⟨c4,rfl,h⟩:=h
  obtain⟨et,q13,h⟩:=h
  obtain⟨c2,rfl,h⟩:=h
  obtain⟨bz,q14,h⟩:=h
  obtain⟨ei,q15,h⟩:=h
  obtain⟨bw,rfl,h⟩:=h
  obtain⟨eh,q16,h⟩:=h
  obtain⟨bx,rfl,h⟩:=h
  obtain⟨ef,q17,h⟩:=h
  obtain⟨bu,rfl,h⟩:=h
  obtain⟨a8,q18,h⟩:=h
  obtain⟨bt,q19,h⟩:=h
  refine S_regionG 2 (Code.ops K7) [(16,f,[vp (some c4)]),(16,c4,[vp (some c2)]),(16,c2,[vp bz]),(44,mA,[vp (some bw)]),(44,bw,[vp (some bx)]),(44,bx,[vp (some bu)]),(44,bu,[vi a8]),(44,(mA.add 1),[vu bt])] 44 (bv 44 0) (by kernel_rfl) (by kernel_rfl) (by kernel_rfl) (by kernel_rfl) (by kernel_rfl) (show FactsAt _ _ _ from⟨⟨q12,trivial⟩,⟨q13,trivial⟩,⟨q14,trivial⟩,⟨q15,trivial⟩,⟨q16,trivial⟩,⟨q17,trivial⟩,⟨q18,trivial⟩,⟨q19,trivial⟩,trivial⟩) ?_
  refine T_gp 0 (some 36) (vs xB xN xC) (bv 44 1) [(0,vp (some f)),(1,vp (some mA)),(5,vs xB xN xC),(6,vs l d e),(36,vs xB xN xC)]<| T_gp1 1 37 (vi xN) (bv 44 3) [36]<| T_gp1 2 38 (vs l d e) (bv 44 7) []<| T_gp1 3 39 (vi d) (bv 44 15) [38]<| T_gp1 4 40 (.bool ((xN:Int) !=(d:Int))) (bv 44 31) [37,39]<| T_gp1 5 41 (.bool ((xN:Int) !=(d:Int))) (bv 44 63) [40] ?_
  refine G_bd 41 (bne_eq_false_iff_eq.mpr c10) ?_
  refine T_gp1 6 42 (vp (some f)) (bv 44 127) []<| T_gp1 7 43 (vp (some f)) (bv 44 255) [42]<| T_gp1 8 44 (vp (some f)) (bv 44 511) [43]<| T_g1 9 45 (vp (some c4)) (bv 44 1023) [44] (loadN 64 (vp (some f))) (held_one 16 (λ_=>by kernel_rfl) (List.Mem.head _) (.inl (by kernel_rfl)))<| T_gp1 10 46 (vp (some c4)) (bv 44 2047) [45]<| T_gp1 11 47 (vp (some c4)) (bv 44 4095) [46]<| T_g1 12 48 (vp (some c2)) (bv 44 8191) [47] (loadN 68 (vp (some c4))) (held_one 16 (λ_=>by kernel_rfl) (List.Mem.tail _ (List.Mem.head _)) (.inl (by kernel_rfl)))<| T_gp1 13 49 (vp (some c2)) (bv 44 16383) [48]<| T_gp1 14 50 (vp (some c2)) (bv 44 32767) [49] ?_
  refine T_g1 15 51 (vp bz) (bv 44 65535) [50] (loadN 71 (vp (some c2))) (held_one 16 (λ_=>by kernel_rfl) (List.Mem.tail _ (List.Mem.tail _ (List.Mem.head _))) (.inl (by kernel_rfl)))<| T_gp1 17 53 (vp (some mA)) (bv 44 196607) []<| T_gp1 18 54 (vp (some mA)) (bv 44 458751) [53]<| T_gp1 19 55 (vp (some mA)) (bv 44 983039) [54]<| T_g1 20 56 (vp (some bw)) (bv 44 2031615) [55] (loadN 82 (vp (some mA))) (held_one 44 (λ_=>by kernel_rfl) (List.Mem.tail _ (List.Mem.tail _ (List.Mem.tail _ (List.Mem.head _)))) (.inr (by kernel_rfl)))<| T_gp1 21 57 (vp (some bw)) (bv 44 4128767) [56]<| T_gp1 22 58 (vp (some bw)) (bv 44 8323071) [57]<| T_g1 23 59 (vp (some bx)) (bv 44 16711679) [58] (loadN 79 (vp (some bw))) (held_one 44 (λ_=>by kernel_rfl) (List.Mem.tail _ (List.Mem.tail _ (List.Mem.tail _ (List.Mem.tail _ (List.Mem.head _))))) (.inr (by kernel_rfl)))<| T_gp1 24 60 (vp (some bx)) (bv 44 33488895) [59] ?_
  refine T_gp1 25 61 (vp (some bx)) (bv 44 67043327) [60]<| T_g1 26 62 (vp (some bu)) (bv 44 134152191) [61] (loadN 76 (vp (some bx))) (held_one 44 (λ_=>by kernel_rfl) (List.Mem.tail _ (List.Mem.tail _ (List.Mem.tail _ (List.Mem.tail _ (List.Mem.tail _ (List.Mem.head _)))))) (.inr (by kernel_rfl)))<| T_gp1 27 63 (vp (some bu)) (bv 44 268369919) [62]<| T_gp1 28 64 (vp (some bu)) (bv 44 536805375) [63]<| T_g1 29 65 (vi a8) (bv 44 1073676287) [64] (loadN 3 (vp (some bu))) (held_one 44 (λ_=>by kernel_rfl) (List.Mem.tail _ (List.Mem.tail _ (List.Mem.tail _ (List.Mem.tail _ (List.Mem.tail _ (List.Mem.tail _ (List.Mem.head _))))))) (.inr (by kernel_rfl)))<| T_gp1 30 66 (vs l d e) (bv 44 2147418111) []<| T_gp1 31 67 (vi d) (bv 44 4294901759) [66]<| T_gp1 32 68 (vi (IntKind.wrap .i64 (a8-(d:Int)))) (bv 44 8589869055) [65,67] ?_
  refine G_call 16 (some 52) (bv 44 8589934591) 28 #[vp bz] (by kernel_rfl) (λ_=>by kernel_rfl) h (by kernel_rfl) ?_;clear h
  rintro eu H3 ⟨cc,rfl,h⟩
  obtain⟨f20,f21,f22,f23,f24,h⟩:=h
  refine⟨[(0,vp (some f)),(1,vp (some mA)),(5,vs xB xN xC),(6,vs l d e),(41,.bool false),(52,vi cc),(68,vi (IntKind.wrap .i64 (a8-(d:Int))))],pk,(show FactsAt _ _ _ from⟨trivial,trivial,trivial,f20,f21,f22,f23,f24,trivial⟩),?_⟩
  refine T_g 33 (some 69) (.bool (cc !=(IntKind.wrap .i64 (a8-(d:Int))))) (bv 44 17179869183) [(0,vp (some f)),(1,vp (some mA)),(5,vs xB xN xC),(6,vs l d e),(41,.bool false),(69,.bool (cc !=(IntKind.wrap .i64 (a8-(d:Int)))))] (pure (.value (.bool (cc !=(IntKind.wrap .i64 (a8-(d:Int)))))):Sem Next) (λ_ _ _ _ _=>rfl)<| T_g1 34 70 (.bool (cc !=(IntKind.wrap .i64 (a8-(d:Int))))) (bv 44 34359738367) [41,69] (pure (.value (.bool (cc !=(IntKind.wrap .i64 (a8-(d:Int)))))):Sem Next) (λ_ _ _ _ _=>rfl)<| T_g1 35 71 (.bool (cc !=(IntKind.wrap .i64 (a8-(d:Int))))) (bv 44 68719476735) [70] (pure (.value (.bool (cc !=(IntKind.wrap .i64 (a8-(d:Int)))))):Sem Next) (λ_ _ _ _ _=>rfl) ?_
  by_cases c25:cc=(IntKind.wrap .i64 (a8-(d:Int)))
  ·rw[if_pos c25]at h
   refine G_bd 71 (bne_eq_false_iff_eq.mpr c25) ?_
   refine T_g1 36 72 (vp (some f)) (bv 44 137438953471) [] (pure (.value (vp (some f))):Sem Next) (λ_ _ _ _ _=>rfl)<| T_g1 38 74 (vp (some mA)) (bv 44 412316860415) [] (pure (.value (vp (some mA))):Sem Next) (λ_ _ _ _ _=>rfl)<| T_g1 39 75 (vp (some mA)) (bv 44 962072674303) [74] (pure (.value (vp (some mA))):Sem Next) (λ_ _ _ _ _=>rfl)<| T_g1 40 76 (vp (some (mA.add 1))) (bv 44 2061584302079) [75] (pure (.value (vp (some (mA.add 1)))):Sem Next) (λ_ _ _ _ _=>rfl)<| T_g1 41 77 (vu bt) (bv 44 4260607557631) [76] (loadN 34 (vp (some (mA.add 1)))) (held_one 44 (λ_=>by kernel_rfl) (List.Mem.tail _ (List.Mem.tail _ (List.Mem.tail _ (List.Mem.tail _ (List.Mem.tail _ (List.Mem.tail _ (List.Mem.tail _ (List.Mem.head _)))))))) (.inr (by kernel_rfl))) ?_
   refine G_call 37 (some 73) (bv 44 4398046511103) 27 #[vp (some f)] (by kernel_rfl) (λ_=>by kernel_rfl) h (by kernel_rfl) ?_;clear h
   rintro ew H4 ⟨cg,rfl,h⟩
   obtain⟨f27,f28,f29,f30,f31,h⟩:=h
   refine⟨[(0,vp (some f)),(1,vp (some mA)),(5,vs xB xN xC),(6,vs l d e),(71,.bool false),(73,vu cg),(77,vu bt)],pk,(show FactsAt _ _ _ from⟨trivial,trivial,trivial,f27,f28,f29,f30,f31,trivial⟩),?_⟩
   refine T_g 42 (some 78) (.bool (cg !=bt)) (bv 44 8796093022207) [(0,vp (some f)),(1,vp (some mA)),(5,vs xB xN xC),(6,vs l d e),(71,.bool false),(78,.bool (cg !=bt))] (pure (.value (.bool (cg !=bt))):Sem Next) (λ_ _ _ _ _=>rfl)<| T_g1 43 79 (.bool (cg !=bt)) (bv 44 17592186044415) [71,78] (pure (.value (.bool (cg !=bt))):Sem Next) (λ_ _ _ _ _=>rfl) ?_
   refine G_sub [(0,vp (some f)),(1,vp (some mA)),(5,vs xB xN xC),(6,vs l d e),(79,.bool (cg !=bt))] sk ?_
   refine G_end (by kernel_rfl) ?_
   refine S_then ?_
   by_cases c32:cg=bt
   ·rw[if_pos c32]at h
    refine T_cFz 79 (bne_eq_false_iff_eq.mpr c32)<| T_kt<| T_sz<| T_srz 4<| T_ne 1 [(0,vp (some f)),(1,vp (some mA)),(5,vs xB xN xC),(6,vs l d e),(7,vi 0)]<| T_bz 0 ?_
    obtain⟨ea,m17,i34,i35⟩:=h
    refine S_loop (x:=K16) (σ:=Int) (λs_=> [(0,vp (some f)),(1,vp (some mA)),(5,vs xB xN xC),(6,vs l d e),(7,vi s_)]) (λs_ H=>ea s_ H) (λs_ H=>m17 s_ H) (0:Int) (by kernel_rfl) i34 sk ?_
    rintro i H5 i36
    have h:=i35 i H5 i36
    refine T_su [(0,vp (some f)),(1,vp (some mA)),(5,vs xB xN xC),(6,vs l d e),(7,vi i)]<| T_sz<| T_srz 5<| T_ed 4 [] [(83,.bool (decide (i< (xN:Int))))] ?_
    by_cases c37:i< (xN:Int)
    ·rw[if_pos c37]at h
     refine T_cTz 83 (decide_eq_true c37)<| T_kt<| T_sz<| T_bz 1<| T_sz ?_
     obtain⟨el,q39,h⟩:=h
     obtain⟨b7,rfl,h⟩:=h
     obtain⟨eg,q40,h⟩:=h
     obtain⟨b6,rfl,h⟩:=h
     obtain⟨ce,q41,h⟩:=h
     obtain⟨j,rfl,h⟩:=h
     obtain⟨q42,h⟩:=h
     obtain⟨c0,q43,h⟩:=h
     refine S_regionG 7 (Code.ops K26) [(14,f,[vp (some b7)]),(14,b7,[vp (some b6)]),(14,b6,[vp ce]),(14,(j.add (Int.toNat i*1)),[vi c0])] 21 (bv 21 0) (by kernel_rfl) (by kernel_rfl) (by kernel_rfl) (by kernel_rfl) (by kernel_rfl) (show FactsAt _ _ _ from⟨⟨q39,trivial⟩,⟨q40,trivial⟩,⟨q41,trivial⟩,⟨q43,trivial⟩,trivial⟩) ?_
     refine T_gp 0 (some 87) (vp (some f)) (bv 21 1) [(0,vp (some f)),(1,vp (some mA)),(5,vs (some j) xN xC),(6,vs l d e),(7,vi i),(87,vp (some f))]<| T_gp1 1 88 (vp (some f)) (bv 21 3) [87]<| T_gp1 2 89 (vp (some f)) (bv 21 7) [88]<| T_g1 3 90 (vp (some b7)) (bv 21 15) [89] (loadN 64 (vp (some f))) (held_one 14 (λ_=>by kernel_rfl) (List.Mem.head _) (.inl (by kernel_rfl)))<| T_gp1 4 91 (vp (some b7)) (bv 21 31) [90]<| T_gp1 5 92 (vp (some b7)) (bv 21 63) [91]<| T_g1 6 93 (vp (some b6)) (bv 21 127) [92] (loadN 68 (vp (some b7))) (held_one 14 (λ_=>by kernel_rfl) (List.Mem.tail _ (List.Mem.head _)) (.inl (by kernel_rfl)))<| T_gp1 7 94 (vp (some b6)) (bv 21 255) [93]<| T_gp1 8 95 (vp (some b6)) (bv 21 511) [94] ?_
     refine T_g1 9 96 (vp ce) (bv 21 1023) [95] (loadN 71 (vp (some b6))) (held_one 14 (λ_=>by kernel_rfl) (List.Mem.tail _ (List.Mem.tail _ (List.Mem.head _))) (.inl (by kernel_rfl)))<| T_gp1 10 97 (vs (some j) xN xC) (bv 21 2047) []<| T_gp1 11 98 (vi i) (bv 21 4095) []<| T_g1 12 99 (vp (some (j.add (Int.toNat i*1)))) (bv 21 8191) [97,98] (indexAtN 62 (vs (some j) xN xC) (vi i)) (λ_ w _ _ _=>indexAt_run (P:=Tryz.prog) (t:=62) (elem:=3) (sz:=1) (a:=j) (len:=xN) (cap:=xC) (k:=.i64) (i:=i) Tryz.underlying62 (λ_=>by kernel_rfl) q42.1 q42.2 w)<| T_g1 13 100 (vi c0) (bv 21 16383) [99] (loadN 3 (vp (some (j.add (Int.toNat i*1))))) (held_one 14 (λ_=>by kernel_rfl) (List.Mem.tail _ (List.Mem.tail _ (List.Mem.tail _ (List.Mem.head _)))) (.inl (by kernel_rfl))) ?_
     refine G_fork 14 18 (by kernel_rfl) ?_ ?_
     ·replace h:=h.1
      refine O_call 14 (some 101) (bv 21 32767) 29 #[vp ce,vi c0] (by kernel_rfl) (λ_=>by kernel_rfl) h (by kernel_rfl) ?_;clear h
      rintro ex H6 ⟨bm,bb,cw,ak,aj,ai,ah,rb,rfl,h⟩
      refine⟨[(0,vp (some f)),(1,vp (some mA)),(5,vs (some j) xN xC),(6,vs l d e),(7,vi i),(101,.tuple #[.agg #[vi bm,vi bb,vi cw,vi ak,vi aj,vi ai,vi ah],.bool rb])],pk,(show FactsAt _ _ _ from⟨trivial,trivial,trivial,trivial,trivial⟩),?_⟩
      refine T_g 15 (some 86) (.tuple #[.agg #[vi bm,vi bb,vi cw,vi ak,vi aj,vi ai,vi ah],.bool rb]) (bv 21 65535) [(0,vp (some f)),(1,vp (some mA)),(5,vs (some j) xN xC),(6,vs l d e),(7,vi i),(86,.tuple #[.agg #[vi bm,vi bb,vi cw,vi ak,vi aj,vi ai,vi ah],.bool rb])] (pure (.value (.tuple #[.agg #[vi bm,vi bb,vi cw,vi ak,vi aj,vi ai,vi ah],.bool rb])):Sem Next) (λ_ _ _ _ _=>rfl)<| T_g1 16 102 (.agg #[vi bm,vi bb,vi cw,vi ak,vi aj,vi ai,vi ah]) (bv 21 131071) [] (pure (.value (.agg #[vi bm,vi bb,vi cw,vi ak,vi aj,vi ai,vi ah])):Sem Next) (λ_ _ _ _ _=>rfl)<| T_g1 17 103 (.bool rb) (bv 21 262143) [86] (pure (.value (.bool rb)):Sem Next) (λ_ _ _ _ _=>rfl) ?_
      refine G_new 18 (some 8) (bv 21 524287) (λb=>vp (pa b)) (.cells #[vi 0,vi 0,vi 0,vi 0,vi 0,vi 0,vi 0] 92) (by kernel_rfl) (λ_=>by kernel_rfl) (by kernel_rfl) ?_
      intro b H7 e44 e45
      replace h:=h b H7 e44 e45
      refine⟨[(0,vp (some f)),(1,vp (some mA)),(5,vs (some j) xN xC),(6,vs l d e),(7,vi i),(8,vp (pa b)),(102,.agg #[vi bm,vi bb,vi cw,vi ak,vi aj,vi ai,vi ah]),(103,.bool rb)],pk,(show FactsAt _ _ _ from⟨trivial,trivial,trivial,trivial,trivial⟩),?_⟩
      obtain⟨q47,h⟩:=h
      refine G_onlyskip 19 none (bv 21 1048575) (storeN 92 (vp (pa b)) (.agg #[vi bm,vi bb,vi cw,vi ak,vi aj,vi ai,vi ah])) (λHz=>Hz=hputs H7 (ad b) [vi bm,vi bb,vi cw,vi ak,vi aj,vi ai,vi ah] 0) (by kernel_rfl) (λ_=>by kernel_rfl) (ss_store [vi bm,vi bb,vi cw,vi ak,vi aj,vi ai,vi ah] 7 (by kernel_rfl) (by kernel_rfl) (λ_=>by kernel_rfl) (by kernel_rfl) q47) (by kernel_rfl) ?_
      intro H8 e46
      replace h:=h H8 e46
      refine⟨[(0,vp (some f)),(1,vp (some mA)),(5,vs (some j) xN xC),(6,vs l d e),(7,vi i),(8,vp (pa b)),(103,.bool rb)],pk,(show FactsAt _ _ _ from⟨trivial,trivial,trivial,trivial,trivial⟩),?_⟩
      refine T_g 20 (some 9) (.bool rb) (bv 21 2097151) [(0,vp (some f)),(1,vp (some mA)),(5,vs (some j) xN xC),(6,vs l d e),(7,vi i),(8,vp (pa b)),(9,.bool rb)] (pure (.value (.bool rb)):Sem Next) (λ_ _ _ _ _=>rfl) ?_
      refine G_sub [(0,vp (some f)),(1,vp (some mA)),(5,vs (some j) xN xC),(6,vs l d e),(7,vi i),(8,vp (pa b)),(9,.bool rb)] sk ?_
      refine G_end (by kernel_rfl) ?_
      refine S_then ?_
      refine T_srz 8<| T_n 3 [(0,vp (some f)),(1,vp (some mA)),(5,vs (some j) xN xC),(6,vs l d e),(7,vi i),(8,vp (pa b)),(9,.bool rb),(106,vp (some mA))] ?_
      obtain⟨d9,q48,h⟩:=h
      refine T_l1 107 82 q48 [106] ?_
      obtain⟨dw,rfl,h⟩:=h
      refine T_nd 2 [107] [(109,vp (some dw))] ?_
      obtain⟨dy,q49,h⟩:=h
      refine T_l1 110 79 q49 [109] ?_
      obtain⟨dz,rfl,h⟩:=h
      refine T_nd 2 [110] [(112,vp (some dz))] ?_
      obtain⟨d4,q50,h⟩:=h
      refine T_l1 113 76 q50 [112] ?_
      obtain⟨d3,rfl,h⟩:=h
      refine T_nd 2 [113] [(115,vp (some (d3.add 1)))] ?_
      obtain⟨dt,de,dl,q51,h⟩:=h
      refine T_l1 116 88 q51 [115]<| T_nd 1 [] [(117,vi i)] ?_
      obtain⟨c9,rfl,h⟩:=h
      obtain⟨q52,h⟩:=h
      refine T_xd (some 118) 88 96 9 c9 de dl .i64 i Tryz.underlying88 q52.1 q52.2 [116,117] [(118,vp (some (c9.add (Int.toNat i*9))))] ?_
      obtain⟨dq,cz,cm,dn,bi,bg,be,bl,b2,b1,b0,q53,h⟩:=h
      refine T_lr 119 96 q53 [118]<| T_nw (some 10) (λb=>vp (pa b)) (.cells #[vi 0,vi 0,vi 0,vi 0,vi 0,vi 0,vi 0,vi 0,vs none 0 0] 96) ?_
      intro r H9 e54 e55
      replace h:=h r H9 e54 e55
      refine T_pd [] [(10,vp (pa r))] ?_
      obtain⟨q57,h⟩:=h
      refine T_sta 96 [vi dq,vi cz,vi cm,vi dn,vi bi,vi bg,vi be,vi bl,vs b2 b1 b0] q57 ?_
      intro db e56
      replace h:=h db e56
      refine T_pd [119] []<| T_e<| T_sz<| T_sz<| T_rqz 9<| T_q1 120 (vs (some j) xN xC) []<| T_q1 121 (vi i) [] ?_
      obtain⟨q58,h⟩:=h
      refine Q_op (some 122) (indexAtN 62 (vs (some j) xN xC) (vi i)) (vp (some (j.add (Int.toNat i*1)))) (λ_=>by kernel_rfl) (λw _=>indexAt_run (P:=Tryz.prog) (t:=62) (elem:=3) (sz:=1) (a:=j) (len:=xN) (cap:=xC) (k:=.i64) (i:=i) Tryz.underlying62 (λ_=>by kernel_rfl) q58.1 q58.2 w) [(0,vp (some f)),(1,vp (some mA)),(5,vs (some j) xN xC),(6,vs l d e),(7,vi i),(8,vp (pa b)),(9,.bool rb),(10,vp (pa r)),(122,vp (some (j.add (Int.toNat i*1))))] pk ?_
      obtain⟨b9,q59,h⟩:=h
      refine T_ql (some 123) 3 q59 [(0,vp (some f)),(1,vp (some mA)),(5,vs (some j) xN xC),(6,vs l d e),(7,vi i),(8,vp (pa b)),(9,.bool rb),(10,vp (pa r)),(123,vi b9)]<| T_q1 124 (vs l d e) []<| T_q1 125 (vi i) [] ?_
      obtain⟨o,rfl,h⟩:=h
      obtain⟨q60,h⟩:=h
      refine Q_op (some 126) (indexAtN 62 (vs (some o) d e) (vi i)) (vp (some (o.add (Int.toNat i*1)))) (λ_=>by kernel_rfl) (λw _=>indexAt_run (P:=Tryz.prog) (t:=62) (elem:=3) (sz:=1) (a:=o) (len:=d) (cap:=e) (k:=.i64) (i:=i) Tryz.underlying62 (λ_=>by kernel_rfl) q60.1 q60.2 w) [(0,vp (some f)),(1,vp (some mA)),(5,vs (some j) xN xC),(6,vs (some o) d e),(7,vi i),(8,vp (pa b)),(9,.bool rb),(10,vp (pa r)),(123,vi b9),(126,vp (some (o.add (Int.toNat i*1))))] pk ?_
      obtain⟨cs,q61,h⟩:=h
      refine T_ql (some 127) 3 q61 [(0,vp (some f)),(1,vp (some mA)),(5,vs (some j) xN xC),(6,vs (some o) d e),(7,vi i),(8,vp (pa b)),(9,.bool rb),(10,vp (pa r)),(123,vi b9),(127,vi cs)]<| T_q1 128 (.bool (b9 !=cs)) [123,127]<| T_q1 129 (.bool (b9 !=cs)) [128] ?_
      by_cases c62:b9=cs
      ·rw[if_pos c62]at h
       refine Q_bd 129 (bne_eq_false_iff_eq.mpr c62)<| T_q1 130 (.bool rb) [9]<| T_q1 131 (.bool (!rb)) [130]<| T_q1 132 (.bool (!rb)) [129,131]<| T_q1 133 (.bool (!rb)) [132] ?_
       by_cases c64:rb=true
       ·rw[if_pos c64]at h
        have b65:(!rb)=false:=congrArg Bool.not (c64)
        have b652:rb=true:=c64
        refine Q_bd 133 (b:=(!rb)) (v:=false) (by simp only[b65,b652,Bool.not_true,Bool.not_false]) ?_
        clear b65 b652
        obtain⟨b8,bn,b5,aw,az,ay,ax,q66,h⟩:=h
        refine Q_op (some 134) (loadN 92 (vp (pa b))) (.agg #[vi b8,vi bn,vi b5,vi aw,vi az,vi ay,vi ax]) (λ_=>by kernel_rfl) (loadN_run (loadOK_row (λ_=>by kernel_rfl) (λ_=>by kernel_rfl) q66)) [(0,vp (some f)),(1,vp (some mA)),(5,vs (some j) xN xC),(6,vs (some o) d e),(7,vi i),(8,vp (pa b)),(10,vp (pa r)),(133,.bool false),(134,.agg #[vi b8,vi bn,vi b5,vi aw,vi az,vi ay,vi ax])] pk ?_
        refine T_q (some 135) (vp (some ((ad r).add 1))) [(0,vp (some f)),(1,vp (some mA)),(5,vs (some j) xN xC),(6,vs (some o) d e),(7,vi i),(8,vp (pa b)),(10,vp (pa r)),(133,.bool false),(134,.agg #[vi b8,vi bn,vi b5,vi aw,vi az,vi ay,vi ax]),(135,vp (some ((ad r).add 1)))] ?_
        obtain⟨bh,ba,cf,av,aq,al,an,q67,h⟩:=h
        refine Q_op (some 136) (loadN 92 (vp (some ((ad r).add 1)))) (.agg #[vi bh,vi ba,vi cf,vi av,vi aq,vi al,vi an]) (λ_=>by kernel_rfl) (loadN_run (loadOK_row (λ_=>by kernel_rfl) (λ_=>by kernel_rfl) q67)) [(0,vp (some f)),(1,vp (some mA)),(5,vs (some j) xN xC),(6,vs (some o) d e),(7,vi i),(8,vp (pa b)),(10,vp (pa r)),(133,.bool false),(134,.agg #[vi b8,vi bn,vi b5,vi aw,vi az,vi ay,vi ax]),(136,.agg #[vi bh,vi ba,vi cf,vi av,vi aq,vi al,vi an])] pk ?_
        obtain⟨q68,h⟩:=h
        refine Q_op (some 137) (binN .neq 92 (.agg #[vi b8,vi bn,vi b5,vi aw,vi az,vi ay,vi ax]) (.agg #[vi bh,vi ba,vi cf,vi av,vi aq,vi al,vi an])) (.bool (!(decide (b8=bh/\bn=ba/\b5=cf/\aw=av/\az=aq/\ay=al/\ax=an)))) (λ_=>by kernel_rfl) (λw _=>neq7_run (P:=Tryz.prog) (T:=92) (A:=72) (I:=3) Tryz.underlying92 (by kernel_rfl) Tryz.underlying3 Tryz.underlying72 (show Tryz.prog.info? 3=some Tryz.t3 from by kernel_rfl) (by kernel_rfl) ⟨by decide,by decide,by decide,by decide⟩ ⟨rfl,rfl,rfl,rfl⟩ ⟨rfl,rfl,rfl,rfl⟩ (λ_=>by kernel_rfl) (λ_=>by kernel_rfl) (λ_=>by kernel_rfl) w) [(0,vp (some f)),(1,vp (some mA)),(5,vs (some j) xN xC),(6,vs (some o) d e),(7,vi i),(8,vp (pa b)),(10,vp (pa r)),(133,.bool false),(137,.bool (!(decide (b8=bh/\bn=ba/\b5=cf/\aw=av/\az=aq/\ay=al/\ax=an))))] pk ?_
        refine T_q (some 138) (.bool (!(decide (b8=bh/\bn=ba/\b5=cf/\aw=av/\az=aq/\ay=al/\ax=an)))) [(0,vp (some f)),(1,vp (some mA)),(5,vs (some j) xN xC),(6,vs (some o) d e),(7,vi i),(8,vp (pa b)),(10,vp (pa r)),(138,.bool (!(decide (b8=bh/\bn=ba/\b5=cf/\aw=av/\az=aq/\ay=al/\ax=an))))] ?_
        refine Q_sub [(0,vp (some f)),(1,vp (some mA)),(5,vs (some j) xN xC),(6,vs (some o) d e),(7,vi i),(8,vp (pa b)),(10,vp (pa r)),(138,.bool (!(decide (b8=bh/\bn=ba/\b5=cf/\aw=av/\az=aq/\ay=al/\ax=an))))] sk ?_
        refine T_qe ?_
        by_cases c69:b8=bh/\bn=ba/\b5=cf/\aw=av/\az=aq/\ay=al/\ax=an
        ·rw[if_pos c69]at h
         refine T_cFz 138 (nd_pos c69)<| T_kt<| T_srz 11<| T_ne 1 [(0,vp (some f)),(1,vp (some mA)),(5,vs (some j) xN xC),(6,vs (some o) d e),(7,vi i),(8,vp (pa b)),(10,vp (pa r)),(11,vi 0)]<| T_bz 2 ?_
         obtain⟨ec,m40,i71,i72⟩:=h
         refine S_loop (x:=K39) (σ:=Int) (λs_=> [(0,vp (some f)),(1,vp (some mA)),(5,vs (some j) xN xC),(6,vs (some o) d e),(7,vi i),(8,vp (pa b)),(10,vp (pa r)),(11,vi s_)]) (λs_ H=>ec s_ H) (λs_ H=>m40 s_ H) (0:Int) (by kernel_rfl) i71 sk ?_
         rintro a H11 i73
         have h:=i72 a H11 i73
         refine T_su [(0,vp (some f)),(1,vp (some mA)),(5,vs (some j) xN xC),(6,vs (some o) d e),(7,vi i),(8,vp (pa b)),(10,vp (pa r)),(11,vi a)]<| T_sz<| T_srz 12<| T_nd 2 [] [(139,vi a),(140,vp (some ((ad b).add 2)))] ?_
         obtain⟨c5,q74,h⟩:=h
         refine T_l1 141 3 q74 [140]<| T_ed 1 [139,141] [(142,.bool (decide (a<c5)))] ?_
         by_cases c75:a<c5
         ·rw[if_pos c75]at h
          refine T_cTz 142 (decide_eq_true c75)<| T_kt<| T_sz<| T_bz 3<| T_sz ?_
          obtain⟨ej,q77,h⟩:=h
          obtain⟨ci,rfl,h⟩:=h
          obtain⟨em,q78,h⟩:=h
          obtain⟨ch,rfl,h⟩:=h
          obtain⟨cq,q79,h⟩:=h
          obtain⟨q80,h⟩:=h
          obtain⟨cl,q81,h⟩:=h
          refine S_regionG 14 (Code.ops K49) [(17,f,[vp (some ci)]),(17,ci,[vp (some ch)]),(17,ch,[vp cq]),(17,(j.add (Int.toNat i*1)),[vi cl])] 23 (bv 23 0) (by kernel_rfl) (by kernel_rfl) (by kernel_rfl) (by kernel_rfl) (by kernel_rfl) (show FactsAt _ _ _ from⟨⟨q77,trivial⟩,⟨q78,trivial⟩,⟨q79,trivial⟩,⟨q81,trivial⟩,trivial⟩) ?_
          refine T_gp 0 (some 146) (vp (some f)) (bv 23 1) [(0,vp (some f)),(1,vp (some mA)),(5,vs (some j) xN xC),(6,vs (some o) d e),(7,vi i),(8,vp (pa b)),(10,vp (pa r)),(11,vi a),(146,vp (some f))]<| T_gp1 1 147 (vp (some f)) (bv 23 3) [146]<| T_gp1 2 148 (vp (some f)) (bv 23 7) [147]<| T_g1 3 149 (vp (some ci)) (bv 23 15) [148] (loadN 64 (vp (some f))) (held_one 17 (λ_=>by kernel_rfl) (List.Mem.head _) (.inl (by kernel_rfl)))<| T_gp1 4 150 (vp (some ci)) (bv 23 31) [149]<| T_gp1 5 151 (vp (some ci)) (bv 23 63) [150]<| T_g1 6 152 (vp (some ch)) (bv 23 127) [151] (loadN 68 (vp (some ci))) (held_one 17 (λ_=>by kernel_rfl) (List.Mem.tail _ (List.Mem.head _)) (.inl (by kernel_rfl)))<| T_gp1 7 153 (vp (some ch)) (bv 23 255) [152]<| T_gp1 8 154 (vp (some ch)) (bv 23 511) [153] ?_
          refine T_g1 9 155 (vp cq) (bv 23 1023) [154] (loadN 71 (vp (some ch))) (held_one 17 (λ_=>by kernel_rfl) (List.Mem.tail _ (List.Mem.tail _ (List.Mem.head _))) (.inl (by kernel_rfl)))<| T_gp1 10 156 (vs (some j) xN xC) (bv 23 2047) []<| T_gp1 11 157 (vi i) (bv 23 4095) []<| T_g1 12 158 (vp (some (j.add (Int.toNat i*1)))) (bv 23 8191) [156,157] (indexAtN 62 (vs (some j) xN xC) (vi i)) (λ_ w _ _ _=>indexAt_run (P:=Tryz.prog) (t:=62) (elem:=3) (sz:=1) (a:=j) (len:=xN) (cap:=xC) (k:=.i64) (i:=i) Tryz.underlying62 (λ_=>by kernel_rfl) q80.1 q80.2 w)<| T_g1 13 159 (vi cl) (bv 23 16383) [158] (loadN 3 (vp (some (j.add (Int.toNat i*1))))) (held_one 17 (λ_=>by kernel_rfl) (List.Mem.tail _ (List.Mem.tail _ (List.Mem.tail _ (List.Mem.head _)))) (.inl (by kernel_rfl)))<| T_gp1 14 160 (vi (IntKind.wrap .i64 (64*cl))) (bv 23 32767) [159]<| T_gp1 15 161 (vi a) (bv 23 65535) []<| T_gp1 16 162 (vi (IntKind.wrap .i64 ((IntKind.wrap .i64 (64*cl))+a))) (bv 23 131071) [160,161] ?_
          refine G_call 17 (some 163) (bv 23 262143) 56 #[vp cq,vi (IntKind.wrap .i64 ((IntKind.wrap .i64 (64*cl))+a))] (by kernel_rfl) (λ_=>by kernel_rfl) h (by kernel_rfl) ?_;clear h
          rintro ev dx ⟨ra,bp,rfl,h⟩
          refine⟨[(0,vp (some f)),(1,vp (some mA)),(5,vs (some j) xN xC),(6,vs (some o) d e),(7,vi i),(8,vp (pa b)),(10,vp (pa r)),(11,vi a),(163,.tuple #[vu ra,vi bp])],pk,(show FactsAt _ _ _ from⟨trivial,trivial,trivial,trivial,trivial⟩),?_⟩
          refine T_g 18 (some 145) (.tuple #[vu ra,vi bp]) (bv 23 524287) [(0,vp (some f)),(1,vp (some mA)),(5,vs (some j) xN xC),(6,vs (some o) d e),(7,vi i),(8,vp (pa b)),(10,vp (pa r)),(11,vi a),(145,.tuple #[vu ra,vi bp])] (pure (.value (.tuple #[vu ra,vi bp])):Sem Next) (λ_ _ _ _ _=>rfl)<| T_g1 19 164 (vu ra) (bv 23 1048575) [] (pure (.value (vu ra)):Sem Next) (λ_ _ _ _ _=>rfl)<| T_g1 20 165 (vi bp) (bv 23 2097151) [145] (pure (.value (vi bp)):Sem Next) (λ_ _ _ _ _=>rfl)<| T_g1 21 12 (vu ra) (bv 23 4194303) [164] (pure (.value (vu ra)):Sem Next) (λ_ _ _ _ _=>rfl)<| T_g1 22 13 (vi bp) (bv 23 8388607) [165] (pure (.value (vi bp)):Sem Next) (λ_ _ _ _ _=>rfl) ?_
          refine G_sub [(0,vp (some f)),(1,vp (some mA)),(5,vs (some j) xN xC),(6,vs (some o) d e),(7,vi i),(8,vp (pa b)),(10,vp (pa r)),(11,vi a),(12,vu ra),(13,vi bp)] sk ?_
          refine G_end (by kernel_rfl) ?_
          refine S_then ?_
          refine T_srz 15<| T_n 3 [(0,vp (some f)),(1,vp (some mA)),(5,vs (some j) xN xC),(6,vs (some o) d e),(7,vi i),(8,vp (pa b)),(10,vp (pa r)),(11,vi a),(12,vu ra),(168,.bool (bp !=0))] ?_
          by_cases c82:bp=0
          ·rw[if_pos c82]at h
           have b83:(bp !=0)=false:=bne_eq_false_iff_eq.mpr c82
           refine N_env [(0,vp (some f)),(1,vp (some mA)),(5,vs (some j) xN xC),(6,vs (some o) d e),(7,vi i),(8,vp (pa b)),(10,vp (pa r)),(11,vi a),(12,vu ra),(168,.bool false)] (by rw[b83]) ?_
           clear b83
           refine T_nd 2 [12] [(169,vu ra),(170,vp (some ((ad r).add 8)))] ?_
           obtain⟨du,dd,dj,q84,h⟩:=h
           refine T_l1 171 31 q84 [170]<| T_nd 1 [] [(172,vi a)] ?_
           obtain⟨dg,rfl,h⟩:=h
           obtain⟨q85,h⟩:=h
           refine T_xd (some 173) 31 35 1 dg dd dj .i64 a Tryz.underlying31 q85.1 q85.2 [171,172] [(173,vp (some (dg.add (Int.toNat a*1))))] ?_
           obtain⟨c8,q86,h⟩:=h
           refine T_l1 174 35 q86 [173]<| T_ed 2 [168,169,174] [(176,.bool (ra !=c8))] ?_
           by_cases c87:ra=c8
           ·rw[if_pos c87]at h
            refine T_cFz 176 (bne_eq_false_iff_eq.mpr c87)<| T_k ?_
            refine S_blockEnd ?_
            refine S_then ?_
            refine T_rz 13<| T_ed 3 [11,176] [(11,vi (IntKind.wrap .i64 (a+1)))] ?_
            exact S_round ((IntKind.wrap .i64 (a+1)):Int) sk h
           rw[if_neg c87]at h
           exact T_cTz 176 (bne_iff_ne.mpr c87)<| T_srz 16<| T_nr 1 [4] [.bool false] hQ h
          rw[if_neg c82]at h
          have b83:(bp !=0)=true:=bne_iff_ne.mpr c82
          refine N_env [(0,vp (some f)),(1,vp (some mA)),(5,vs (some j) xN xC),(6,vs (some o) d e),(7,vi i),(8,vp (pa b)),(10,vp (pa r)),(11,vi a),(12,vu ra),(168,.bool true)] (by rw[b83]) ?_
          clear b83
          exact T_ed 8 [12,168] [(176,.bool true)]<| T_tz 176<| T_srz 16<| T_nr 1 [4] [.bool false] hQ h
         rw[if_neg c75]at h
         refine T_cFz 142 (decide_eq_false c75) ?_
         refine S_exit 2 (by kernel_rfl) ?_
         refine S_exitThen ?_
         refine S_exitThen ?_
         refine S_exitHere ?_
         refine S_blockEnd ?_
         refine S_then ?_
         refine T_rz 6<| T_ed 3 [7,8,10,11,142] [(7,vi (IntKind.wrap .i64 (i+1)))] ?_
         exact S_round ((IntKind.wrap .i64 (i+1)):Int) sk h
        rw[if_neg c69]at h
        exact T_cTz 138 (nd_neg c69)<| T_srz 10<| T_nr 1 [4] [.bool false] hQ h
       rw[if_neg c64]at h
       have b65:(!rb)=true:=congrArg Bool.not (eq_false_of_ne_true c64)
       have b652:rb=false:=eq_false_of_ne_true c64
       refine Q_bd 133 (b:=(!rb)) (v:=true) (by simp only[b65,b652,Bool.not_true,Bool.not_false]) ?_
       clear b65 b652
       refine T_q1 134 (undef) []<| T_q1 135 (undef) []<| T_q1 136 (undef) [135]<| T_q1 137 (undef) [134,136]<| T_q1 138 (.bool true) [133,137] ?_
       refine Q_sub [(0,vp (some f)),(1,vp (some mA)),(5,vs (some j) xN xC),(6,vs (some o) d e),(7,vi i),(8,vp (pa b)),(10,vp (pa r)),(138,.bool true)] sk ?_
       exact T_qe<| T_tz 138<| T_srz 10<| T_nr 1 [4] [.bool false] hQ h
      rw[if_neg c62]at h
      refine Q_bd 129 (bne_iff_ne.mpr c62)<| T_q1 130 (undef) [9]<| T_q1 131 (undef) [130]<| T_q1 132 (.bool true) [129,131]<| T_q1 133 (.bool true) [132]<| T_q1 134 (undef) []<| T_q1 135 (undef) []<| T_q1 136 (undef) [135]<| T_q1 137 (undef) [134,136] ?_
      refine T_q1 138 (.bool true) [133,137] ?_
      refine Q_sub [(0,vp (some f)),(1,vp (some mA)),(5,vs (some j) xN xC),(6,vs (some o) d e),(7,vi i),(8,vp (pa b)),(10,vp (pa r)),(138,.bool true)] sk ?_
      exact T_qe<| T_tz 138<| T_srz 10<| T_nr 1 [4] [.bool false] hQ h
     replace h:=h.2
     refine O_new 18 (some 8) (bv 21 278527) (λb=>vp (pa b)) (.cells #[vi 0,vi 0,vi 0,vi 0,vi 0,vi 0,vi 0] 92) (by kernel_rfl) (λ_=>by kernel_rfl) (by kernel_rfl) ?_
     intro p H13 e93 e94
     replace h:=h p H13 e93 e94
     obtain⟨f89,f90,f91,f92,h⟩:=h
     refine⟨[(0,vp (some f)),(1,vp (some mA)),(5,vs (some j) xN xC),(6,vs l d e),(7,vi i),(8,vp (pa p)),(96,vp ce),(100,vi c0)],pk,(show FactsAt _ _ _ from⟨f89,f90,f91,f92,trivial⟩),?_⟩
     refine G_call 14 (some 101) (bv 21 294911) 29 #[vp ce,vi c0] (by kernel_rfl) (λ_=>by kernel_rfl) h (by kernel_rfl) ?_;clear h
     rintro e0 en ⟨a3,a0,bq,ab,z,y,aa,u,rfl,h⟩
     refine⟨[(0,vp (some f)),(1,vp (some mA)),(5,vs (some j) xN xC),(6,vs l d e),(7,vi i),(8,vp (pa p)),(101,.tuple #[.agg #[vi a3,vi a0,vi bq,vi ab,vi z,vi y,vi aa],.bool u])],pk,(show FactsAt _ _ _ from⟨trivial,trivial,trivial,trivial,trivial⟩),?_⟩
     refine T_g 15 (some 86) (.tuple #[.agg #[vi a3,vi a0,vi bq,vi ab,vi z,vi y,vi aa],.bool u]) (bv 21 327679) [(0,vp (some f)),(1,vp (some mA)),(5,vs (some j) xN xC),(6,vs l d e),(7,vi i),(8,vp (pa p)),(86,.tuple #[.agg #[vi a3,vi a0,vi bq,vi ab,vi z,vi y,vi aa],.bool u])] (pure (.value (.tuple #[.agg #[vi a3,vi a0,vi bq,vi ab,vi z,vi y,vi aa],.bool u])):Sem Next) (λ_ _ _ _ _=>rfl)<| T_g1 16 102 (.agg #[vi a3,vi a0,vi bq,vi ab,vi z,vi y,vi aa]) (bv 21 393215) [] (pure (.value (.agg #[vi a3,vi a0,vi bq,vi ab,vi z,vi y,vi aa])):Sem Next) (λ_ _ _ _ _=>rfl)<| T_g1 17 103 (.bool u) (bv 21 524287) [86] (pure (.value (.bool u)):Sem Next) (λ_ _ _ _ _=>rfl) ?_
     obtain⟨q96,h⟩:=h
     refine G_onlyskip 19 none (bv 21 1048575) (storeN 92 (vp (pa p)) (.agg #[vi a3,vi a0,vi bq,vi ab,vi z,vi y,vi aa])) (λHz=>Hz=hputs en (ad p) [vi a3,vi a0,vi bq,vi ab,vi z,vi y,vi aa] 0) (by kernel_rfl) (λ_=>by kernel_rfl) (ss_store [vi a3,vi a0,vi bq,vi ab,vi z,vi y,vi aa] 7 (by kernel_rfl) (by kernel_rfl) (λ_=>by kernel_rfl) (by kernel_rfl) q96) (by kernel_rfl) ?_
     intro di e95
     replace h:=h di e95
     refine⟨[(0,vp (some f)),(1,vp (some mA)),(5,vs (some j) xN xC),(6,vs l d e),(7,vi i),(8,vp (pa p)),(103,.bool u)],pk,(show FactsAt _ _ _ from⟨trivial,trivial,trivial,trivial,trivial⟩),?_⟩
     refine T_g 20 (some 9) (.bool u) (bv 21 2097151) [(0,vp (some f)),(1,vp (some mA)),(5,vs (some j) xN xC),(6,vs l d e),(7,vi i),(8,vp (pa p)),(9,.bool u)] (pure (.value (.bool u)):Sem Next) (λ_ _ _ _ _=>rfl) ?_
     refine G_sub [(0,vp (some f)),(1,vp (some mA)),(5,vs (some j) xN xC),(6,vs l d e),(7,vi i),(8,vp (pa p)),(9,.bool u)] sk ?_
     refine G_end (by kernel_rfl) ?_
     refine S_then ?_
     refine T_srz 8<| T_n 3 [(0,vp (some f)),(1,vp (some mA)),(5,vs (some j) xN xC),(6,vs l d e),(7,vi i),(8,vp (pa p)),(9,.bool u),(106,vp (some mA))] ?_
     obtain⟨d0,q97,h⟩:=h
     refine T_l1 107 82 q97 [106] ?_
     obtain⟨d5,rfl,h⟩:=h
     refine T_nd 2 [107] [(109,vp (some d5))] ?_
     obtain⟨d6,q98,h⟩:=h
     refine T_l1 110 79 q98 [109] ?_
     obtain⟨d7,rfl,h⟩:=h
     refine T_nd 2 [110] [(112,vp (some d7))] ?_
     obtain⟨d1,q99,h⟩:=h
     refine T_l1 113 76 q99 [112] ?_
     obtain⟨d2,rfl,h⟩:=h
     refine T_nd 2 [113] [(115,vp (some (d2.add 1)))] ?_
     obtain⟨dv,dc,dk,q100,h⟩:=h
     refine T_l1 116 88 q100 [115]<| T_nd 1 [] [(117,vi i)] ?_
     obtain⟨df,rfl,h⟩:=h
     obtain⟨q101,h⟩:=h
     refine T_xd (some 118) 88 96 9 df dc dk .i64 i Tryz.underlying88 q101.1 q101.2 [116,117] [(118,vp (some (df.add (Int.toNat i*9))))] ?_
     obtain⟨cx,b3,br,cy,a6,a4,a5,a7,bj,bd,bf,q102,h⟩:=h
     refine T_lr 119 96 q102 [118]<| T_nw (some 10) (λb=>vp (pa b)) (.cells #[vi 0,vi 0,vi 0,vi 0,vi 0,vi 0,vi 0,vi 0,vs none 0 0] 96) ?_
     intro q H16 e103 e104
     replace h:=h q H16 e103 e104
     refine T_pd [] [(10,vp (pa q))] ?_
     obtain⟨q106,h⟩:=h
     refine T_sta 96 [vi cx,vi b3,vi br,vi cy,vi a6,vi a4,vi a5,vi a7,vs bj bd bf] q106 ?_
     intro dh e105
     replace h:=h dh e105
     refine T_pd [119] []<| T_e<| T_sz<| T_sz<| T_rqz 9<| T_q1 120 (vs (some j) xN xC) []<| T_q1 121 (vi i) [] ?_
     obtain⟨q107,h⟩:=h
     refine Q_op (some 122) (indexAtN 62 (vs (some j) xN xC) (vi i)) (vp (some (j.add (Int.toNat i*1)))) (λ_=>by kernel_rfl) (λw _=>indexAt_run (P:=Tryz.prog) (t:=62) (elem:=3) (sz:=1) (a:=j) (len:=xN) (cap:=xC) (k:=.i64) (i:=i) Tryz.underlying62 (λ_=>by kernel_rfl) q107.1 q107.2 w) [(0,vp (some f)),(1,vp (some mA)),(5,vs (some j) xN xC),(6,vs l d e),(7,vi i),(8,vp (pa p)),(9,.bool u),(10,vp (pa q)),(122,vp (some (j.add (Int.toNat i*1))))] pk ?_
     obtain⟨cd,q108,h⟩:=h
     refine T_ql (some 123) 3 q108 [(0,vp (some f)),(1,vp (some mA)),(5,vs (some j) xN xC),(6,vs l d e),(7,vi i),(8,vp (pa p)),(9,.bool u),(10,vp (pa q)),(123,vi cd)]<| T_q1 124 (vs l d e) []<| T_q1 125 (vi i) [] ?_
     obtain⟨n,rfl,h⟩:=h
     obtain⟨q109,h⟩:=h
     refine Q_op (some 126) (indexAtN 62 (vs (some n) d e) (vi i)) (vp (some (n.add (Int.toNat i*1)))) (λ_=>by kernel_rfl) (λw _=>indexAt_run (P:=Tryz.prog) (t:=62) (elem:=3) (sz:=1) (a:=n) (len:=d) (cap:=e) (k:=.i64) (i:=i) Tryz.underlying62 (λ_=>by kernel_rfl) q109.1 q109.2 w) [(0,vp (some f)),(1,vp (some mA)),(5,vs (some j) xN xC),(6,vs (some n) d e),(7,vi i),(8,vp (pa p)),(9,.bool u),(10,vp (pa q)),(123,vi cd),(126,vp (some (n.add (Int.toNat i*1))))] pk ?_
     obtain⟨ct,q110,h⟩:=h
     refine T_ql (some 127) 3 q110 [(0,vp (some f)),(1,vp (some mA)),(5,vs (some j) xN xC),(6,vs (some n) d e),(7,vi i),(8,vp (pa p)),(9,.bool u),(10,vp (pa q)),(123,vi cd),(127,vi ct)]<| T_q1 128 (.bool (cd !=ct)) [123,127]<| T_q1 129 (.bool (cd !=ct)) [128] ?_
     by_cases c111:cd=ct
     ·rw[if_pos c111]at h
      refine Q_bd 129 (bne_eq_false_iff_eq.mpr c111)<| T_q1 130 (.bool u) [9]<| T_q1 131 (.bool (!u)) [130]<| T_q1 132 (.bool (!u)) [129,131]<| T_q1 133 (.bool (!u)) [132] ?_
      by_cases c113:u=true
      ·rw[if_pos c113]at h
       have b114:(!u)=false:=congrArg Bool.not (c113)
       have b1142:u=true:=c113
       refine Q_bd 133 (b:=(!u)) (v:=false) (by simp only[b114,b1142,Bool.not_true,Bool.not_false]) ?_
       clear b114 b1142
       obtain⟨bc,a2,b4,ag,ae,ac,af,q115,h⟩:=h
       refine Q_op (some 134) (loadN 92 (vp (pa p))) (.agg #[vi bc,vi a2,vi b4,vi ag,vi ae,vi ac,vi af]) (λ_=>by kernel_rfl) (loadN_run (loadOK_row (λ_=>by kernel_rfl) (λ_=>by kernel_rfl) q115)) [(0,vp (some f)),(1,vp (some mA)),(5,vs (some j) xN xC),(6,vs (some n) d e),(7,vi i),(8,vp (pa p)),(10,vp (pa q)),(133,.bool false),(134,.agg #[vi bc,vi a2,vi b4,vi ag,vi ae,vi ac,vi af])] pk ?_
       refine T_q (some 135) (vp (some ((ad q).add 1))) [(0,vp (some f)),(1,vp (some mA)),(5,vs (some j) xN xC),(6,vs (some n) d e),(7,vi i),(8,vp (pa p)),(10,vp (pa q)),(133,.bool false),(134,.agg #[vi bc,vi a2,vi b4,vi ag,vi ae,vi ac,vi af]),(135,vp (some ((ad q).add 1)))] ?_
       obtain⟨bk,a9,ck,am,ao,au,ap,q116,h⟩:=h
       refine Q_op (some 136) (loadN 92 (vp (some ((ad q).add 1)))) (.agg #[vi bk,vi a9,vi ck,vi am,vi ao,vi au,vi ap]) (λ_=>by kernel_rfl) (loadN_run (loadOK_row (λ_=>by kernel_rfl) (λ_=>by kernel_rfl) q116)) [(0,vp (some f)),(1,vp (some mA)),(5,vs (some j) xN xC),(6,vs (some n) d e),(7,vi i),(8,vp (pa p)),(10,vp (pa q)),(133,.bool false),(134,.agg #[vi bc,vi a2,vi b4,vi ag,vi ae,vi ac,vi af]),(136,.agg #[vi bk,vi a9,vi ck,vi am,vi ao,vi au,vi ap])] pk ?_
       obtain⟨q117,h⟩:=h
       refine Q_op (some 137) (binN .neq 92 (.agg #[vi bc,vi a2,vi b4,vi ag,vi ae,vi ac,vi af]) (.agg #[vi bk,vi a9,vi ck,vi am,vi ao,vi au,vi ap])) (.bool (!(decide (bc=bk/\a2=a9/\b4=ck/\ag=am/\ae=ao/\ac=au/\af=ap)))) (λ_=>by kernel_rfl) (λw _=>neq7_run (P:=Tryz.prog) (T:=92) (A:=72) (I:=3) Tryz.underlying92 (by kernel_rfl) Tryz.underlying3 Tryz.underlying72 (show Tryz.prog.info? 3=some Tryz.t3 from by kernel_rfl) (by kernel_rfl) ⟨by decide,by decide,by decide,by decide⟩ ⟨rfl,rfl,rfl,rfl⟩ ⟨rfl,rfl,rfl,rfl⟩ (λ_=>by kernel_rfl) (λ_=>by kernel_rfl) (λ_=>by kernel_rfl) w) [(0,vp (some f)),(1,vp (some mA)),(5,vs (some j) xN xC),(6,vs (some n) d e),(7,vi i),(8,vp (pa p)),(10,vp (pa q)),(133,.bool false),(137,.bool (!(decide (bc=bk/\a2=a9/\b4=ck/\ag=am/\ae=ao/\ac=au/\af=ap))))] pk ?_
       refine T_q (some 138) (.bool (!(decide (bc=bk/\a2=a9/\b4=ck/\ag=am/\ae=ao/\ac=au/\af=ap)))) [(0,vp (some f)),(1,vp (some mA)),(5,vs (some j) xN xC),(6,vs (some n) d e),(7,vi i),(8,vp (pa p)),(10,vp (pa q)),(138,.bool (!(decide (bc=bk/\a2=a9/\b4=ck/\ag=am/\ae=ao/\ac=au/\af=ap))))] ?_
       refine Q_sub [(0,vp (some f)),(1,vp (some mA)),(5,vs (some j) xN xC),(6,vs (some n) d e),(7,vi i),(8,vp (pa p)),(10,vp (pa q)),(138,.bool (!(decide (bc=bk/\a2=a9/\b4=ck/\ag=am/\ae=ao/\ac=au/\af=ap))))] sk ?_
       refine T_qe ?_
       by_cases c118:bc=bk/\a2=a9/\b4=ck/\ag=am/\ae=ao/\ac=au/\af=ap
       ·rw[if_pos c118]at h
        refine T_cFz 138 (nd_pos c118)<| T_kt<| T_srz 11<| T_ne 1 [(0,vp (some f)),(1,vp (some mA)),(5,vs (some j) xN xC),(6,vs (some n) d e),(7,vi i),(8,vp (pa p)),(10,vp (pa q)),(11,vi 0)]<| T_bz 2 ?_
        obtain⟨eb,m59,i120,i121⟩:=h
        refine S_loop (x:=K39) (σ:=Int) (λs_=> [(0,vp (some f)),(1,vp (some mA)),(5,vs (some j) xN xC),(6,vs (some n) d e),(7,vi i),(8,vp (pa p)),(10,vp (pa q)),(11,vi s_)]) (λs_ H=>eb s_ H) (λs_ H=>m59 s_ H) (0:Int) (by kernel_rfl) i120 sk ?_
        rintro s H18 i122
        have h:=i121 s H18 i122
        refine T_su [(0,vp (some f)),(1,vp (some mA)),(5,vs (some j) xN xC),(6,vs (some n) d e),(7,vi i),(8,vp (pa p)),(10,vp (pa q)),(11,vi s)]<| T_sz<| T_srz 12<| T_nd 2 [] [(139,vi s),(140,vp (some ((ad p).add 2)))] ?_
        obtain⟨c7,q123,h⟩:=h
        refine T_l1 141 3 q123 [140]<| T_ed 1 [139,141] [(142,.bool (decide (s<c7)))] ?_
        by_cases c124:s<c7
        ·rw[if_pos c124]at h
         refine T_cTz 142 (decide_eq_true c124)<| T_kt<| T_sz<| T_bz 3<| T_sz ?_
         obtain⟨ee,q126,h⟩:=h
         obtain⟨cn,rfl,h⟩:=h
         obtain⟨ek,q127,h⟩:=h
         obtain⟨cj,rfl,h⟩:=h
         obtain⟨co,q128,h⟩:=h
         obtain⟨q129,h⟩:=h
         obtain⟨cp,q130,h⟩:=h
         refine S_regionG 14 (Code.ops K49) [(17,f,[vp (some cn)]),(17,cn,[vp (some cj)]),(17,cj,[vp co]),(17,(j.add (Int.toNat i*1)),[vi cp])] 23 (bv 23 0) (by kernel_rfl) (by kernel_rfl) (by kernel_rfl) (by kernel_rfl) (by kernel_rfl) (show FactsAt _ _ _ from⟨⟨q126,trivial⟩,⟨q127,trivial⟩,⟨q128,trivial⟩,⟨q130,trivial⟩,trivial⟩) ?_
         refine T_gp 0 (some 146) (vp (some f)) (bv 23 1) [(0,vp (some f)),(1,vp (some mA)),(5,vs (some j) xN xC),(6,vs (some n) d e),(7,vi i),(8,vp (pa p)),(10,vp (pa q)),(11,vi s),(146,vp (some f))]<| T_gp1 1 147 (vp (some f)) (bv 23 3) [146]<| T_gp1 2 148 (vp (some f)) (bv 23 7) [147]<| T_g1 3 149 (vp (some cn)) (bv 23 15) [148] (loadN 64 (vp (some f))) (held_one 17 (λ_=>by kernel_rfl) (List.Mem.head _) (.inl (by kernel_rfl)))<| T_gp1 4 150 (vp (some cn)) (bv 23 31) [149]<| T_gp1 5 151 (vp (some cn)) (bv 23 63) [150]<| T_g1 6 152 (vp (some cj)) (bv 23 127) [151] (loadN 68 (vp (some cn))) (held_one 17 (λ_=>by kernel_rfl) (List.Mem.tail _ (List.Mem.head _)) (.inl (by kernel_rfl)))<| T_gp1 7 153 (vp (some cj)) (bv 23 255) [152]<| T_gp1 8 154 (vp (some cj)) (bv 23 511) [153] ?_
         refine T_g1 9 155 (vp co) (bv 23 1023) [154] (loadN 71 (vp (some cj))) (held_one 17 (λ_=>by kernel_rfl) (List.Mem.tail _ (List.Mem.tail _ (List.Mem.head _))) (.inl (by kernel_rfl)))<| T_gp1 10 156 (vs (some j) xN xC) (bv 23 2047) []<| T_gp1 11 157 (vi i) (bv 23 4095) []<| T_g1 12 158 (vp (some (j.add (Int.toNat i*1)))) (bv 23 8191) [156,157] (indexAtN 62 (vs (some j) xN xC) (vi i)) (λ_ w _ _ _=>indexAt_run (P:=Tryz.prog) (t:=62) (elem:=3) (sz:=1) (a:=j) (len:=xN) (cap:=xC) (k:=.i64) (i:=i) Tryz.underlying62 (λ_=>by kernel_rfl) q129.1 q129.2 w)<| T_g1 13 159 (vi cp) (bv 23 16383) [158] (loadN 3 (vp (some (j.add (Int.toNat i*1))))) (held_one 17 (λ_=>by kernel_rfl) (List.Mem.tail _ (List.Mem.tail _ (List.Mem.tail _ (List.Mem.head _)))) (.inl (by kernel_rfl)))<| T_gp1 14 160 (vi (IntKind.wrap .i64 (64*cp))) (bv 23 32767) [159]<| T_gp1 15 161 (vi s) (bv 23 65535) []<| T_gp1 16 162 (vi (IntKind.wrap .i64 ((IntKind.wrap .i64 (64*cp))+s))) (bv 23 131071) [160,161] ?_
         refine G_call 17 (some 163) (bv 23 262143) 56 #[vp co,vi (IntKind.wrap .i64 ((IntKind.wrap .i64 (64*cp))+s))] (by kernel_rfl) (λ_=>by kernel_rfl) h (by kernel_rfl) ?_;clear h
         rintro ey d8 ⟨a1,bo,rfl,h⟩
         refine⟨[(0,vp (some f)),(1,vp (some mA)),(5,vs (some j) xN xC),(6,vs (some n) d e),(7,vi i),(8,vp (pa p)),(10,vp (pa q)),(11,vi s),(163,.tuple #[vu a1,vi bo])],pk,(show FactsAt _ _ _ from⟨trivial,trivial,trivial,trivial,trivial⟩),?_⟩
         refine T_g 18 (some 145) (.tuple #[vu a1,vi bo]) (bv 23 524287) [(0,vp (some f)),(1,vp (some mA)),(5,vs (some j) xN xC),(6,vs (some n) d e),(7,vi i),(8,vp (pa p)),(10,vp (pa q)),(11,vi s),(145,.tuple #[vu a1,vi bo])] (pure (.value (.tuple #[vu a1,vi bo])):Sem Next) (λ_ _ _ _ _=>rfl)<| T_g1 19 164 (vu a1) (bv 23 1048575) [] (pure (.value (vu a1)):Sem Next) (λ_ _ _ _ _=>rfl)<| T_g1 20 165 (vi bo) (bv 23 2097151) [145] (pure (.value (vi bo)):Sem Next) (λ_ _ _ _ _=>rfl)<| T_g1 21 12 (vu a1) (bv 23 4194303) [164] (pure (.value (vu a1)):Sem Next) (λ_ _ _ _ _=>rfl)<| T_g1 22 13 (vi bo) (bv 23 8388607) [165] (pure (.value (vi bo)):Sem Next) (λ_ _ _ _ _=>rfl) ?_
         refine G_sub [(0,vp (some f)),(1,vp (some mA)),(5,vs (some j) xN xC),(6,vs (some n) d e),(7,vi i),(8,vp (pa p)),(10,vp (pa q)),(11,vi s),(12,vu a1),(13,vi bo)] sk ?_
         refine G_end (by kernel_rfl) ?_
         refine S_then ?_
         refine T_srz 15<| T_n 3 [(0,vp (some f)),(1,vp (some mA)),(5,vs (some j) xN xC),(6,vs (some n) d e),(7,vi i),(8,vp (pa p)),(10,vp (pa q)),(11,vi s),(12,vu a1),(168,.bool (bo !=0))] ?_
         by_cases c131:bo=0
         ·rw[if_pos c131]at h
          have b132:(bo !=0)=false:=bne_eq_false_iff_eq.mpr c131
          refine N_env [(0,vp (some f)),(1,vp (some mA)),(5,vs (some j) xN xC),(6,vs (some n) d e),(7,vi i),(8,vp (pa p)),(10,vp (pa q)),(11,vi s),(12,vu a1),(168,.bool false)] (by rw[b132]) ?_
          clear b132
          refine T_nd 2 [12] [(169,vu a1),(170,vp (some ((ad q).add 8)))] ?_
          obtain⟨dr,c1,dm,q133,h⟩:=h
          refine T_l1 171 31 q133 [170]<| T_nd 1 [] [(172,vi s)] ?_
          obtain⟨da,rfl,h⟩:=h
          obtain⟨q134,h⟩:=h
          refine T_xd (some 173) 31 35 1 da c1 dm .i64 s Tryz.underlying31 q134.1 q134.2 [171,172] [(173,vp (some (da.add (Int.toNat s*1))))] ?_
          obtain⟨c6,q135,h⟩:=h
          refine T_l1 174 35 q135 [173]<| T_ed 2 [168,169,174] [(176,.bool (a1 !=c6))] ?_
          by_cases c136:a1=c6
          ·rw[if_pos c136]at h
           refine T_cFz 176 (bne_eq_false_iff_eq.mpr c136)<| T_k ?_
           refine S_blockEnd ?_
           refine S_then ?_
           refine T_rz 13<| T_ed 3 [11,176] [(11,vi (IntKind.wrap .i64 (s+1)))] ?_
           exact S_round ((IntKind.wrap .i64 (s+1)):Int) sk h
          rw[if_neg c136]at h
          exact T_cTz 176 (bne_iff_ne.mpr c136)<| T_srz 16<| T_nr 1 [4] [.bool false] hQ h
         rw[if_neg c131]at h
         have b132:(bo !=0)=true:=bne_iff_ne.mpr c131
         refine N_env [(0,vp (some f)),(1,vp (some mA)),(5,vs (some j) xN xC),(6,vs (some n) d e),(7,vi i),(8,vp (pa p)),(10,vp (pa q)),(11,vi s),(12,vu a1),(168,.bool true)] (by rw[b132]) ?_
         clear b132
         exact T_ed 8 [12,168] [(176,.bool true)]<| T_tz 176<| T_srz 16<| T_nr 1 [4] [.bool false] hQ h
        rw[if_neg c124]at h
        refine T_cFz 142 (decide_eq_false c124) ?_
        refine S_exit 2 (by kernel_rfl) ?_
        refine S_exitThen ?_
        refine S_exitThen ?_
        refine S_exitHere ?_
        refine S_blockEnd ?_
        refine S_then ?_
        refine T_rz 6<| T_ed 3 [7,8,10,11,142] [(7,vi (IntKind.wrap .i64 (i+1)))] ?_
        exact S_round ((IntKind.wrap .i64 (i+1)):Int) sk h
       rw[if_neg c118]at h
       exact T_cTz 138 (nd_neg c118)<| T_srz 10<| T_nr 1 [4] [.bool false] hQ h
      rw[if_neg c113]at h
      have b114:(!u)=true:=congrArg Bool.not (eq_false_of_ne_true c113)
      have b1142:u=false:=eq_false_of_ne_true c113
      refine Q_bd 133 (b:=(!u)) (v:=true) (by simp only[b114,b1142,Bool.not_true,Bool.not_false]) ?_
      clear b114 b1142
      refine T_q1 134 (undef) []<| T_q1 135 (undef) []<| T_q1 136 (undef) [135]<| T_q1 137 (undef) [134,136]<| T_q1 138 (.bool true) [133,137] ?_
      refine Q_sub [(0,vp (some f)),(1,vp (some mA)),(5,vs (some j) xN xC),(6,vs (some n) d e),(7,vi i),(8,vp (pa p)),(10,vp (pa q)),(138,.bool true)] sk ?_
      exact T_qe<| T_tz 138<| T_srz 10<| T_nr 1 [4] [.bool false] hQ h
     rw[if_neg c111]at h
     refine Q_bd 129 (bne_iff_ne.mpr c111)<| T_q1 130 (undef) [9]<| T_q1 131 (undef) [130]<| T_q1 132 (.bool true) [129,131]<| T_q1 133 (.bool true) [132]<| T_q1 134 (undef) []<| T_q1 135 (undef) []<| T_q1 136 (undef) [135]<| T_q1 137 (undef) [134,136] ?_
     refine T_q1 138 (.bool true) [133,137] ?_
     refine Q_sub [(0,vp (some f)),(1,vp (some mA)),(5,vs (some j) xN xC),(6,vs (some n) d e),(7,vi i),(8,vp (pa p)),(10,vp (pa q)),(138,.bool true)] sk ?_
     exact T_qe<| T_tz 138<| T_srz 10<| T_nr 1 [4] [.bool false] hQ h
    rw[if_neg c37]at h
    refine T_cFz 83 (decide_eq_false c37) ?_
    refine S_exit 0 (by kernel_rfl) ?_
    refine S_exitThen ?_
    refine S_exitThen ?_
    refine S_exitHere ?_
    refine S_then ?_
    exact T_srz 17<| T_nr 1 [4] [.bool true] hQ h
   rw[if_neg c32]at h
   exact T_cTz 79 (bne_iff_ne.mpr c32)<| T_srz 3<| T_nr 1 [4] [.bool false] hQ h
  rw[if_neg c25]at h
  refine G_bd 71 (bne_iff_ne.mpr c25) ?_
  refine T_gsd 36 (some 72) (bv 44 137438953471) [] [(72,undef)]<| T_gsd 37 (some 73) (bv 44 274877906943) [72] [(73,undef)]<| T_gsd 38 (some 74) (bv 44 549755813887) [] [(74,undef)]<| T_gsd 39 (some 75) (bv 44 1099511627775) [74] [(75,undef)]<| T_gsd 40 (some 76) (bv 44 2199023255551) [75] [(76,undef)]<| T_gsd 41 (some 77) (bv 44 4398046511103) [76] [(77,undef)]<| T_gsd 42 (some 78) (bv 44 8796093022207) [73,77] [(78,undef)]<| T_g1 43 79 (.bool true) (bv 44 17592186044415) [71,78] (pure (.value (.bool true)):Sem Next) (λ_ _ _ _ _=>rfl) ?_
  refine G_sub [(0,vp (some f)),(1,vp (some mA)),(5,vs xB xN xC),(6,vs l d e),(79,.bool true)] sk ?_
  refine G_end (by kernel_rfl) ?_
  refine S_then ?_
  exact T_tz 79<| T_srz 3<| T_nr 1 [4] [.bool false] hQ h
 rw[if_neg c10]at h
 refine S_regionG 2 (Code.ops K7) [] 44 (bv 44 0) (by kernel_rfl) (by kernel_rfl) (by kernel_rfl) (by kernel_rfl) (by kernel_rfl) (show FactsAt _ _ _ from trivial) ?_
 refine T_gp 0 (some 36) (vs xB xN xC) (bv 44 1) [(0,vp (some f)),(1,vp (some mA)),(5,vs xB xN xC),(6,vs l d e),(36,vs xB xN xC)]<| T_gp1 1 37 (vi xN) (bv 44 3) [36]<| T_gp1 2 38 (vs l d e) (bv 44 7) []<| T_gp1 3 39 (vi d) (bv 44 15) [38]<| T_gp1 4 40 (.bool ((xN:Int) !=(d:Int))) (bv 44 31) [37,39]<| T_gp1 5 41 (.bool ((xN:Int) !=(d:Int))) (bv 44 63) [40] ?_
 refine G_bd 41 (bne_iff_ne.mpr c10) ?_
 refine T_gsd 6 (some 42) (bv 44 127) [] [(42,undef)]<| T_gsd 7 (some 43) (bv 44 255) [42] [(43,undef)]<| T_gsd 8 (some 44) (bv 44 511) [43] [(44,undef)]<| T_gsd 9 (some 45) (bv 44 1023) [44] [(45,undef)]<| T_gsd 10 (some 46) (bv 44 2047) [45] [(46,undef)]<| T_gsd 11 (some 47) (bv 44 4095) [46] [(47,undef)]<| T_gsd 12 (some 48) (bv 44 8191) [47] [(48,undef)]<| T_gsd 13 (some 49) (bv 44 16383) [48] [(49,undef)]<| T_gsd 14 (some 50) (bv 44 32767) [49] [(50,undef)] ?_
 refine T_gsd 15 (some 51) (bv 44 65535) [50] [(51,undef)]<| T_gsd 16 (some 52) (bv 44 131071) [51] [(52,undef)]<| T_gsd 17 (some 53) (bv 44 262143) [] [(53,undef)]<| T_gsd 18 (some 54) (bv 44 524287) [53] [(54,undef)]<| T_gsd 19 (some 55) (bv 44 1048575) [54] [(55,undef)]<| T_gsd 20 (some 56) (bv 44 2097151) [55] [(56,undef)]<| T_gsd 21 (some 57) (bv 44 4194303) [56] [(57,undef)]<| T_gsd 22 (some 58) (bv 44 8388607) [57] [(58,undef)]<| T_gsd 23 (some 59) (bv 44 16777215) [58] [(59,undef)] ?_
 refine T_gsd 24 (some 60) (bv 44 33554431) [59] [(60,undef)]<| T_gsd 25 (some 61) (bv 44 67108863) [60] [(61,undef)]<| T_gsd 26 (some 62) (bv 44 134217727) [61] [(62,undef)]<| T_gsd 27 (some 63) (bv 44 268435455) [62] [(63,undef)]<| T_gsd 28 (some 64) (bv 44 536870911) [63] [(64,undef)]<| T_gsd 29 (some 65) (bv 44 1073741823) [64] [(65,undef)]<| T_gsd 30 (some 66) (bv 44 2147483647) [] [(66,undef)]<| T_gsd 31 (some 67) (bv 44 4294967295) [66] [(67,undef)]<| T_gsd 32 (some 68) (bv 44 8589934591) [65,67] [(68,undef)] ?_
 refine T_gsd 33 (some 69) (bv 44 17179869183) [52,68] [(69,undef)]<| T_gp1 34 70 (.bool true) (bv 44 34359738367) [41,69]<| T_gp1 35 71 (.bool true) (bv 44 68719476735) [70]<| T_gsd 36 (some 72) (bv 44 137438953471) [] [(72,undef)]<| T_gsd 37 (some 73) (bv 44 274877906943) [72] [(73,undef)]<| T_gsd 38 (some 74) (bv 44 549755813887) [] [(74,undef)]<| T_gsd 39 (some 75) (bv 44 1099511627775) [74] [(75,undef)]<| T_gsd 40 (some 76) (bv 44 2199023255551) [75] [(76,undef)]<| T_gsd 41 (some 77) (bv 44 4398046511103) [76] [(77,undef)] ?_
 refine T_gsd 42 (some 78) (bv 44 8796093022207) [73,77] [(78,undef)]<| T_gp1 43 79 (.bool true) (bv 44 17592186044415) [71,78] ?_
 refine G_sub [(0,vp (some f)),(1,vp (some mA)),(5,vs xB xN xC),(6,vs l d e),(79,.bool true)] sk ?_
 refine G_end (by kernel_rfl) ?_
 refine S_then ?_
 exact T_tz 79<| T_srz 3<| T_nr 1 [4] [.bool false] hQ h
end morainelaw11_Alike

end Go.Proofs.YtibpklpgmgakcaaGreat
