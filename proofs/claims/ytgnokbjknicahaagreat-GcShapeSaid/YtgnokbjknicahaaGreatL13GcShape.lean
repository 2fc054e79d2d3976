/- Printed: what each function asks, and that it is sound. -/
import Derived.Test.YtgnokbjknicahaaGreatFnsC
set_option linter.unusedSimpArgs false
set_option linter.unusedVariables false
set_option maxRecDepth 100000
set_option maxHeartbeats 1000000
noncomputable section
namespace Go.Proofs.YtgnokbjknicahaaGreat
open Go
/-! moraine/morainelaw13.GcShape -/
namespace morainelaw13_GcShape
def K0:=Func.code Tryz.f4
def K2:=cb K0
def K4:=cb K2
def K6:=cb K4
def K14:=cb K6
def K16:=cb K14
def K17:=ca K16
def K18:=cb K16
def K20:=cb K17
def K21:=ca K20
def K23:=ca K21
def K26:=cb K18
def K28:=cb K26
def K30:=cb K28
def K31:=ca K30
def K32:=cb K30
def K34:=cb K31
def K35:=ca K34
def K36:=ca K35
def K38:=cb K36
def K43:=ca K38
def K45:=ca K43
def K46:=ca K45
def K52:=ca K32
def K53:=cb K32
def K55:=cb K52
def K56:=ca K55
def K57:=ca K56
def K68:=cb K53
def K69:=ca K68
def K70:=cb K68
def K71:=ca K69
def K78:=cb K70
def K83:=ca K78
def K86:=cb K83
def K87:=ca K86
def K88:=ca K87
end morainelaw13_GcShape
def morainelaw13_GcShape.pt(a7:Int)(lB:zW)(lN lC:Nat)(H:zV)(R:zk):Prop:=
 morainelaw13_begun.C a7 lB lN lC H (λv H1=> ∃(ra av:zW) (az ay:Nat),v=.tuple #[.pointer ra,.slice av az ay]/\
 onPtr ra (
 morainelaw13_awake.C H1 (λd4 H2=> ∃x:Bool,d4=.bool x/\
 R (.bool x) H2)) (λd=>
 if(lN:Int)=0 then(
 morainelaw13_awake.C H1 (λd8 H3=> ∃c6:Bool,d8=.bool c6/\
 R (.bool c6) H3))
 else
 ∃ch:Addr,lB=some ch/\
 ((0:Int)<=(zY ((lN:Int)-1))/\(zY ((lN:Int)-1))< (lN:Int))/\
 ∃(aw:zW) (ax au:Nat) (am:zW) (an ak:Nat) (aa:zW) (y z:Nat) (xG al a5:Int),RowAt H1 (ch.add (Int.toNat (zY ((lN:Int)-1))*6)) 0 [.slice aw ax au,.slice am an ak,.slice aa y z,.int .i64 xG,.int .i64 al,.int .u32 a5]/\
 ∀(b:Nat) (H4:zV),b=H1.size->H4=H1.push (.cells #[.slice none 0 0,.slice none 0 0,.slice none 0 0,.int .i64 0,.int .i64 0,.int .u32 0] 55)->
 (CanPuts H4 (ad b) 0 6)/\ ∀H5,H5=hputs H4 (ad b) [.slice aw ax au,.slice am an ak,.slice aa y z,.int .i64 xG,.int .i64 al,.int .u32 a5] 0->
 ∃(ao:zW) (aq ap:Nat) (aj:zW) (ah ag:Nat) (ae:zW) (ab ac:Nat) (bs ai a0:Int),RowAt H5 (ad b) 0 [.slice ao aq ap,.slice aj ah ag,.slice ae ab ac,.int .i64 bs,.int .i64 ai,.int .u32 a0]/\
 morainelaw13_roots.C (some d) ao aq ap aj ah ag ae ab ac bs ai a0 av az ay H5 (λd7 H6=> ∃(xB:zW) (xN xC:Nat),d7=.slice xB xN xC/\
 ∃bw:Int,hat H6 ((ad b).add 3)=some (.int .i64 bw)/\
 if bw<0 then(
 ∃J:Bool->zV->Prop,(
 ∃bh:Int,hat H6 ((ad b).add 3)=some (.int .i64 bh)/\
 ∃bq:Int,hat H6 ((ad b).add 4)=some (.int .i64 bq)/\
 morainelaw13_pointers.C xB xN xC H6 (λec H8=> ∃(ck:zW) (ct ci:Nat),ec=.slice ck ct ci/\RowAt H8 ((ad b).add 3) 0 [.int .i64 bh]/\RowAt H8 ((ad b).add 4) 0 [.int .i64 bq]/\
 gc_Collect.C (some d) bh bq ck ct ci H8 (λd6 H9=> ∃bb:Int,d6=.int .i64 bb/\
 if bb=1 then(
 morainelaw13_awake.C H9 (λea eh=> ∃bg:Bool,ea=.bool bg/\
 J bg eh))
 else
 J false H9)))/\ ∀(s4:Bool) (H7:zV),J s4 H7->
 R (.bool s4) H7)
 else
 ∃bu:Int,hat H6 ((ad b).add 3)=some (.int .i64 bu)/\
 if bu>=4 then(
 ∃c9:Bool->zV->Prop,(
 ∃bf:Int,hat H6 ((ad b).add 3)=some (.int .i64 bf)/\
 ∃a9:Int,hat H6 ((ad b).add 4)=some (.int .i64 a9)/\
 morainelaw13_pointers.C xB xN xC H6 (λeg df=> ∃(cj:zW) (cw cx:Nat),eg=.slice cj cw cx/\RowAt df ((ad b).add 3) 0 [.int .i64 bf]/\RowAt df ((ad b).add 4) 0 [.int .i64 a9]/\
 gc_Collect.C (some d) bf a9 cj cw cx df (λei dk=> ∃a1:Int,ei=.int .i64 a1/\
 if a1=1 then(
 morainelaw13_awake.C dk (λdh d9=> ∃a4:Bool,dh=.bool a4/\
 c9 a4 d9))
 else
 c9 false dk)))/\ ∀(ce:Bool) (H11:zV),c9 ce H11->
 R (.bool ce) H11)
 else
 ∃b8:Int,hat H6 ((ad b).add 3)=some (.int .i64 b8)/\
 morainelaw13_picture.C (some d) xB xN xC b8 true H6 (λdm di=> ∃(m:zW) (l j:Nat),dm=.slice m l j/\
 ∃b6:Int,hat di ((ad b).add 3)=some (.int .i64 b6)/\
 morainelaw13_strong.C (some d) xB xN xC b6 di (λdx eb=> ∃(bo:zW) (p r:Nat) (rb:Option Nat),dx=.tuple #[.slice bo p r,.map rb]/\
 ∃(cs:Int->zv) (m37:Int->Int->zV->Nat),cs 0 0 eb/\ ∀(f:Int) (i:Int) (H17:zV),cs f i H17->
 if i< (p:Int)then(
 ∃a6:zW,hat H17 d=some (.pointer a6)/\
 ∃o:Addr,bo=some o/\
 zw i p/\
 ∃bt:Int,hat H17 (o.add (Int.toNat i*1))=some (.int .u64 bt)/\
 card_Cards_Gen.C a6 bt H17 (λdr cg=> ∃(u:Int) (af:Bool),dr=.tuple #[.int .i64 u,.bool af]/\
 if af=true then(
 ∃bd:Int,hat cg ((ad b).add 3)=some (.int .i64 bd)/\
 if u<=bd then(
 zw i p/\
 ∃cd:Int,hat cg (o.add (Int.toNat i*1))=some (.int .u64 cd)/\
 obj_Heap_Size.C (some d) cd cg (λdu d2=> ∃bp:Int,du=.int .i64 bp/\
 (cs (zY (f+bp)) (zY (i+1)) d2/\m37 (zY (f+bp)) (zY (i+1)) d2<m37 f i H17)))
 else
 (cs f (zY (i+1)) cg/\m37 f (zY (i+1)) cg<m37 f i H17))
 else
 (cs f (zY (i+1)) cg/\m37 f (zY (i+1)) cg<m37 f i H17)))
 else
 ∃br:Int,hat H17 ((ad b).add 3)=some (.int .i64 br)/\
 ∃(c8:Int->zv) (m58:Int->Int->zV->Nat),c8 0 (zY (br+1)) H17/\ ∀(n:Int) (g:Int) (H20:zV),c8 n g H20->
 if g<=4 then(
 ∃cq:zW,hat H20 d=some (.pointer cq)/\
 ∃cu:Addr,cq=some cu/\
 ∃bn:zW,hat H20 cu=some (.pointer bn)/\
 ∀(c3:Nat) (H21:zV),c3=H20.size->H21=H20.push (.cells #[.int .i64 g] 3)->
 space_Space_Words.C bn (some (ad c3)) 1 1 H21 (λdq dw=> ∃bl:Int,dq=.int .i64 bl/\
 (c8 (zY (n+bl)) (zY (g+1)) dw/\m58 (zY (n+bl)) (zY (g+1)) dw<m58 n g H20)))
 else
 ∃c0:zW,hat H20 d=some (.pointer c0)/\
 ∃cp:Addr,c0=some cp/\
 ∃b7:zW,hat H20 cp=some (.pointer b7)/\
 space_Space_Words.C b7 none 0 0 H20 (λdj de=> ∃s:Int,dj=.int .i64 s/\
 ∃a2:Int,hat de ((ad b).add 3)=some (.int .i64 a2)/\
 ∃a8:Int,hat de ((ad b).add 4)=some (.int .i64 a8)/\
 morainelaw13_pointers.C xB xN xC de (λdy dd=> ∃(co:zW) (cn cz:Nat),dy=.slice co cn cz/\RowAt dd ((ad b).add 3) 0 [.int .i64 a2]/\RowAt dd ((ad b).add 4) 0 [.int .i64 a8]/\
 gc_Collect.C (some d) a2 a8 co cn cz dd (λd1 c4=> ∃a3:Int,d1=.int .i64 a3/\
 if a3=0 then(
 ∃cc:Int,hat c4 ((ad b).add 4)=some (.int .i64 cc)/\
 morainelaw13_picture.C (some d) xB xN xC cc false c4 (λdn d5=> ∃(b4:zW) (b0 b3:Nat),dn=.slice b4 b0 b3/\
 morainelaw13_alike.C b4 b0 b3 m l j d5 (λd3 da=> ∃ba:Bool,d3=.bool ba/\
 if ba=true then(
 ∃cv:zW,hat da d=some (.pointer cv)/\
 ∃c2:Addr,cv=some c2/\
 ∃bx:zW,hat da c2=some (.pointer bx)/\
 space_Space_Words.C bx none 0 0 da (λdv dp=> ∃bm:Int,dv=.int .i64 bm/\
 if bm=(zY (n+f))then(
 ∃(c5:zv) (m89:Int->zV->Nat),c5 0 dp/\ ∀(q:Int) (H29:zV),c5 q H29->
 ∃bc:Int,hat H29 ((ad b).add 3)=some (.int .i64 bc)/\
 if q<=bc then(
 ∃be:Int,hat H29 ((ad b).add 4)=some (.int .i64 be)/\
 if q=be then(
 (c5 (zY (q+1)) H29/\m89 (zY (q+1)) H29<m89 q H29))
 else
 ∃cr:zW,hat H29 d=some (.pointer cr)/\
 ∃cl:Addr,cr=some cl/\
 ∃bi:zW,hat H29 cl=some (.pointer bi)/\
 ∀(c7:Nat) (H30:zV),c7=H29.size->H30=H29.push (.cells #[.int .i64 q] 3)->
 space_Space_Words.C bi (some (ad c7)) 1 1 H30 (λd0 dc=> ∃bj:Int,d0=.int .i64 bj/\
 if bj=0 then(
 (c5 (zY (q+1)) dc/\m89 (zY (q+1)) dc<m89 q H29))
 else
 R (.bool false) dc))
 else
 morainelaw13_awake.C H29 (λdt ef=> ∃bz:Bool,dt=.bool bz/\
 R (.bool bz) ef))
 else
 R (.bool false) dp))
 else
 R (.bool false) da)))
 else
 ∃db:Bool->zV->Prop,(
 ∃cm:zW,hat c4 d=some (.pointer cm)/\
 ∃cy:Addr,cm=some cy/\
 ∃b1:zW,hat c4 cy=some (.pointer b1)/\
 space_Space_Words.C b1 none 0 0 c4 (λdg dz=> ∃bk:Int,dg=.int .i64 bk/\
 if bk=s then(
 morainelaw13_awake.C dz (λdl ee=> ∃b5:Bool,dl=.bool b5/\
 db b5 ee))
 else
 db false dz))/\ ∀(b9:Bool) (H33:zV),db b9 H33->
 R (.bool b9) H33))))))))
namespace morainelaw13_GcShape
theorem link{a7:Int}{lB:zW}{lN lC:Nat}{H:zV}{R:zk}(h:pt a7 lB lN lC H R):C a7 lB lN lC H R:=by
 refine T_en K0 207 Tryz.func4 ?_
 intro w0 Q hQ
 unfold pt zY at h
 refine T_su [(0,vi a7),(1,vs lB lN lC)]<| T_srz 0<| T_ed 1 [] []<| T_srz 1<| T_nd 2 [0] [(22,vi a7),(23,vs lB lN lC)]<| T_c (some 24) h ?_;clear h
 rintro v H1 ⟨ra,av,az,ay,rfl,h⟩
 refine T_pd [22,23] [(24,.tuple #[vp ra,vs av az ay])]<| T_ed 5 [24] [(5,vp ra),(6,vs av az ay)]<| T_sz<| T_srz 2<| T_nd 1 [] [(27,vp ra)] ?_
 rcases ra with _ | d
 ·rw[onPtr_none]at h
  refine T_ed 6 [5,27] [(5,vp none),(33,.bool true)]<| T_tz 33<| T_srz 3<| T_nu []<| T_c (some 34) h ?_;clear h
  rintro d4 H2 ⟨x,rfl,h⟩
  refine⟨[(34,.bool x)],pk,?_⟩
  exact T_nr 1 [4] [.bool x] hQ h
 rw[onPtr_some]at h
 refine T_ed 6 [5,27] [(5,vp (some d)),(33,.bool ((lN:Int)==0))] ?_
 by_cases c1:(lN:Int)=0
 ·rw[if_pos c1]at h
  refine T_cTz 33 (zK c1)<| T_srz 3<| T_nu []<| T_c (some 34) h ?_;clear h
  rintro d8 H3 ⟨c6,rfl,h⟩
  refine⟨[(34,.bool c6)],pk,?_⟩
  exact T_nr 1 [4] [.bool c6] hQ h
 rw[if_neg c1]at h
 refine T_cFz 33 (zJ c1)<| T_kt<| T_srz 4<| T_nd 4 [1,33] [(35,vs lB lN lC),(38,vi (zY ((lN:Int)-1)))] ?_
 obtain⟨ch,rfl,q3,h⟩:=h
 refine T_xd (some 39) 47 55 6 ch lN lC .i64 (zY ((lN:Int)-1)) Tryz.underlying47 q3.1 q3.2 [35,38] [(39,vp (some (ch.add (Int.toNat (zY ((lN:Int)-1))*6))))] ?_
 obtain⟨aw,ax,au,am,an,ak,aa,y,z,xG,al,a5,q4,h⟩:=h
 refine T_lr 40 55 q4 [39]<| T_nw (some 7) (λb=>vp (pa b)) (.cells #[vs none 0 0,vs none 0 0,vs none 0 0,vi 0,vi 0,.int .u32 0] 55) ?_
 intro b H4 e5 e6
 replace h:=h b H4 e5 e6
 refine T_pd [] [(7,vp (pa b))] ?_
 obtain⟨q8,h⟩:=h
 refine T_sta 55 [vs aw ax au,vs am an ak,vs aa y z,vi xG,vi al,.int .u32 a5] q8 ?_
 intro H5 e7
 replace h:=h H5 e7
 refine T_pd [40] []<| T_e<| T_srz 5<| T_nd 1 [] [(41,vp (some d))] ?_
 obtain⟨ao,aq,ap,aj,ah,ag,ae,ab,ac,bs,ai,a0,q9,h⟩:=h
 refine T_lr 42 55 q9 []<| T_nd 1 [6] [(43,vs av az ay)]<| T_c (some 44) h ?_;clear h
 rintro d7 H6 ⟨xB,xN,xC,rfl,h⟩
 refine T_pd [41,42,43] [(44,vs xB xN xC)]<| T_ed 1 [44] [(8,vs xB xN xC)]<| T_sz<| T_srz 6<| T_nd 1 [] [(45,vp (some ((ad b).add 3)))] ?_
 obtain⟨bw,q10,h⟩:=h
 refine T_l1 46 3 q10 [45]<| T_nd 2 [46] [(48,.bool (decide (bw<0)))] ?_
 by_cases c11:bw<0
 ·rw[if_pos c11]at h
  refine N_bd 48 (zX c11)<| T_ne 4 [(5,vp (some d)),(7,vp (pa b)),(8,vs xB xN xC),(52,.bool true)]<| T_tz 52<| T_sz ?_
  obtain⟨J,h,j14⟩:=h
  refine S_join (σ:=Bool) (λs_=> [(4,.bool s_)]) (λs_ H=>J s_ H) ?_ ?_
  ·rintro s4 H7 j15
   replace h:=j14 s4 H7 j15
   exact T_su [(4,.bool s4)]<| S_then<| T_ret [4] [.bool s4] hQ h
  obtain⟨bh,q16,bq,q17,h⟩:=h
  refine yY 7 (Code.ops K23) [(7,((ad b).add 3),[vi bh]),(7,((ad b).add 4),[vi bq])] 13 (bv 13 0) (show FactsAt _ _ _ from⟨⟨q16,trivial⟩,⟨q17,trivial⟩,trivial⟩)<| T_gp 0 (some 53) (vp (some d)) (bv 13 1) [(7,vp (pa b)),(8,vs xB xN xC),(53,vp (some d))]<| T_gp1 1 54 (vp (some ((ad b).add 3))) (bv 13 3) []<| T_g1 2 55 (vi bh) (bv 13 7) [54] (loadN 3 (vp (some ((ad b).add 3)))) (yW 7 yZ)<| T_gp1 3 56 (vp (some ((ad b).add 4))) (bv 13 15) [7]<| T_g1 4 57 (vi bq) (bv 13 31) [56] (loadN 3 (vp (some ((ad b).add 4)))) (yW 7 yX)<| T_gp1 5 58 (vs xB xN xC) (bv 13 63) [8]<| yq 6 (some 59) (bv 13 127) 18 #[vs xB xN xC] h ?_;clear h
  rintro ec H8 ⟨ck,ct,ci,rfl,f18,f19,h⟩
  refine⟨[(53,vp (some d)),(55,vi bh),(57,vi bq),(59,vs ck ct ci)],pk,(show FactsAt _ _ _ from⟨f18,f19,trivial⟩),?_⟩
  refine yq 7 (some 60) (bv 13 255) 9 #[vp (some d),vi bh,vi bq,vs ck ct ci] h ?_;clear h
  rintro d6 H9 ⟨bb,rfl,h⟩
  refine⟨[(60,vi bb)],pk,(show FactsAt _ _ _ from⟨trivial,trivial,trivial⟩),?_⟩
  refine T_g 8 (some 61) (.bool (bb==1)) (bv 13 511) [(61,.bool (bb==1))] (pure (.value (.bool (bb==1))):Sem Next) (λ_ _ _ _ _=>rfl)<| T_g1 9 62 (.bool (bb==1)) (bv 13 1023) [61] (pure (.value (.bool (bb==1))):Sem Next) (λ_ _ _ _ _=>rfl) ?_
  by_cases c20:bb=1
  ·rw[if_pos c20]at h
   refine G_bd 62 (zK c20) ?_
   refine yq 10 (some 63) (bv 13 2047) 14 #[] h ?_;clear h
   rintro ea eh ⟨bg,rfl,h⟩
   refine⟨[(62,.bool true),(63,.bool bg)],pk,(show FactsAt _ _ _ from⟨trivial,trivial,trivial⟩),?_⟩
   exact T_g 11 (some 64) (.bool bg) (bv 13 4095) [(64,.bool bg)] (pure (.value (.bool bg)):Sem Next) (λ_ _ _ _ _=>rfl)<| T_g1 12 4 (.bool bg) (bv 13 8191) [64] (pure (.value (.bool bg)):Sem Next) (λ_ _ _ _ _=>rfl)<| G_sub [(4,.bool bg)] sk<| yx<| S_then<| S_meet (bg:Bool) sk h
  rw[if_neg c20]at h
  refine G_bd 62 (zJ c20) ?_
  exact T_gsd 10 (some 63) (bv 13 2047) [] [(63,undef)]<| T_g1 11 64 (.bool false) (bv 13 4095) [62,63] (pure (.value (.bool false)):Sem Next) (λ_ _ _ _ _=>rfl)<| T_g1 12 4 (.bool false) (bv 13 8191) [64] (pure (.value (.bool false)):Sem Next) (λ_ _ _ _ _=>rfl)<| G_sub [(4,.bool false)] sk<| yx<| S_then<| S_meet (false:Bool) sk h
 rw[if_neg c11]at h
 refine N_bd 48 (zQ c11)<| T_nd 1 [] [(49,vp (some ((ad b).add 3)))] ?_
 obtain⟨bu,q22,h⟩:=h
 refine T_l1 50 3 q22 [49]<| T_ne 2 [(5,vp (some d)),(7,vp (pa b)),(8,vs xB xN xC),(52,.bool (decide (bu>=4)))] ?_
 by_cases c23:bu>=4
 ·rw[if_pos c23]at h
  refine T_cTz 52 (zX c23)<| T_sz ?_
  obtain⟨c9,h,j26⟩:=h
  refine S_join (σ:=Bool) (λs_=> [(4,.bool s_)]) (λs_ H=>c9 s_ H) ?_ ?_
  ·rintro ce H11 j27
   replace h:=j26 ce H11 j27
   exact T_su [(4,.bool ce)]<| S_then<| T_ret [4] [.bool ce] hQ h
  obtain⟨bf,q28,a9,q29,h⟩:=h
  refine yY 7 (Code.ops K23) [(7,((ad b).add 3),[vi bf]),(7,((ad b).add 4),[vi a9])] 13 (bv 13 0) (show FactsAt _ _ _ from⟨⟨q28,trivial⟩,⟨q29,trivial⟩,trivial⟩)<| T_gp 0 (some 53) (vp (some d)) (bv 13 1) [(7,vp (pa b)),(8,vs xB xN xC),(53,vp (some d))]<| T_gp1 1 54 (vp (some ((ad b).add 3))) (bv 13 3) []<| T_g1 2 55 (vi bf) (bv 13 7) [54] (loadN 3 (vp (some ((ad b).add 3)))) (yW 7 yZ)<| T_gp1 3 56 (vp (some ((ad b).add 4))) (bv 13 15) [7]<| T_g1 4 57 (vi a9) (bv 13 31) [56] (loadN 3 (vp (some ((ad b).add 4)))) (yW 7 yX)<| T_gp1 5 58 (vs xB xN xC) (bv 13 63) [8]<| yq 6 (some 59) (bv 13 127) 18 #[vs xB xN xC] h ?_;clear h
  rintro eg df ⟨cj,cw,cx,rfl,f30,f31,h⟩
  refine⟨[(53,vp (some d)),(55,vi bf),(57,vi a9),(59,vs cj cw cx)],pk,(show FactsAt _ _ _ from⟨f30,f31,trivial⟩),?_⟩
  refine yq 7 (some 60) (bv 13 255) 9 #[vp (some d),vi bf,vi a9,vs cj cw cx] h ?_;clear h
  rintro ei dk ⟨a1,rfl,h⟩
  refine⟨[(60,vi a1)],pk,(show FactsAt _ _ _ from⟨trivial,trivial,trivial⟩),?_⟩
  refine T_g 8 (some 61) (.bool (a1==1)) (bv 13 511) [(61,.bool (a1==1))] (pure (.value (.bool (a1==1))):Sem Next) (λ_ _ _ _ _=>rfl)<| T_g1 9 62 (.bool (a1==1)) (bv 13 1023) [61] (pure (.value (.bool (a1==1))):Sem Next) (λ_ _ _ _ _=>rfl) ?_
  by_cases c32:a1=1
  ·rw[if_pos c32]at h
   refine G_bd 62 (zK c32) ?_
   refine yq 10 (some 63) (bv 13 2047) 14 #[] h ?_;clear h
   rintro dh d9 ⟨a4,rfl,h⟩
   refine⟨[(62,.bool true),(63,.bool a4)],pk,(show FactsAt _ _ _ from⟨trivial,trivial,trivial⟩),?_⟩
   exact T_g 11 (some 64) (.bool a4) (bv 13 4095) [(64,.bool a4)] (pure (.value (.bool a4)):Sem Next) (λ_ _ _ _ _=>rfl)<| T_g1 12 4 (.bool a4) (bv 13 8191) [64] (pure (.value (.bool a4)):Sem Next) (λ_ _ _ _ _=>rfl)<| G_sub [(4,.bool a4)] sk<| yx<| S_then<| S_meet (a4:Bool) sk h
  rw[if_neg c32]at h
  refine G_bd 62 (zJ c32) ?_
  exact T_gsd 10 (some 63) (bv 13 2047) [] [(63,undef)]<| T_g1 11 64 (.bool false) (bv 13 4095) [62,63] (pure (.value (.bool false)):Sem Next) (λ_ _ _ _ _=>rfl)<| T_g1 12 4 (.bool false) (bv 13 8191) [64] (pure (.value (.bool false)):Sem Next) (λ_ _ _ _ _=>rfl)<| G_sub [(4,.bool false)] sk<| yx<| S_then<| S_meet (false:Bool) sk h
 rw[if_neg c23]at h
 refine T_cFz 52 (zQ c23)<| T_kt<| T_srz 8<| T_nd 3 [52] [(65,vp (some d)),(66,vs xB xN xC),(67,vp (some ((ad b).add 3)))] ?_
 obtain⟨b8,q34,h⟩:=h
 refine T_l1 68 3 q34 [67]<| T_c (some 69) h ?_;clear h
 rintro dm di ⟨m,l,j,rfl,h⟩
 refine T_pd [65,66,68] [(69,vs m l j)]<| T_ed 1 [69] [(9,vs m l j)]<| T_srz 9<| T_ed 2 [] [(10,vi 0),(11,vi 0)]<| T_srz 10<| T_nd 3 [] [(71,vp (some d)),(72,vs xB xN xC),(73,vp (some ((ad b).add 3)))] ?_
 obtain⟨b6,q35,h⟩:=h
 refine T_l1 74 3 q35 [73]<| T_c (some 75) h ?_;clear h
 rintro dx eb ⟨bo,p,r,rb,rfl,h⟩
 refine T_pd [71,72,74] [(75,.tuple #[vs bo p r,.map rb])]<| T_ed 5 [75] [(12,vs bo p r)]<| T_sz<| T_srz 11<| T_ed 1 [] [(14,vi 0)]<| T_bz 0 ?_
 obtain⟨cs,m37,i36,i37⟩:=h
 refine S_loop (x:=K36) (σ:=Int×Int) (λs_=> [(5,vp (some d)),(7,vp (pa b)),(8,vs xB xN xC),(9,vs m l j),(10,vi s_.1),(11,vi 0),(12,vs bo p r),(14,vi s_.2)]) (λs_ H=>cs s_.1 s_.2 H) (λs_ H=>m37 s_.1 s_.2 H) ((0,0):Int×Int) (by kernel_rfl) i36 sk ?_
 rintro⟨f,i⟩ H17 i38
 have h:=i37 f i H17 i38
 refine T_su [(5,vp (some d)),(7,vp (pa b)),(8,vs xB xN xC),(9,vs m l j),(10,vi f),(11,vi 0),(12,vs bo p r),(14,vi i)]<| T_sz<| T_srz 12<| T_ed 4 [] [(81,.bool (decide (i< (p:Int))))] ?_
 by_cases c39:i< (p:Int)
 ·rw[if_pos c39]at h
  refine T_cTz 81 (zX c39)<| T_kt<| T_sz<| T_bz 1<| T_sz ?_
  obtain⟨a6,q41,o,rfl,q42,bt,q43,h⟩:=h
  refine yY 14 (Code.ops K46) [(8,d,[vp a6]),(8,(o.add (Int.toNat i*1)),[vu bt])] 14 (bv 14 0) (show FactsAt _ _ _ from⟨⟨q41,trivial⟩,⟨q43,trivial⟩,trivial⟩)<| T_gp 0 (some 85) (vp (some d)) (bv 14 1) [(5,vp (some d)),(7,vp (pa b)),(8,vs xB xN xC),(9,vs m l j),(10,vi f),(11,vi 0),(12,vs (some o) p r),(14,vi i),(85,vp (some d))]<| T_gp1 1 86 (vp (some d)) (bv 14 3) [85]<| T_gp1 2 87 (vp (some d)) (bv 14 7) [86]<| T_g1 3 88 (vp a6) (bv 14 15) [87] (loadN 26 (vp (some d))) (yW 8 yZ)<| T_gp1 4 89 (vs (some o) p r) (bv 14 31) []<| T_gp1 5 90 (vi i) (bv 14 63) []<| T_g1 6 91 (vp (some (o.add (Int.toNat i*1)))) (bv 14 127) [89,90] (indexAtN 27 (vs (some o) p r) (vi i)) (λ_ w _ _ _=>indexAt_run (P:=Tryz.prog) (t:=27) (elem:=24) (sz:=1) (a:=o) (len:=p) (cap:=r) (k:=.i64) (i:=i) Tryz.underlying27 (λ_=>by kernel_rfl) q42.1 q42.2 w)<| T_g1 7 92 (vu bt) (bv 14 255) [91] (loadN 24 (vp (some (o.add (Int.toNat i*1))))) (yW 8 yX)<| yq 8 (some 93) (bv 14 511) 15 #[vp a6,vu bt] h ?_;clear h
  rintro dr cg ⟨u,af,rfl,h⟩
  refine⟨[(5,vp (some d)),(7,vp (pa b)),(8,vs xB xN xC),(9,vs m l j),(10,vi f),(11,vi 0),(12,vs (some o) p r),(14,vi i),(93,.tuple #[vi u,.bool af])],pk,(show FactsAt _ _ _ from⟨trivial,trivial,trivial⟩),?_⟩
  refine T_g 9 (some 84) (.tuple #[vi u,.bool af]) (bv 14 1023) [(5,vp (some d)),(7,vp (pa b)),(8,vs xB xN xC),(9,vs m l j),(10,vi f),(11,vi 0),(12,vs (some o) p r),(14,vi i),(84,.tuple #[vi u,.bool af])] (pure (.value (.tuple #[vi u,.bool af])):Sem Next) (λ_ _ _ _ _=>rfl)<| T_g1 10 94 (vi u) (bv 14 2047) [] (pure (.value (vi u)):Sem Next) (λ_ _ _ _ _=>rfl)<| T_g1 11 95 (.bool af) (bv 14 4095) [84] (pure (.value (.bool af)):Sem Next) (λ_ _ _ _ _=>rfl)<| T_g1 12 15 (vi u) (bv 14 8191) [94] (pure (.value (vi u)):Sem Next) (λ_ _ _ _ _=>rfl)<| T_g1 13 16 (.bool af) (bv 14 16383) [95] (pure (.value (.bool af)):Sem Next) (λ_ _ _ _ _=>rfl)<| G_sub [(5,vp (some d)),(7,vp (pa b)),(8,vs xB xN xC),(9,vs m l j),(10,vi f),(11,vi 0),(12,vs (some o) p r),(14,vi i),(15,vi u),(16,.bool af)] sk<| yx<| S_then<| T_srz 15<| T_n 2 [(5,vp (some d)),(7,vp (pa b)),(8,vs xB xN xC),(9,vs m l j),(10,vi f),(11,vi 0),(12,vs (some o) p r),(14,vi i),(15,vi u),(97,.bool af)] ?_
  by_cases c44:af=true
  ·rw[if_pos c44]at h
   have b45:af=true:=c44
   refine N_env [(5,vp (some d)),(7,vp (pa b)),(8,vs xB xN xC),(9,vs m l j),(10,vi f),(11,vi 0),(12,vs (some o) p r),(14,vi i),(15,vi u),(97,.bool true)] (by rw[b45]) ?_
   clear b45
   refine T_nd 2 [15] [(98,vi u),(99,vp (some ((ad b).add 3)))] ?_
   obtain⟨bd,q46,h⟩:=h
   refine T_l1 100 3 q46 [99]<| T_ed 2 [97,98,100] [(102,.bool (decide (u<=bd)))] ?_
   by_cases c47:u<=bd
   ·rw[if_pos c47]at h
    refine T_cTz 102 (zX c47)<| T_rz 16<| T_nd 4 [10,102] [(103,vi f),(104,vp (some d)),(105,vs (some o) p r),(106,vi i)] ?_
    obtain⟨q49,h⟩:=h
    refine T_xd (some 107) 27 24 1 o p r .i64 i Tryz.underlying27 q49.1 q49.2 [105,106] [(107,vp (some (o.add (Int.toNat i*1))))] ?_
    obtain⟨cd,q50,h⟩:=h
    refine T_l1 108 24 q50 [107]<| T_c (some 109) h ?_;clear h
    rintro du d2 ⟨bp,rfl,h⟩
    exact T_pd [104,108] [(109,vi bp)]<| T_nd 2 [103,109] [(10,vi (zY (f+bp)))]<| zq<| S_blockEnd<| S_then<| T_rz 13<| T_ed 3 [14] [(14,vi (zY (i+1)))]<| S_round (((zY (f+bp)),(zY (i+1))):Int×Int) sk h
   rw[if_neg c47]at h
   exact T_cFz 102 (zQ c47)<| T_k<| S_blockEnd<| S_then<| T_rz 13<| T_ed 3 [14,102] [(14,vi (zY (i+1)))]<| S_round ((f,(zY (i+1))):Int×Int) sk h
  rw[if_neg c44]at h
  have b45:af=false:=zZ c44
  refine N_env [(5,vp (some d)),(7,vp (pa b)),(8,vs xB xN xC),(9,vs m l j),(10,vi f),(11,vi 0),(12,vs (some o) p r),(14,vi i),(15,vi u),(97,.bool false)] (by rw[b45]) ?_
  clear b45
  exact T_ed 5 [15,97] [(102,.bool false)]<| T_fz 102<| T_k<| S_blockEnd<| S_then<| T_rz 13<| T_ed 3 [14,102] [(14,vi (zY (i+1)))]<| S_round ((f,(zY (i+1))):Int×Int) sk h
 rw[if_neg c39]at h
 refine T_cFz 81 (zQ c39)<| zj 0<| S_exitThen<| S_exitThen<| S_exitHere<| S_then<| T_sz<| T_srz 17<| T_nd 1 [12,14,81] [(111,vp (some ((ad b).add 3)))] ?_
 obtain⟨br,q51,h⟩:=h
 refine T_l1 112 3 q51 [111]<| T_ed 2 [112] [(17,vi (zY (br+1)))]<| T_bz 2 ?_
 obtain⟨c8,m58,i52,i53⟩:=h
 refine S_loop (x:=K57) (σ:=Int×Int) (λs_=> [(5,vp (some d)),(7,vp (pa b)),(8,vs xB xN xC),(9,vs m l j),(10,vi f),(11,vi s_.1),(17,vi s_.2)]) (λs_ H=>c8 s_.1 s_.2 H) (λs_ H=>m58 s_.1 s_.2 H) ((0,(zY (br+1))):Int×Int) (by kernel_rfl) i52 sk ?_
 rintro⟨n,g⟩ H20 i54
 have h:=i53 n g H20 i54
 refine T_su [(5,vp (some d)),(7,vp (pa b)),(8,vs xB xN xC),(9,vs m l j),(10,vi f),(11,vi n),(17,vi g)]<| T_sz<| T_srz 18<| T_ed 2 [] [(115,.bool (decide (g<=4)))] ?_
 by_cases c55:g<=4
 ·rw[if_pos c55]at h
  refine T_cTz 115 (zX c55)<| T_kt<| T_sz<| T_bz 3<| T_rz 20<| T_nd 4 [11,115] [(118,vi n),(121,vp (some d))] ?_
  obtain⟨cq,q57,h⟩:=h
  refine T_l1 122 26 q57 [121] ?_
  obtain⟨cu,rfl,h⟩:=h
  refine T_nd 2 [122] [(124,vp (some cu))] ?_
  obtain⟨bn,q58,h⟩:=h
  refine T_l1 125 39 q58 [124]<| T_nd 1 [] [(126,vi g)]<| T_nw (some 127) (λb=>vs (pa b) 1 1) (.cells #[vi g] 3) ?_
  intro c3 H21 e59 e60
  replace h:=h c3 H21 e59 e60
  refine T_pd [126] [(127,vs (pa c3) 1 1)]<| T_c (some 128) h ?_;clear h
  rintro dq dw ⟨bl,rfl,h⟩
  exact T_pd [125,127] [(128,vi bl)]<| T_nd 2 [118,128] [(11,vi (zY (n+bl)))]<| zq<| S_blockEnd<| S_then<| T_rz 19<| T_ed 3 [17] [(17,vi (zY (g+1)))]<| S_round (((zY (n+bl)),(zY (g+1))):Int×Int) sk h
 rw[if_neg c55]at h
 refine T_cFz 115 (zQ c55)<| zj 2<| S_exitThen<| S_exitThen<| S_exitHere<| S_then<| T_srz 21<| T_nd 3 [17,115] [(132,vp (some d))] ?_
 obtain⟨c0,q61,h⟩:=h
 refine T_l1 133 26 q61 [132] ?_
 obtain⟨cp,rfl,h⟩:=h
 refine T_nd 2 [133] [(135,vp (some cp))] ?_
 obtain⟨b7,q62,h⟩:=h
 refine T_l1 136 39 q62 [135]<| T_c (some 137) h ?_;clear h
 rintro dj de ⟨s,rfl,h⟩
 refine T_pd [136] [(137,vi s)]<| T_ed 1 [137] [(18,vi s)]<| T_sz<| T_sz ?_
 obtain⟨a2,q63,a8,q64,h⟩:=h
 refine yY 22 (Code.ops K71) [(7,((ad b).add 3),[vi a2]),(7,((ad b).add 4),[vi a8])] 9 (bv 9 0) (show FactsAt _ _ _ from⟨⟨q63,trivial⟩,⟨q64,trivial⟩,trivial⟩)<| T_gp 0 (some 138) (vp (some d)) (bv 9 1) [(5,vp (some d)),(7,vp (pa b)),(8,vs xB xN xC),(9,vs m l j),(10,vi f),(11,vi n),(18,vi s),(138,vp (some d))]<| T_gp1 1 139 (vp (some ((ad b).add 3))) (bv 9 3) []<| T_g1 2 140 (vi a2) (bv 9 7) [139] (loadN 3 (vp (some ((ad b).add 3)))) (yW 7 yZ)<| T_gp1 3 141 (vp (some ((ad b).add 4))) (bv 9 15) []<| T_g1 4 142 (vi a8) (bv 9 31) [141] (loadN 3 (vp (some ((ad b).add 4)))) (yW 7 yX)<| T_gp1 5 143 (vs xB xN xC) (bv 9 63) []<| yq 6 (some 144) (bv 9 127) 18 #[vs xB xN xC] h ?_;clear h
 rintro dy dd ⟨co,cn,cz,rfl,f65,f66,h⟩
 refine⟨[(5,vp (some d)),(7,vp (pa b)),(8,vs xB xN xC),(9,vs m l j),(10,vi f),(11,vi n),(18,vi s),(138,vp (some d)),(140,vi a2),(142,vi a8),(144,vs co cn cz)],pk,(show FactsAt _ _ _ from⟨f65,f66,trivial⟩),?_⟩
 refine yq 7 (some 145) (bv 9 255) 9 #[vp (some d),vi a2,vi a8,vs co cn cz] h ?_;clear h
 rintro d1 c4 ⟨a3,rfl,h⟩
 refine⟨[(5,vp (some d)),(7,vp (pa b)),(8,vs xB xN xC),(9,vs m l j),(10,vi f),(11,vi n),(18,vi s),(145,vi a3)],pk,(show FactsAt _ _ _ from⟨trivial,trivial,trivial⟩),?_⟩
 refine T_g 8 (some 19) (vi a3) (bv 9 511) [(5,vp (some d)),(7,vp (pa b)),(8,vs xB xN xC),(9,vs m l j),(10,vi f),(11,vi n),(18,vi s),(19,vi a3)] (pure (.value (vi a3)):Sem Next) (λ_ _ _ _ _=>rfl)<| G_sub [(5,vp (some d)),(7,vp (pa b)),(8,vs xB xN xC),(9,vs m l j),(10,vi f),(11,vi n),(18,vi s),(19,vi a3)] sk<| yx<| S_then<| T_srz 23<| T_ne 2 [(5,vp (some d)),(7,vp (pa b)),(8,vs xB xN xC),(9,vs m l j),(10,vi f),(11,vi n),(18,vi s),(147,.bool (a3 !=0))] ?_
 by_cases c67:a3=0
 ·rw[if_pos c67]at h
  refine T_cFz 147 (bne_eq_false_iff_eq.mpr c67)<| T_kt<| T_sz<| T_srz 25<| T_nd 3 [8,18,147] [(161,vp (some d)),(162,vs xB xN xC),(163,vp (some ((ad b).add 4)))] ?_
  obtain⟨cc,q69,h⟩:=h
  refine T_l1 164 3 q69 [163]<| T_c (some 165) h ?_;clear h
  rintro dn d5 ⟨b4,b0,b3,rfl,h⟩
  refine T_pd [161,162,164] [(165,vs b4 b0 b3)]<| T_nd 1 [9] [(166,vs m l j)]<| T_c (some 167) h ?_;clear h
  rintro d3 da ⟨ba,rfl,h⟩
  refine T_pd [165,166] [(167,.bool ba)]<| T_nd 2 [167] [(169,.bool (!ba))] ?_
  by_cases c70:ba=true
  ·rw[if_pos c70]at h
   have b71:(!ba)=false:=congrArg Bool.not (c70)
   have b712:ba=true:=c70
   refine N_bd 169 (b:=(!ba)) (v:=false) (by simp only[b71,b712,Bool.not_true,Bool.not_false]) ?_
   clear b71 b712
   refine T_nd 3 [] [(172,vp (some d))] ?_
   obtain⟨cv,q72,h⟩:=h
   refine T_l1 173 26 q72 [172] ?_
   obtain⟨c2,rfl,h⟩:=h
   refine T_nd 2 [173] [(175,vp (some c2))] ?_
   obtain⟨bx,q73,h⟩:=h
   refine T_l1 176 39 q73 [175]<| T_c (some 177) h ?_;clear h
   rintro dv dp ⟨bm,rfl,h⟩
   refine T_pd [176] [(177,vi bm)]<| T_ed 5 [10,11,169,177] [(182,.bool (bm !=(zY (n+f))))] ?_
   by_cases c74:bm=(zY (n+f))
   ·rw[if_pos c74]at h
    refine T_cFz 182 (bne_eq_false_iff_eq.mpr c74)<| T_kt<| T_sz<| T_srz 27<| T_ed 1 [182] [(20,vi 0)]<| T_bz 4 ?_
    obtain⟨c5,m89,i76,i77⟩:=h
    refine S_loop (x:=K88) (σ:=Int) (λs_=> [(5,vp (some d)),(7,vp (pa b)),(20,vi s_)]) (λs_ H=>c5 s_ H) (λs_ H=>m89 s_ H) (0:Int) (by kernel_rfl) i76 sk ?_
    rintro q H29 i78
    have h:=i77 q H29 i78
    refine T_su [(5,vp (some d)),(7,vp (pa b)),(20,vi q)]<| T_sz<| T_srz 28<| T_nd 2 [] [(183,vi q),(184,vp (some ((ad b).add 3)))] ?_
    obtain⟨bc,q79,h⟩:=h
    refine T_l1 185 3 q79 [184]<| T_ed 1 [183,185] [(186,.bool (decide (q<=bc)))] ?_
    by_cases c80:q<=bc
    ·rw[if_pos c80]at h
     refine T_cTz 186 (zX c80)<| T_kt<| T_sz<| T_bz 5<| T_srz 30<| T_nd 2 [186] [(189,vi q),(190,vp (some ((ad b).add 4)))] ?_
     obtain⟨be,q82,h⟩:=h
     refine T_l1 191 3 q82 [190]<| T_nd 2 [189,191] [(193,.bool (q !=be))] ?_
     by_cases c83:q=be
     ·rw[if_pos c83]at h
      refine N_bd 193 (bne_eq_false_iff_eq.mpr c83)<| T_ed 12 [193] [(205,.bool false)]<| T_fz 205<| T_k ?_
      exact S_blockEnd<| S_then<| T_rz 29<| T_ed 3 [20,205] [(20,vi (zY (q+1)))]<| S_round ((zY (q+1)):Int) sk h
     rw[if_neg c83]at h
     refine N_bd 193 (bne_iff_ne.mpr c83)<| T_nd 3 [] [(196,vp (some d))] ?_
     obtain⟨cr,q85,h⟩:=h
     refine T_l1 197 26 q85 [196] ?_
     obtain⟨cl,rfl,h⟩:=h
     refine T_nd 2 [197] [(199,vp (some cl))] ?_
     obtain⟨bi,q86,h⟩:=h
     refine T_l1 200 39 q86 [199]<| T_nd 1 [] [(201,vi q)]<| T_nw (some 202) (λb=>vs (pa b) 1 1) (.cells #[vi q] 3) ?_
     intro c7 H30 e87 e88
     replace h:=h c7 H30 e87 e88
     refine T_pd [201] [(202,vs (pa c7) 1 1)]<| T_c (some 203) h ?_;clear h
     rintro d0 dc ⟨bj,rfl,h⟩
     refine T_pd [200,202] [(203,vi bj)]<| T_ed 2 [193,203] [(205,.bool (bj !=0))] ?_
     by_cases c89:bj=0
     ·rw[if_pos c89]at h
      exact T_cFz 205 (bne_eq_false_iff_eq.mpr c89)<| T_k<| S_blockEnd<| S_then<| T_rz 29<| T_ed 3 [20,205] [(20,vi (zY (q+1)))]<| S_round ((zY (q+1)):Int) sk h
     rw[if_neg c89]at h
     exact T_cTz 205 (bne_iff_ne.mpr c89)<| T_srz 31<| T_nr 1 [4] [.bool false] hQ h
    rw[if_neg c80]at h
    refine T_cFz 186 (zQ c80)<| zj 4<| S_exitThen<| S_exitThen<| S_exitHere<| S_then<| T_srz 32<| T_nu []<| T_c (some 206) h ?_;clear h
    rintro dt ef ⟨bz,rfl,h⟩
    refine⟨[(206,.bool bz)],pk,?_⟩
    exact T_nr 1 [4] [.bool bz] hQ h
   rw[if_neg c74]at h
   exact T_cTz 182 (bne_iff_ne.mpr c74)<| T_srz 26<| T_nr 1 [4] [.bool false] hQ h
  rw[if_neg c70]at h
  have b71:(!ba)=true:=congrArg Bool.not (zZ c70)
  have b712:ba=false:=zZ c70
  refine N_bd 169 (b:=(!ba)) (v:=true) (by simp only[b71,b712,Bool.not_true,Bool.not_false]) ?_
  clear b71 b712
  exact T_ed 13 [10,11,169] [(182,.bool true)]<| T_tz 182<| T_srz 26<| T_nr 1 [4] [.bool false] hQ h
 rw[if_neg c67]at h
 refine T_cTz 147 (bne_iff_ne.mpr c67)<| T_sz ?_
 obtain⟨db,h,j92⟩:=h
 refine S_join (σ:=Bool) (λs_=> [(4,.bool s_)]) (λs_ H=>db s_ H) ?_ ?_
 ·rintro b9 H33 j93
  replace h:=j92 b9 H33 j93
  exact T_su [(4,.bool b9)]<| S_then<| T_ret [4] [.bool b9] hQ h
 refine T_rz 24<| T_n 3 [(18,vi s),(150,vp (some d))] ?_
 obtain⟨cm,q94,h⟩:=h
 refine T_l1 151 26 q94 [150] ?_
 obtain⟨cy,rfl,h⟩:=h
 refine T_nd 2 [151] [(153,vp (some cy))] ?_
 obtain⟨b1,q95,h⟩:=h
 refine T_l1 154 39 q95 [153]<| T_c (some 155) h ?_;clear h
 rintro dg dz ⟨bk,rfl,h⟩
 refine T_pd [154] [(155,vi bk)]<| T_n 3 [(158,.bool (bk==s))] ?_
 by_cases c96:bk=s
 ·rw[if_pos c96]at h
  have b97:(bk==s)=true:=zK c96
  refine N_env [(158,.bool true)] (by rw[b97]) ?_
  clear b97
  refine T_c (some 159) h ?_;clear h
  rintro dl ee ⟨b5,rfl,h⟩
  exact T_pd [] [(159,.bool b5)]<| T_ne 2 [(4,.bool b5)]<| S_meet (b5:Bool) sk h
 rw[if_neg c96]at h
 have b97:(bk==s)=false:=zJ c96
 refine N_env [(158,.bool false)] (by rw[b97]) ?_
 clear b97
 exact T_ne 3 [(4,.bool false)]<| S_meet (false:Bool) sk h
end morainelaw13_GcShape

