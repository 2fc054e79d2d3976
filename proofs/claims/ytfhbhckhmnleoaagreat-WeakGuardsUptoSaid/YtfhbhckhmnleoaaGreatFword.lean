/- Printed: what each function asks, and that it is sound. -/
import Derived.Test.YtfhbhckhmnleoaaGreatFnsC
set_option linter.unusedSimpArgs false
set_option linter.unusedVariables false
set_option maxRecDepth 100000
set_option maxHeartbeats 1000000
noncomputable section
namespace Go.Proofs.YtfhbhckhmnleoaaGreat
open Go Go.Proofs.Tryz
variable{H:zV}{d:zW}{i:zk}
/-! moraine/trace.Start -/
namespace gj
def K0:=Func.code f12
def K2:=cb K0
def K4:=cb K2
def K12:=cb K4
def K13:=ca K12
def K14:=cb K12
def K16:=cb K13
def K17:=ca K16
def K18:=ca K17
def K31:=cb K14
def K33:=cb K31
def K41:=cb K33
def K42:=ca K41
def K43:=cb K41
def K45:=cb K42
def K46:=ca K45
def K47:=ca K46
def K59:=ca K43
def K62:=cb K59
def K63:=ca K62
def K64:=ca K63
def K66:=cb K64
def K68:=cb K66
def K71:=ca K68
def K73:=ca K71
def K75:=cb K73
def K77:=cb K75
end gj
def gj.pt(hv:zW)(g d o:Int)(H:zV)(R:zk):Prop:=
 gM hv (
 R (.tuple #[vp none,vi 1]) H) (λf=>
 ∃x,hat H f=some (vp x)/\
 gM x (
 R (.tuple #[vp none,vi 1]) H) (λxA=>
 if(((((decide (g<0)) || (decide (g>=4))) || (decide (d<g))) || (decide (d>(zY (g+1))))) || (decide (o<0)))=true then(
 R (.tuple #[vp none,vi 1]) H)
 else
 ∃(bu:zW->Nat->Nat->zv) (m19:zW->Nat->Nat->Int->zV->Nat),bu none 0 0 0 H/\ ∀e gensN gensC s54 H1,bu e gensN gensC s54 H1->
 if s54< (zY (g+1))then(
 ∀b H2,b=H1.size->H2=H1.push (.cells #[vi s54] 3)->
 fE 1 3 8 [vi 0] e gensN gensC (some (ad b)) 1 H2 (λap bb H3=>
 (bu ap (gensN+1) bb (zY (s54+1)) H3/\m19 ap (gensN+1) bb (zY (s54+1)) H3<m19 e gensN gensC s54 H1)))
 else
 ∃b0,hat H1 f=some (vp b0)/\
 ∃b1,b0=some b1/\
 ∃b4,hat H1 b1=some (vp b4)/\
 ∃bt,b4=some bt/\
 ∃bg,hat H1 bt=some (vp bg)/\
 cW.C bg e gensN gensC H1 (λv H4=> ∃xB xN xC,v=vs xB xN xC/\
 ∃bs,hat H4 f=some (vp bs)/\
 ∃bx,bs=some bx/\
 ∃br,hat H4 bx=some (vp br)/\
 ∃b2,br=some b2/\
 ∃bo,hat H4 b2=some (vp bo)/\
 fX.C bo H4 (λck H5=> ∃a6,ck=vi a6/\
 if(zY ((zY (a6-(zY (2*(xN:Int)))))-8))<o then(
 R (.tuple #[vp none,vi 2]) H5)
 else
 ∀a5 H6,a5=H5.size->H6=H5.push (.map #[] 0)->
 ∀bj H7,bj=H6.size->H7=H6.push (.map #[] 0)->
 ∀m H8,m=H7.size->H8=H7.push (.cells ([vq f,vi d]++List.replicate 1024 (vi 0)++[.map (some a5),.map (some bj),vN,vi 0]:List Value).toArray 106)->
 ∃(bz:zv) (m48:Int->zV->Nat),bz 0 H8/\ ∀y H9,bz y H9->
 if y< (xN:Int)then(
 ∃ao,xB=some ao/\
 zw y xN/\
 ∃am,hat H9 (ao.add (Int.toNat y*1))=some (vi am)/\
 zw am 1024/\
 (aN H9 (((ad m).add 2).add (Int.toNat am*1)) 0 1)/\ ∀bw,bw=aV H9 (((ad m).add 2).add (Int.toNat am*1)) [vi 1] 0->
 (bz (zY (y+1)) bw/\m48 (zY (y+1)) bw<m48 y H9))
 else
 ∃bn,hat H9 f=some (vp bn)/\
 ∃bd,bn=some bd/\
 ∃be,hat H9 bd=some (vp be)/\
 ∃bc,be=some bc/\
 ∃au,hat H9 bc=some (vp au)/\
 ∀bp H11,bp=H9.size->H11=H9.push (.cells #[vi d] 3)->
 cW.C au (some (ad bp)) 1 1 H11 (λcj ch=> ∃aq j r,cj=vs aq j r/\
 ∃(b6:zv) (m65:Int->zV->Nat),b6 0 ch/\ ∀p H13,b6 p H13->
 if p< (j:Int)then(
 ∃s,aq=some s/\
 zw p j/\
 ∃q,hat H13 (s.add (Int.toNat p*1))=some (vi q)/\
 ∃bk,hat H13 f=some (vp bk)/\
 ∃bm,bk=some bm/\
 ∃bi,hat H13 bm=some (vp bi)/\
 ∃a8,bi=some a8/\
 ∃a1,hat H13 a8=some (vp a1)/\
 bB.C a1 q H13 (λci cd=> ∃an ai a2 ab af ac ae rb,ci=.tuple #[.agg #[vi an,vi ai,vi a2,vi ab,vi af,vi ac,vi ae],.bool rb]/\
 ∀aa H15,aa=cd.size->H15=cd.push (.cells #[vi 0,vi 0,vi 0,vi 0,vi 0,vi 0,vi 0] 108)->
 (aN H15 (ad aa) 0 7)/\ ∀ay,ay=aV H15 (ad aa) [vi an,vi ai,vi a2,vi ab,vi af,vi ac,vi ae] 0->
 ∃ah,hat ay ((ad m).add 1026)=some (.map ah)/\
 ∃aj,hat ay ((ad m).add 1027)=some (.map aj)/\
 ∃ak,hat ay ((ad aa).add 2)=some (vi ak)/\
 ∃ag,hat ay ((ad aa).add 2)=some (vi ag)/\
 ∃mr,ah=some mr/\
 ∃es cl ks,ay[mr]?=some (.map es cl)/\Ents (dX .i64) es.toList ks/\Born es cl/\
 ∀a3 cl_2 stamp x_21 H17,H17=bN ay mr (.map a3 cl_2)->Ents (dX .i64) a3.toList (mput ks q x_21)->Born a3 cl_2->jL a3 (vi q) stamp->
 aP H17 ((ad aa).add 2) 0 [vi ak]/\aP H17 ((ad aa).add 2) 0 [vi ag]/\ ∃a9 cl_3 ks_2 k,H17[mr]?=some (.map a9 cl_3)/\Ents (dX .i64) a9.toList ks_2/\Born a9 cl_3/\jL a9 (vi k) stamp/\
 ∀bl H18,H18=bN H17 mr (.map bl cl_3)->Ents (dX .i64) bl.toList (mput ks_2 k (vi ak))->Born bl cl_3->
 aP H18 ((ad aa).add 2) 0 [vi ag]/\ ∃al,aj=some al/\
 ∃bq cl_4 ks_3,H18[al]?=some (.map bq cl_4)/\Ents (dX .i64) bq.toList ks_3/\Born bq cl_4/\
 ∀a4 cl_5 stamp_2 x_22 H19,H19=bN H18 al (.map a4 cl_5)->Ents (dX .i64) a4.toList (mput ks_3 q x_22)->Born a4 cl_5->jL a4 (vi q) stamp_2->
 aP H19 ((ad aa).add 2) 0 [vi ag]/\ ∃bf cl_6 ks_4 k_2,H19[al]?=some (.map bf cl_6)/\Ents (dX .i64) bf.toList ks_4/\Born bf cl_6/\jL bf (vi k_2) stamp_2/\
 ∀a7 H20,H20=bN H19 al (.map a7 cl_6)->Ents (dX .i64) a7.toList (mput ks_4 k_2 (vi ag))->Born a7 cl_6->
 (b6 (zY (p+1)) H20/\m65 (zY (p+1)) H20<m65 p H13)))
 else
 ∃ba,hat H13 f=some (vp ba)/\
 ∃bh,ba=some bh/\
 ∃az,hat H13 bh=some (vp az)/\
 dE.C az e gensN gensC H13 (λ_ ce=>
 ∃a0,hat ce f=some (vp a0)/\
 dP.C a0 g ce (λcg b8=> ∃ax av aw,cg=vs ax av aw/\
 (aN b8 ((ad m).add 1028) 0 1)/\ ∀cc,cc=aV b8 ((ad m).add 1028) [vs ax av aw] 0->
 R (.tuple #[vq (ad m),vi 0]) cc)))))))
namespace gj
theorem link{g R o:Int}(h:pt d g R o H i):C d g R o H i:=by
 refine T_en K0 181 func12 ?_
 intro w0 Q hQ
 unfold pt zY at h
 refine T_su [(0,vp d),(1,vi g),(2,vi R),(3,vi o)]<|aA 0<|T_ed 2 [] []<|T_sz<|aA 1<|T_nd 1 [] [(20,vp d)] ?_
 rcases d with _ | f
 ·rw[onPtr_none]at h
  exact T_ed 31 [0,20] [(0,vp none),(51,vT)]<|T_tz 51<|aA 2<|T_nr 2 [8,9] [vp none,vi 1] hQ h
 rw[onPtr_some]at h
 refine T_nd 5 [0,20] [(0,vq f),(22,vF),(25,vq f)] ?_
 obtain⟨x,q1,h⟩:=h
 refine T_l1 26 49 q1 [25] ?_
 rcases x with _ | xA
 ·rw[onPtr_none]at h
  exact T_ed 25 [22,26] [(51,vT)]<|T_tz 51<|aA 2<|T_nr 2 [8,9] [vp none,vi 1] hQ h
 rw[onPtr_some]at h
 refine T_nd 7 [22,26] [(33,.bool (decide (g<0)))] ?_
 refine gz [(0,vq f),(1,vi g),(2,vi R),(3,vi o),(51,.bool (((((decide (g<0)) || (decide (g>=4))) || (decide (R<g))) || (decide (R>(zY (g+1))))) || (decide (o<0))))] ?_ ?_
 ·refine aD ?_
  revert h;refine iO_ (λc10 h=>?_) (λc10 h=>?_)
  ·exact aI 51 c10<|aA 2<|T_nr 2 [8,9] [vp none,vi 1] hQ h
  refine aJ 51 (zZ c10)<|T_kt<|aA 3<|T_ne 1 [(0,vq f),(1,vi g),(2,vi R),(3,vi o),(10,vN)]<|T_sz<|aA 4<|T_ed 3 [] [(53,vi (zY (g+1))),(54,vi 0)]<|T_bz 0 ?_
  obtain⟨bu,m19,i12,i13⟩:=h
  refine bR (x:=K18) (σ:=zW×Nat×Nat×Int) (λs_=> [(0,vq f),(1,vi g),(2,vi R),(3,vi o),(10,vs s_.1 s_.2.1 s_.2.2.1),(53,vi (zY (g+1))),(54,vi s_.2.2.2)]) (λs_ H=>bu s_.1 s_.2.1 s_.2.2.1 s_.2.2.2 H) (λs_ H=>m19 s_.1 s_.2.1 s_.2.2.1 s_.2.2.2 H) ((none,0,0,0):zW×Nat×Nat×Int) (by kernel_rfl) i12 sk ?_
  rintro⟨e,gensN,gensC,s54⟩ H1 i14
  have h:=i13 e gensN gensC s54 H1 i14
  refine T_su [(0,vq f),(1,vi g),(2,vi R),(3,vi o),(10,vs e gensN gensC),(53,vi (zY (g+1))),(54,vi s54)]<|aA 5<|T_ed 1 [] [(55,.bool (decide (s54< (zY (g+1)))))]<|T_sz ?_
  revert h;refine iO_ (λc15 h=>?_) (λc15 h=>?_)
  ·refine aI 55 (zX c15)<|T_kt<|T_sz<|T_bz 1<|aA 6<|T_ed 2 [55] [(11,vi s54)]<|T_rz 7<|T_nd 2 [10,11] [(57,vs e gensN gensC),(58,vi s54)]<|T_nw (some 59) (λb=>vs (pa b) 1 1) (.cells #[vi s54] 3) ?_
   intro b H2 e17 e18
   replace h:=h b H2 e17 e18
   refine T_pd [58] [(59,vs (pa b) 1 1)]<|N_op (some 60) (fR #[75,75] 75 #[vs e gensN gensC,vs (pa b) 1 1]) _ (λ_=>by kernel_rfl) (fu (T:=3) (sz:=1) (bytes:=8) (zero:=(vi 0:Value)) underlying75 underlying75 rfl (show prog.info? 3=some t3 from by kernel_rfl) (by kernel_rfl) (by kernel_rfl) (by decide) (by kernel_rfl) (by first | exact h | (simpa only[Value.cells,List.toList_toArray]using h))) ?_;clear h
   rintro _ H3 ⟨ap,bb,rfl,h⟩
   exact T_pd [57,59] [(60,vs ap (gensN+1) bb)]<|T_nd 1 [60] [(10,vs ap (gensN+1) bb)]<|zq<|aE<|aD<|T_rz 8<|T_ed 2 [54] [(54,vi (zY (s54+1)))]<|aQ ((ap,(gensN+1),bb,(zY (s54+1))):zW×Nat×Nat×Int) sk h
  refine aJ 55 (zQ c15)<|zj 0<|aB<|aB<|aM<|aD<|aA 9<|T_nd 3 [53,54,55] [(64,vq f)] ?_
  obtain⟨b0,q19,h⟩:=h
  refine T_l1 65 49 q19 [64] ?_
  obtain⟨b1,rfl,h⟩:=h
  refine T_nd 2 [65] [(67,vq b1)] ?_
  obtain⟨b4,q20,h⟩:=h
  refine T_l1 68 52 q20 [67] ?_
  obtain⟨bt,rfl,h⟩:=h
  refine T_nd 2 [68] [(70,vq bt)] ?_
  obtain⟨bg,q21,h⟩:=h
  refine T_l1 71 78 q21 [70]<|T_nd 1 [] [(72,vs e gensN gensC)]<|T_c (some 73) h ?_;clear h
  rintro v H4 ⟨xB,xN,xC,rfl,h⟩
  refine T_pd [71,72] [(73,vs xB xN xC)]<|T_ed 1 [73] [(12,vs xB xN xC)]<|T_sz<|aA 10<|T_nd 3 [] [(76,vq f)] ?_
  obtain⟨bs,q22,h⟩:=h
  refine T_l1 77 49 q22 [76] ?_
  obtain⟨bx,rfl,h⟩:=h
  refine T_nd 2 [77] [(79,vq bx)] ?_
  obtain⟨br,q23,h⟩:=h
  refine T_l1 80 52 q23 [79] ?_
  obtain⟨b2,rfl,h⟩:=h
  refine T_nd 2 [80] [(82,vq b2)] ?_
  obtain⟨bo,q24,h⟩:=h
  refine T_l1 83 78 q24 [82]<|T_c (some 84) h ?_;clear h
  rintro ck H5 ⟨a6,rfl,h⟩
  refine T_pd [83] [(84,vi a6)]<|T_ed 7 [3,84] [(91,.bool (decide ((zY ((zY (a6-(zY (2*(xN:Int)))))-8))<o)))] ?_
  revert h;refine iO_ (λc25 h=>?_) (λc25 h=>?_)
  ·exact aI 91 (zX c25)<|aA 11<|T_nr 2 [8,9] [vp none,vi 2] hQ h
  refine aJ 91 (zQ c25)<|T_kt<|aA 12<|T_nd 2 [91] [(92,vq f),(93,vi R)]<|T_nw (some 94) (λb=> .map (some b)) (.map #[] 0) ?_
  intro a5 H6 e27 e28
  replace h:=h a5 H6 e27 e28
  refine T_pd [] [(94,.map (some a5))]<|T_nw (some 95) (λb=> .map (some b)) (.map #[] 0) ?_
  intro bj H7 e29 e30
  replace h:=h bj H7 e29 e30
  refine T_pd [] [(95,.map (some bj))]<|T_nd 1 [92,93,94,95] [(96,.agg ([vq f,vi R]++List.replicate 1024 (vi 0)++[.map (some a5),.map (some bj),vN,vi 0]:List Value).toArray)]<|T_nw (some 97) (λb=>vp (pa b)) (.cells ([vq f,vi R]++List.replicate 1024 (vi 0)++[.map (some a5),.map (some bj),vN,vi 0]:List Value).toArray 106) ?_
  intro m H8 e31 e32
  replace h:=h m H8 e31 e32
  refine T_pd [96] [(97,vp (pa m))]<|T_ed 1 [97] [(13,vp (pa m))]<|T_sz<|aA 13<|T_ed 3 [12] [(98,vs xB xN xC),(99,vi xN),(100,vi 0)]<|T_bz 2 ?_
  obtain⟨bz,m48,i33,i34⟩:=h
  refine bR (x:=K47) (σ:=Int) (λs_=> [(0,vq f),(1,vi g),(2,vi R),(10,vs e gensN gensC),(13,vp (pa m)),(98,vs xB xN xC),(99,vi xN),(100,vi s_)]) (λs_ H=>bz s_ H) (λs_ H=>m48 s_ H) (0:Int) (by kernel_rfl) i33 sk ?_
  rintro y H9 i35
  have h:=i34 y H9 i35
  refine T_su [(0,vq f),(1,vi g),(2,vi R),(10,vs e gensN gensC),(13,vp (pa m)),(98,vs xB xN xC),(99,vi xN),(100,vi y)]<|aA 14<|T_ed 1 [] [(101,.bool (decide (y< (xN:Int))))]<|T_sz ?_
  revert h;refine iO_ (λc36 h=>?_) (λc36 h=>?_)
  ·refine aI 101 (zX c36)<|T_kt<|T_sz<|T_bz 3<|aA 15<|T_ud [101] [] ?_
   obtain⟨ao,rfl,q38,h⟩:=h
   refine T_xd (some 102) 75 3 1 ao xN xC .i64 y underlying75 q38.1 q38.2 [98] [(98,vs (some ao) xN xC),(102,vq (ao.add (Int.toNat y*1)))] ?_
   obtain⟨am,q39,h⟩:=h
   refine T_l1 103 3 q39 [102]<|T_ed 1 [103] [(15,vi am)]<|T_rz 16<|T_nd 4 [15] [(105,vi am),(107,vq ((ad m).add 2))] ?_
   obtain⟨q40,h⟩:=h
   refine T_v1 108 (bA 103 (vq ((ad m).add 2)) (vi am)) (vq (((ad m).add 2).add (Int.toNat am*1))) (λw _=>bK (P:=prog) (t:=103) (elem:=3) (sz:=1) (n:=1024) (a:=((ad m).add 2)) (k:=.i64) (i:=am) underlying103 (λ_=>by kernel_rfl) q40.1 q40.2 w) [105,107] ?_
   obtain⟨q42,h⟩:=h
   refine jf 3 (vi 1) q42 ?_
   intro bw e41
   replace h:=h bw e41
   exact T_pd [108] []<|zq<|aE<|aD<|T_rz 17<|T_ed 2 [100] [(100,vi (zY (y+1)))]<|aQ ((zY (y+1)):Int) sk h
  refine aJ 101 (zQ c36)<|zj 2<|aB<|aB<|aM<|aD<|T_sz<|aA 18<|T_nd 3 [98,99,100,101] [(112,vq f)] ?_
  obtain⟨bn,q43,h⟩:=h
  refine T_l1 113 49 q43 [112] ?_
  obtain⟨bd,rfl,h⟩:=h
  refine T_nd 2 [113] [(115,vq bd)] ?_
  obtain⟨be,q44,h⟩:=h
  refine T_l1 116 52 q44 [115] ?_
  obtain⟨bc,rfl,h⟩:=h
  refine T_nd 2 [116] [(118,vq bc)] ?_
  obtain⟨au,q45,h⟩:=h
  refine T_l1 119 78 q45 [118]<|T_nd 1 [2] [(120,vi R)]<|T_nw (some 121) (λb=>vs (pa b) 1 1) (.cells #[vi R] 3) ?_
  intro bp H11 e46 e47
  replace h:=h bp H11 e46 e47
  refine T_pd [120] [(121,vs (pa bp) 1 1)]<|T_c (some 122) h ?_;clear h
  rintro cj ch ⟨aq,j,r,rfl,h⟩
  refine T_pd [119,121] [(122,vs aq j r)]<|T_ed 2 [] [(123,vi j),(124,vi 0)]<|T_bz 4 ?_
  obtain⟨b6,m65,i48,i49⟩:=h
  refine bR (x:=K64) (σ:=Int) (λs_=> [(0,vq f),(1,vi g),(10,vs e gensN gensC),(13,vp (pa m)),(122,vs aq j r),(123,vi j),(124,vi s_)]) (λs_ H=>b6 s_ H) (λs_ H=>m65 s_ H) (0:Int) (by kernel_rfl) i48 sk ?_
  rintro p H13 i50
  have h:=i49 p H13 i50
  refine T_su [(0,vq f),(1,vi g),(10,vs e gensN gensC),(13,vp (pa m)),(122,vs aq j r),(123,vi j),(124,vi p)]<|aA 19<|T_ed 1 [] [(125,.bool (decide (p< (j:Int))))]<|T_sz ?_
  revert h;refine iO_ (λc51 h=>?_) (λc51 h=>?_)
  ·refine aI 125 (zX c51)<|T_kt<|T_sz<|T_bz 5<|aA 20<|T_ud [125] [] ?_
   obtain⟨s,rfl,q53,h⟩:=h
   refine T_xd (some 126) 75 3 1 s j r .i64 p underlying75 q53.1 q53.2 [122] [(122,vs (some s) j r),(126,vq (s.add (Int.toNat p*1)))] ?_
   obtain⟨q,q54,h⟩:=h
   refine T_l1 127 3 q54 [126]<|T_ed 1 [127] [(17,vi q)]<|aA 21<|T_nd 3 [] [(131,vq f)] ?_
   obtain⟨bk,q55,h⟩:=h
   refine T_l1 132 49 q55 [131] ?_
   obtain⟨bm,rfl,h⟩:=h
   refine T_nd 2 [132] [(134,vq bm)] ?_
   obtain⟨bi,q56,h⟩:=h
   refine T_l1 135 52 q56 [134] ?_
   obtain⟨a8,rfl,h⟩:=h
   refine T_nd 2 [135] [(137,vq a8)] ?_
   obtain⟨a1,q57,h⟩:=h
   refine T_l1 138 78 q57 [137]<|T_nd 1 [] [(139,vi q)]<|T_c (some 140) h ?_;clear h
   rintro ci cd ⟨an,ai,a2,ab,af,ac,ae,rb,rfl,h⟩
   refine T_pd [138,139] [(140,.tuple #[.agg #[vi an,vi ai,vi a2,vi ab,vi af,vi ac,vi ae],.bool rb])]<|T_nd 3 [140] [(141,.agg #[vi an,vi ai,vi a2,vi ab,vi af,vi ac,vi ae]),(142,.bool rb)]<|T_nw (some 18) (λb=>vp (pa b)) (.cells #[vi 0,vi 0,vi 0,vi 0,vi 0,vi 0,vi 0] 108) ?_
   intro aa H15 e58 e59
   replace h:=h aa H15 e58 e59
   refine T_pd [] [(18,vp (pa aa))] ?_
   obtain⟨q61,h⟩:=h
   refine fL 108 [vi an,vi ai,vi a2,vi ab,vi af,vi ac,vi ae] q61 ?_
   intro ay e60
   replace h:=h ay e60
   refine T_pd [141] []<|T_ed 1 [142] [] ?_
   obtain⟨ah,q62,aj,q63,ak,q64,ag,q65,h⟩:=h
   refine yY 22 (Code.ops K77) [(14,((ad m).add 1026),[.map ah]),(14,((ad m).add 1027),[.map aj]),(16,((ad aa).add 2),[vi ak]),(19,((ad aa).add 2),[vi ag])] 20 (bv 20 0) (show aH _ _ _ from⟨⟨q62,trivial⟩,⟨q63,trivial⟩,⟨q64,trivial⟩,⟨q65,trivial⟩,trivial⟩)<|T_gp 0 (some 143) (vp (pa m)) (bv 20 1) [(0,vq f),(1,vi g),(10,vs e gensN gensC),(13,vp (pa m)),(17,vi q),(18,vp (pa aa)),(122,vs (some s) j r),(123,vi j),(124,vi p),(143,vp (pa m))]<|aF 1 144 (vp (pa m)) (bv 20 3) [143]<|aF 2 145 (vq ((ad m).add 1026)) (bv 20 7) [144]<|T_g1 3 146 (.map ah) (bv 20 15) [145] (aR 102 (vq ((ad m).add 1026))) (yW 14 yZ)<|aF 4 147 (vi q) (bv 20 31) []<|aF 5 148 (vp (pa m)) (bv 20 63) []<|aF 6 149 (vp (pa m)) (bv 20 127) [148]<|aF 7 150 (vq ((ad m).add 1027)) (bv 20 255) [149]<|T_g1 8 151 (.map aj) (bv 20 511) [150] (aR 102 (vq ((ad m).add 1027))) (yW 14 yX)<|aF 9 152 (vi q) (bv 20 1023) [17]<|aF 10 153 (vq ((ad aa).add 2)) (bv 20 2047) []<|T_g1 11 154 (vi ak) (bv 20 4095) [153] (aR 3 (vq ((ad aa).add 2))) (yW 16 yQ)<|aF 12 155 (vq ((ad aa).add 2)) (bv 20 8191) [18]<|T_g1 13 156 (vi ag) (bv 20 16383) [155] (aR 3 (vq ((ad aa).add 2))) (yW 19 yJ) ?_
   obtain⟨mr,rfl,es,cl,ks,q68,q69,q73,h⟩:=h
   refine mS 14 (some 157) (bv 20 32767) (lw 102 (.map (some mr)) (vi q)) (λu Hz=> ∃es2 cl2 sp v0,Hz=bN ay mr (.map es2 cl2)/\Ents (dX .i64) es2.toList (mput ks q v0)/\Born es2 cl2/\jL es2 (vi q) sp/\u=.tuple #[v0,vi sp]) (by kernel_rfl) (λ_=>by kernel_rfl) (mV (kk:=(dX .i64)) (z:=vi 0) underlying102 underlying3 (λ_=>by kernel_rfl) q68 q69 q73) (by kernel_rfl) ?_
   rintro _ H17 ⟨a3,cl_2,stamp,x_21,e71,e72,e74,e75,rfl⟩
   replace h:=h a3 cl_2 stamp x_21 H17 e71 e72 e74 e75
   obtain⟨f66,f67,h⟩:=h
   refine⟨[(0,vq f),(1,vi g),(10,vs e gensN gensC),(13,vp (pa m)),(122,vs (some s) j r),(123,vi j),(124,vi p),(146,.map (some mr)),(151,.map aj),(152,vi q),(154,vi ak),(156,vi ag),(157,.tuple #[x_21,vi stamp])],pk,(show aH _ _ _ from⟨trivial,trivial,f66,f67,trivial⟩),?_⟩
   refine T_g 15 (some 158) (vi stamp) (bv 20 65535) [(0,vq f),(1,vi g),(10,vs e gensN gensC),(13,vp (pa m)),(122,vs (some s) j r),(123,vi j),(124,vi p),(146,.map (some mr)),(151,.map aj),(152,vi q),(154,vi ak),(156,vi ag),(158,vi stamp)] (pure (.value (vi stamp)):Sem Next) (λ_ _ _ _ _=>rfl) ?_
   obtain⟨a9,cl_3,ks_2,k,q77,q78,q79,q80,h⟩:=h
   refine gY 16 none (bv 20 131071) (mE 102 (.map (some mr)) (vi stamp) (vi ak)) (λHz=> ∃es2,Hz=bN H17 mr (.map es2 cl_3)/\Ents (dX .i64) es2.toList (mput ks_2 k (vi ak))/\Born es2 cl_3) (by kernel_rfl) (λ_=>by kernel_rfl) (mW (kk:=(dX .i64)) q77 q78 q79 q80) (by kernel_rfl) ?_
   rintro H18 ⟨bl,e81,e82,e83⟩
   replace h:=h bl H18 e81 e82 e83
   obtain⟨f76,h⟩:=h
   refine⟨[(0,vq f),(1,vi g),(10,vs e gensN gensC),(13,vp (pa m)),(122,vs (some s) j r),(123,vi j),(124,vi p),(151,.map aj),(152,vi q),(156,vi ag)],pk,(show aH _ _ _ from⟨trivial,trivial,trivial,f76,trivial⟩),?_⟩
   obtain⟨al,rfl,bq,cl_4,ks_3,q85,q86,q90,h⟩:=h
   refine mS 17 (some 159) (bv 20 262143) (lw 102 (.map (some al)) (vi q)) (λu Hz=> ∃es2 cl2 sp v0,Hz=bN H18 al (.map es2 cl2)/\Ents (dX .i64) es2.toList (mput ks_3 q v0)/\Born es2 cl2/\jL es2 (vi q) sp/\u=.tuple #[v0,vi sp]) (by kernel_rfl) (λ_=>by kernel_rfl) (mV (kk:=(dX .i64)) (z:=vi 0) underlying102 underlying3 (λ_=>by kernel_rfl) q85 q86 q90) (by kernel_rfl) ?_
   rintro _ H19 ⟨a4,cl_5,stamp_2,x_22,e88,e89,e91,e92,rfl⟩
   replace h:=h a4 cl_5 stamp_2 x_22 H19 e88 e89 e91 e92
   obtain⟨f84,h⟩:=h
   refine⟨[(0,vq f),(1,vi g),(10,vs e gensN gensC),(13,vp (pa m)),(122,vs (some s) j r),(123,vi j),(124,vi p),(151,.map (some al)),(156,vi ag),(159,.tuple #[x_22,vi stamp_2])],pk,(show aH _ _ _ from⟨trivial,trivial,trivial,f84,trivial⟩),?_⟩
   refine T_g 18 (some 160) (vi stamp_2) (bv 20 524287) [(0,vq f),(1,vi g),(10,vs e gensN gensC),(13,vp (pa m)),(122,vs (some s) j r),(123,vi j),(124,vi p),(151,.map (some al)),(156,vi ag),(160,vi stamp_2)] (pure (.value (vi stamp_2)):Sem Next) (λ_ _ _ _ _=>rfl) ?_
   obtain⟨bf,cl_6,ks_4,k_2,q93,q94,q95,q96,h⟩:=h
   refine gY 19 none (bv 20 1048575) (mE 102 (.map (some al)) (vi stamp_2) (vi ag)) (λHz=> ∃es2,Hz=bN H19 al (.map es2 cl_6)/\Ents (dX .i64) es2.toList (mput ks_4 k_2 (vi ag))/\Born es2 cl_6) (by kernel_rfl) (λ_=>by kernel_rfl) (mW (kk:=(dX .i64)) q93 q94 q95 q96) (by kernel_rfl) ?_
   rintro H20 ⟨a7,e97,e98,e99⟩
   replace h:=h a7 H20 e97 e98 e99
   refine⟨[(0,vq f),(1,vi g),(10,vs e gensN gensC),(13,vp (pa m)),(122,vs (some s) j r),(123,vi j),(124,vi p)],pk,(show aH _ _ _ from⟨trivial,trivial,trivial,trivial,trivial⟩),?_⟩
   refine fQ [(0,vq f),(1,vi g),(10,vs e gensN gensC),(13,vp (pa m)),(122,vs (some s) j r),(123,vi j),(124,vi p)] sk ?_
   exact yx<|aE<|aD<|T_rz 23<|T_ne 2 [(0,vq f),(1,vi g),(10,vs e gensN gensC),(13,vp (pa m)),(122,vs (some s) j r),(123,vi j),(124,vi (zY (p+1)))]<|aQ ((zY (p+1)):Int) sk h
  refine aJ 125 (zQ c51)<|zj 4<|aB<|aB<|aM<|aD<|aA 24<|T_nd 3 [122,123,124,125] [(164,vq f)] ?_
  obtain⟨ba,q100,h⟩:=h
  refine T_l1 165 49 q100 [164] ?_
  obtain⟨bh,rfl,h⟩:=h
  refine T_nd 2 [165] [(167,vq bh)] ?_
  obtain⟨az,q101,h⟩:=h
  refine T_l1 168 52 q101 [167]<|T_nd 1 [10] [(169,vs e gensN gensC)]<|T_c (some 170) h ?_;clear h
  intro v_5 ce h
  refine T_pd [168,169] []<|T_e<|aA 25<|T_nd 4 [0] [(171,vp (pa m)),(174,vq f)] ?_
  obtain⟨a0,q102,h⟩:=h
  refine T_l1 175 49 q102 [174]<|T_nd 1 [1] [(176,vi g)]<|T_c (some 177) h ?_;clear h
  rintro cg b8 ⟨ax,av,aw,rfl,h⟩
  refine T_pd [175,176] [(177,vs ax av aw)]<|T_nd 2 [171] [(179,vq ((ad m).add 1028))] ?_
  obtain⟨q104,h⟩:=h
  refine jf 104 (vs ax av aw) q104 ?_
  intro cc e103
  replace h:=h cc e103
  exact T_pd [177,179] []<|T_e<|aA 26<|T_nr 3 [8,9] [vp (pa m),vi 0] hQ h
 intro hk
 refine T_nu [(0,vq f),(1,vi g),(2,vi R),(3,vi o),(33,.bool (decide (g<0)))] ?_
 by_cases c2:g<0
 ·have b3:(decide (g<0))=true:=zX c2
  refine bG [(0,vq f),(1,vi g),(2,vi R),(3,vi o),(33,vT)] (by rw[b3]) ?_
  refine T_nd 18 [33] [(51,vT)]<|zq<|S_bd 51 (b:=true) (v:=(((((decide (g<0)) || (decide (g>=4))) || (decide (R<g))) || (decide (R>(zY (g+1))))) || (decide (o<0)))) (by simp only[b3,BL]) ?_
  exact hk
 have b3:(decide (g<0))=false:=zQ c2
 refine bG [(0,vq f),(1,vi g),(2,vi R),(3,vi o),(33,vF)] (by rw[b3]) ?_
 refine T_nd 4 [33] [(37,.bool (decide (g>=4)))] ?_
 by_cases c4:g>=4
 ·have b5:(decide (g>=4))=true:=zX c4
  refine N_bd 37 b5<|T_nd 14 [37] [(51,vT)] ?_
  refine zq<|S_bd 51 (b:=true) (v:=(((((decide (g<0)) || (decide (g>=4))) || (decide (R<g))) || (decide (R>(zY (g+1))))) || (decide (o<0)))) (by simp only[b3,b5,BL]) ?_
  exact hk
 have b5:(decide (g>=4))=false:=zQ c4
 refine N_bd 37 b5<|T_nd 5 [37] [(42,.bool (decide (R<g)))] ?_
 by_cases c6:R<g
 ·have b7:(decide (R<g))=true:=zX c6
  refine N_bd 42 b7<|T_nd 9 [42] [(51,vT)] ?_
  refine zq<|S_bd 51 (b:=true) (v:=(((((decide (g<0)) || (decide (g>=4))) || (decide (R<g))) || (decide (R>(zY (g+1))))) || (decide (o<0)))) (by simp only[b3,b5,b7,BL]) ?_
  exact hk
 have b7:(decide (R<g))=false:=zQ c6
 refine N_bd 42 b7<|T_nd 6 [42] [(48,.bool (decide (R>(zY (g+1)))))] ?_
 by_cases c8:R>(zY (g+1))
 ·have b9:(decide (R>(zY (g+1))))=true:=zX c8
  refine N_bd 48 b9<|T_nd 3 [48] [(51,vT)] ?_
  refine zq<|S_bd 51 (b:=true) (v:=(((((decide (g<0)) || (decide (g>=4))) || (decide (R<g))) || (decide (R>(zY (g+1))))) || (decide (o<0)))) (by simp only[b3,b5,b7,b9,BL]) ?_
  exact hk
 have b9:(decide (R>(zY (g+1))))=false:=zQ c8
 refine N_bd 48 b9<|T_nd 3 [48] [(51,.bool (decide (o<0)))] ?_
 refine zq<|S_bd 51 (b:=(decide (o<0))) (v:=(((((decide (g<0)) || (decide (g>=4))) || (decide (R<g))) || (decide (R>(zY (g+1))))) || (decide (o<0)))) (by simp only[b3,b5,b7,b9,BL]) ?_
 exact hk
end gj
/-! (*moraine/trace.Trace).Visit -/
namespace aT
def K0:=Func.code f13
def K2:=cb K0
def K4:=cb K2
def K10:=cb K4
def K20:=cb K10
def K22:=cb K20
def K30:=cb K22
def K32:=cb K30
def K33:=ca K32
def K34:=cb K32
def K36:=cb K34
def K41:=ca K36
def K44:=cb K41
def K45:=ca K44
def K46:=ca K45
end aT
def aT.pt(tv:zW)(wv:Int)(H:zV)(R:zk):Prop:=
 aZ.C tv wv H (λv H1=> ∃x,v=.bool x/\
 if x=true then(
 cL.C tv wv H1 (λbz H2=> ∃ra rb,bz=.tuple #[vu ra,.bool rb]/\
 if rb=true then(
 R (vu ra) H2)
 else
 ∃d,tv=some d/\
 ∃a2,hat H2 d=some (vp a2)/\
 fF.C a2 wv H2 (λbw H3=> ∃f,bw=vi f/\
 if f=0 then(
 R (vu wv) H3)
 else
 fS.C wv H3 (λbs H4=> ∃a be,bs=.tuple #[vi a,.bool be]/\
 ∃ba,hat H4 d=some (vp ba)/\
 ∃bb,ba=some bb/\
 ∃a8,hat H4 bb=some (vp a8)/\
 ∃a9,a8=some a9/\
 ∃a7,hat H4 a9=some (vp a7)/\
 ∃bc,a7=some bc/\
 ∃aj,hat H4 bc=some (vp aj)/\
 bB.C aj (zY (Int.tdiv a 64)) H4 (λb0 H5=> ∃s q af i m j k ah,b0=.tuple #[.agg #[vi s,vi q,vi af,vi i,vi m,vi j,vi k],.bool ah]/\
 ∀b H6,b=H5.size->H6=H5.push (.cells #[vi 0,vi 0,vi 0,vi 0,vi 0,vi 0,vi 0] 108)->
 (aN H6 (ad b) 0 7)/\ ∀H7,H7=aV H6 (ad b) [vi s,vi q,vi af,vi i,vi m,vi j,vi k] 0->
 ∃bj,hat H7 d=some (vp bj)/\
 ∃t,bj=some t/\
 ∃bn,hat H7 t=some (vp bn)/\
 ∃u,bn=some u/\
 ∃r,hat H7 u=some (vp r)/\
 ∃y,hat H7 (d.add 1)=some (vi y)/\
 ∃z,hat H7 ((ad b).add 1)=some (vi z)/\
 bU.C r y z f H7 (λbq H8=> ∃e n,bq=.tuple #[vi e,vi n]/\
 if n=0 then(
 ∃(bd:zv) (m47:Int->zV->Nat),bd 0 H8/\ ∀g H9,bd g H9->
 if g<f then(
 ∃a1,hat H9 d=some (vp a1)/\
 ∃ap,a1=some ap/\
 ∃ax,hat H9 ap=some (vp ax)/\
 ∃az,ax=some az/\
 ∃aw,hat H9 az=some (vp aw)/\
 ∃ak,aw=some ak/\
 ∃ae,hat H9 ak=some (vp ae)/\
 bL.C ae (zY (a+g)) H9 (λbu a6=> ∃p bg,bu=.tuple #[vu p,vi bg]/\
 ∃a4,hat a6 d=some (vp a4)/\
 ∃ay,a4=some ay/\
 ∃aq,hat a6 ay=some (vp aq)/\
 ∃au,aq=some au/\
 ∃a0,hat a6 au=some (vp a0)/\
 ∃ai,a0=some ai/\
 ∃aa,hat a6 ai=some (vp aa)/\
 bM.C aa (zY (e+g)) p a6 (λb1 bk=> ∃bm,b1=vi bm/\
 (bd (zY (g+1)) bk/\m47 (zY (g+1)) bk<m47 g H9))))
 else
 il.C 6 e H9 (λbx a5=> ∃o bh,bx=.tuple #[vu o,vi bh]/\
 ∃am,hat a5 d=some (vp am)/\
 ∃ao,am=some ao/\
 ∃al,hat a5 ao=some (vp al)/\
 ∃av,al=some av/\
 ∃an,hat a5 av=some (vp an)/\
 ∃a3,an=some a3/\
 ∃ac,hat a5 a3=some (vp ac)/\
 bM.C ac a o a5 (λbp bt=> ∃bl,bp=vi bl/\
 fM.C wv bt (λbo br=> ∃ag,bo=vi ag/\
 il.C ag e br (λbi b3=> ∃ab bf,bi=.tuple #[vu ab,vi bf]/\
 R (vu ab) b3)))))
 else
 R (vu wv) H8))))))
 else
 R (vu wv) H1)
namespace aT
theorem link{wv:Int}(h:pt d wv H i):C d wv H i:=by
 refine T_en K0 163 func13 ?_
 intro w0 Q hQ
 unfold pt zY at h
 refine T_su [(0,vp d),(1,vu wv)]<|aA 0<|T_ed 1 [] []<|T_sz<|aA 1<|T_nd 2 [] [(21,vp d),(22,vu wv)]<|T_c (some 23) h ?_;clear h
 rintro v H1 ⟨x,rfl,h⟩
 refine T_pd [21,22] [(23,.bool x)]<|T_ed 1 [23] [(24,.bool (!x))] ?_
 revert h;refine iO_ (λc1 h=>?_) (λc1 h=>?_)
 ·refine aJ 24 (congrArg Bool.not (c1))<|T_kt<|T_sz<|aA 3<|T_nd 2 [24] [(27,vp d),(28,vu wv)]<|T_c (some 29) h ?_;clear h
  rintro bz H2 ⟨ra,rb,rfl,h⟩
  refine T_pd [27,28] [(29,.tuple #[vu ra,.bool rb])]<|T_ed 5 [29] [(5,vu ra),(6,.bool rb)]<|aA 4<|T_ed 1 [6] [(32,.bool rb)] ?_
  revert h;refine iO_ (λc3 h=>?_) (λc3 h=>?_)
  ·exact aI 32 c3<|aA 5<|T_nr 2 [4] [vu ra] hQ h
  refine aJ 32 (zZ c3)<|T_kt<|aA 6<|T_nd 1 [5,32] [(34,vp d)] ?_
  obtain⟨R,rfl,h⟩:=h
  refine T_nd 2 [0,34] [(0,vq R),(36,vq R)] ?_
  obtain⟨a2,q5,h⟩:=h
  refine T_l1 37 23 q5 [36]<|T_nd 1 [] [(38,vu wv)]<|T_c (some 39) h ?_;clear h
  rintro bw H3 ⟨f,rfl,h⟩
  refine T_pd [37,38] [(39,vi f)]<|T_ed 1 [39] [(7,vi f)]<|T_sz<|aA 7<|T_ed 2 [] [(41,.bool (f==0))] ?_
  revert h;refine iO_ (λc6 h=>?_) (λc6 h=>?_)
  ·exact aI 41 (zK c6)<|aA 8<|T_nr 2 [4] [vu wv] hQ h
  refine aJ 41 (zJ c6)<|T_kt<|aA 9<|T_nd 1 [41] [(44,vu wv)]<|T_c (some 45) h ?_;clear h
  rintro bs H4 ⟨a,be,rfl,h⟩
  refine T_pd [44] [(45,.tuple #[vi a,.bool be])]<|T_ed 5 [45] [(8,vi a)]<|aA 10<|T_nd 3 [] [(51,vq R)] ?_
  obtain⟨ba,q8,h⟩:=h
  refine T_l1 52 23 q8 [51] ?_
  obtain⟨bb,rfl,h⟩:=h
  refine T_nd 2 [52] [(54,vq bb)] ?_
  obtain⟨a8,q9,h⟩:=h
  refine T_l1 55 49 q9 [54] ?_
  obtain⟨a9,rfl,h⟩:=h
  refine T_nd 2 [55] [(57,vq a9)] ?_
  obtain⟨a7,q10,h⟩:=h
  refine T_l1 58 52 q10 [57] ?_
  obtain⟨bc,rfl,h⟩:=h
  refine T_nd 2 [58] [(60,vq bc)] ?_
  obtain⟨aj,q11,h⟩:=h
  refine T_l1 61 78 q11 [60]<|T_nd 2 [] [(63,vi (zY (Int.tdiv a 64)))]<|T_c (some 64) h ?_;clear h
  rintro b0 H5 ⟨s,q,af,tv,m,j,k,ah,rfl,h⟩
  refine T_pd [61,63] [(64,.tuple #[.agg #[vi s,vi q,vi af,vi tv,vi m,vi j,vi k],.bool ah])]<|T_nd 3 [64] [(65,.agg #[vi s,vi q,vi af,vi tv,vi m,vi j,vi k]),(66,.bool ah)]<|T_nw (some 10) (λb=>vp (pa b)) (.cells #[vi 0,vi 0,vi 0,vi 0,vi 0,vi 0,vi 0] 108) ?_
  intro b H6 e12 e13
  replace h:=h b H6 e12 e13
  refine T_pd [] [(10,vp (pa b))] ?_
  obtain⟨q15,h⟩:=h
  refine fL 108 [vi s,vi q,vi af,vi tv,vi m,vi j,vi k] q15 ?_
  intro H7 e14
  replace h:=h H7 e14
  refine T_pd [65] []<|T_ed 1 [66] []<|T_sz ?_
  obtain⟨bj,q16,t,rfl,bn,q17,u,rfl,r,q18,y,q19,z,q20,h⟩:=h
  refine yY 11 (Code.ops K33) [(17,R,[vq t]),(17,t,[vq u]),(17,u,[vp r]),(17,(R.add 1),[vi y]),(17,((ad b).add 1),[vi z])] 23 (bv 23 0) (show aH _ _ _ from⟨⟨q16,trivial⟩,⟨q17,trivial⟩,⟨q18,trivial⟩,⟨q19,trivial⟩,⟨q20,trivial⟩,trivial⟩)<|T_gp 0 (some 68) (vq R) (bv 23 1) [(0,vq R),(1,vu wv),(7,vi f),(8,vi a),(10,vp (pa b)),(68,vq R)]<|aF 1 69 (vq R) (bv 23 3) [68]<|aF 2 70 (vq R) (bv 23 7) [69]<|T_g1 3 71 (vq t) (bv 23 15) [70] (aR 23 (vq R)) (yW 17 yZ)<|aF 4 72 (vq t) (bv 23 31) [71]<|aF 5 73 (vq t) (bv 23 63) [72]<|T_g1 6 74 (vq u) (bv 23 127) [73] (aR 49 (vq t)) (yW 17 yX)<|aF 7 75 (vq u) (bv 23 255) [74]<|aF 8 76 (vq u) (bv 23 511) [75]<|T_g1 9 77 (vp r) (bv 23 1023) [76] (aR 52 (vq u)) (yW 17 yQ)<|aF 10 78 (vq R) (bv 23 2047) []<|aF 11 79 (vq R) (bv 23 4095) [78]<|aF 12 80 (vq (R.add 1)) (bv 23 8191) [79]<|T_g1 13 81 (vi y) (bv 23 16383) [80] (aR 3 (vq (R.add 1))) (yW 17 yJ)<|aF 14 82 (vq ((ad b).add 1)) (bv 23 32767) [10]<|T_g1 15 83 (vi z) (bv 23 65535) [82] (aR 3 (vq ((ad b).add 1))) (yW 17 yK)<|aF 16 84 (vi f) (bv 23 131071) []<|yq 17 (some 85) (bv 23 262143) 53 #[vp r,vi y,vi z,vi f] h ?_;clear h
  rintro bq H8 ⟨e,n,rfl,h⟩
  refine⟨[(0,vq R),(1,vu wv),(7,vi f),(8,vi a),(85,.tuple #[vi e,vi n])],pk,(show aH _ _ _ from⟨trivial,trivial,trivial,trivial,trivial,trivial⟩),?_⟩
  refine T_g 18 (some 67) (.tuple #[vi e,vi n]) (bv 23 524287) [(0,vq R),(1,vu wv),(7,vi f),(8,vi a),(67,.tuple #[vi e,vi n])] (pure (.value (.tuple #[vi e,vi n])):Sem Next) (λ_ _ _ _ _=>rfl)<|T_g1 19 86 (vi e) (bv 23 1048575) [] (pure (.value (vi e)):Sem Next) (λ_ _ _ _ _=>rfl)<|T_g1 20 87 (vi n) (bv 23 2097151) [67] (pure (.value (vi n)):Sem Next) (λ_ _ _ _ _=>rfl)<|T_g1 21 12 (vi e) (bv 23 4194303) [86] (pure (.value (vi e)):Sem Next) (λ_ _ _ _ _=>rfl)<|T_g1 22 13 (vi n) (bv 23 8388607) [87] (pure (.value (vi n)):Sem Next) (λ_ _ _ _ _=>rfl)<|fQ [(0,vq R),(1,vu wv),(7,vi f),(8,vi a),(12,vi e),(13,vi n)] sk<|yx<|aD<|T_sz<|aA 12<|T_ne 2 [(0,vq R),(1,vu wv),(7,vi f),(8,vi a),(12,vi e),(89,.bool (n !=0))] ?_
  revert h;refine iO_ (λc21 h=>?_) (λc21 h=>?_)
  ·refine aJ 89 (bne_eq_false_iff_eq.mpr c21)<|T_kt<|T_sz<|aA 14<|T_ed 2 [7,89] [(91,vi f),(92,vi 0)]<|T_bz 0 ?_
   obtain⟨bd,m47,i23,i24⟩:=h
   refine bR (x:=K46) (σ:=Int) (λs_=> [(0,vq R),(1,vu wv),(8,vi a),(12,vi e),(91,vi f),(92,vi s_)]) (λs_ H=>bd s_ H) (λs_ H=>m47 s_ H) (0:Int) (by kernel_rfl) i23 sk ?_
   rintro g H9 i25
   have h:=i24 g H9 i25
   refine T_su [(0,vq R),(1,vu wv),(8,vi a),(12,vi e),(91,vi f),(92,vi g)]<|aA 15<|T_ed 1 [] [(93,.bool (decide (g<f)))]<|T_sz ?_
   revert h;refine iO_ (λc26 h=>?_) (λc26 h=>?_)
   ·refine aI 93 (zX c26)<|T_kt<|T_sz<|T_bz 1<|aA 16<|T_ed 2 [93] [(14,vi g)]<|aA 17<|T_nd 3 [] [(98,vq R)] ?_
    obtain⟨a1,q28,h⟩:=h
    refine T_l1 99 23 q28 [98] ?_
    obtain⟨ap,rfl,h⟩:=h
    refine T_nd 2 [99] [(101,vq ap)] ?_
    obtain⟨ax,q29,h⟩:=h
    refine T_l1 102 49 q29 [101] ?_
    obtain⟨az,rfl,h⟩:=h
    refine T_nd 2 [102] [(104,vq az)] ?_
    obtain⟨aw,q30,h⟩:=h
    refine T_l1 105 52 q30 [104] ?_
    obtain⟨ak,rfl,h⟩:=h
    refine T_nd 2 [105] [(107,vq ak)] ?_
    obtain⟨ae,q31,h⟩:=h
    refine T_l1 108 78 q31 [107]<|T_nd 3 [] [(111,vi (zY (a+g)))]<|T_c (some 112) h ?_;clear h
    rintro bu a6 ⟨p,bg,rfl,h⟩
    refine T_pd [108,111] [(112,.tuple #[vu p,vi bg])]<|T_ed 5 [112] [(15,vu p)]<|T_rz 18<|T_nd 3 [] [(117,vq R)] ?_
    obtain⟨a4,q32,h⟩:=h
    refine T_l1 118 23 q32 [117] ?_
    obtain⟨ay,rfl,h⟩:=h
    refine T_nd 2 [118] [(120,vq ay)] ?_
    obtain⟨aq,q33,h⟩:=h
    refine T_l1 121 49 q33 [120] ?_
    obtain⟨au,rfl,h⟩:=h
    refine T_nd 2 [121] [(123,vq au)] ?_
    obtain⟨a0,q34,h⟩:=h
    refine T_l1 124 52 q34 [123] ?_
    obtain⟨ai,rfl,h⟩:=h
    refine T_nd 2 [124] [(126,vq ai)] ?_
    obtain⟨aa,q35,h⟩:=h
    refine T_l1 127 78 q35 [126]<|T_nd 4 [14,15] [(130,vi (zY (e+g))),(131,vu p)]<|T_c (some 132) h ?_;clear h
    rintro b1 bk ⟨bm,rfl,h⟩
    exact T_pd [127,130,131] []<|zq<|aE<|aD<|T_rz 19<|T_ed 2 [92] [(92,vi (zY (g+1)))]<|aQ ((zY (g+1)):Int) sk h
   refine aJ 93 (zQ c26)<|zj 0<|aB<|aB<|aM<|aD<|aA 20<|T_nd 1 [91,92,93] [(135,vi e)]<|T_c (some 136) h ?_;clear h
   rintro bx a5 ⟨o,bh,rfl,h⟩
   refine T_pd [135] [(136,.tuple #[vu o,vi bh])]<|T_ed 5 [136] [(17,vu o)]<|aA 21<|T_nd 3 [0] [(141,vq R)] ?_
   obtain⟨am,q36,h⟩:=h
   refine T_l1 142 23 q36 [141] ?_
   obtain⟨ao,rfl,h⟩:=h
   refine T_nd 2 [142] [(144,vq ao)] ?_
   obtain⟨al,q37,h⟩:=h
   refine T_l1 145 49 q37 [144] ?_
   obtain⟨av,rfl,h⟩:=h
   refine T_nd 2 [145] [(147,vq av)] ?_
   obtain⟨an,q38,h⟩:=h
   refine T_l1 148 52 q38 [147] ?_
   obtain⟨a3,rfl,h⟩:=h
   refine T_nd 2 [148] [(150,vq a3)] ?_
   obtain⟨ac,q39,h⟩:=h
   refine T_l1 151 78 q39 [150]<|T_nd 2 [8,17] [(152,vi a),(153,vu o)]<|T_c (some 154) h ?_;clear h
   rintro bp bt ⟨bl,rfl,h⟩
   refine T_pd [151,152,153] []<|T_e<|aA 22<|T_nd 1 [1] [(156,vu wv)]<|T_c (some 157) h ?_;clear h
   rintro bo br ⟨ag,rfl,h⟩
   refine T_pd [156] [(157,vi ag)]<|T_nd 1 [12] [(158,vi e)]<|T_c (some 159) h ?_;clear h
   rintro bi b3 ⟨ab,bf,rfl,h⟩
   refine⟨[(159,.tuple #[vu ab,vi bf])],pk,?_⟩
   exact T_ne 5 [(19,vu ab)]<|aA 23<|T_nr 2 [4] [vu ab] hQ h
  exact aI 89 (bne_iff_ne.mpr c21)<|aA 13<|T_nr 2 [4] [vu wv] hQ h
 exact aI 24 (congrArg Bool.not (zZ c1))<|aA 2<|T_nr 2 [4] [vu wv] hQ h
end aT
/-! (*moraine/trace.Trace).Drain -/
namespace bS
def K0:=Func.code f14
def K1:=ca K0
def K2:=ca K1
end bS
def bS.pt(tv:zW)(H:zV)(R:zk):Prop:=
 ∃(I3:zV->Prop) (m3:zV->Nat),I3 H/\ ∀H1,I3 H1->
 bE.C tv H1 (λv H2=> ∃x,v=.bool x/\
 if x=true then(
 R (.tuple #[]) H2)
 else
 dF.C tv H2 (λb H3=> ∃a,b=.bool a/\
 if a=true then(
 (I3 H3/\m3 H3<m3 H1))
 else
 R (.tuple #[]) H3))
namespace bS
theorem link(h:pt d H i):C d H i:=by
 refine T_en K0 9 func14 ?_
 intro w0 Q hQ
 unfold pt at h
 refine T_su [(0,vp d)]<|T_bz 0 ?_
 obtain⟨I3,m3,i1,i2⟩:=h
 refine bR (x:=K2) (σ:=Unit) (λs_=> [(0,vp d)]) (λs_ H=>I3 H) (λs_ H=>m3 H) (():Unit) (by kernel_rfl) i1 sk ?_
 rintro _ H1 i3
 have h:=i2 H1 i3
 refine T_su [(0,vp d)]<|T_sz<|aA 0<|T_nd 1 [] [(2,vp d)]<|T_c (some 3) h ?_;clear h
 rintro v H2 ⟨x,rfl,h⟩
 refine T_pd [2] [(3,.bool x)]<|T_nd 2 [3] [(5,.bool (!x))] ?_
 revert h;refine iO_ (λc4 h=>?_) (λc4 h=>?_)
 ·have b5:(!x)=false:=congrArg Bool.not (c4)
  have b52:x=true:=c4
  refine N_bd 5 (b:=(!x)) (v:=false) (by simp only[b5,b52,Bool.not_true,Bool.not_false]) ?_
  clear b5 b52
  exact T_ed 3 [5] [(8,vF)]<|T_fz 8<|zj 0<|aB<|aB<|aM<|ie (fn:=f14) [] hQ (show dW _ _ _ [] _ from .nil) h
 have b5:(!x)=true:=congrArg Bool.not (zZ c4)
 have b52:x=false:=zZ c4
 refine N_bd 5 (b:=(!x)) (v:=true) (by simp only[b5,b52,Bool.not_true,Bool.not_false]) ?_
 clear b5 b52
 refine T_nd 1 [] [(6,vp d)]<|T_c (some 7) h ?_;clear h
 rintro b H3 ⟨a,rfl,h⟩
 refine T_pd [6] [(7,.bool a)]<|T_ed 1 [5,7] [(8,.bool a)] ?_
 revert h;refine iO_ (λc6 h=>?_) (λc6 h=>?_)
 ·exact aI 8 c6<|T_kt<|T_bz 1<|T_k<|aE<|aD<|aQ (s:=()) (():Unit) sk h
 exact aJ 8 (zZ c6)<|zj 0<|aB<|aB<|aM<|ie (fn:=f14) [] hQ (show dW _ _ _ [] _ from .nil) h
end bS
/-! (*moraine/trace.Trace).End -/
namespace cS
def K0:=Func.code f16
def K2:=cb K0
def K7:=ca K2
def K8:=cb K2
def K10:=cb K7
def K11:=ca K10
def K12:=ca K11
def K28:=ca K8
def K31:=cb K28
def K32:=ca K31
def K33:=ca K32
def K35:=cb K33
def K37:=cb K35
def K40:=ca K37
def K42:=ca K40
def K44:=cb K42
end cS
def cS.pt(tv:zW)(H:zV)(R:zk):Prop:=
 bE.C tv H (λv H1=> ∃x,v=.bool x/\
 if x=true then(
 R (.tuple #[]) H1)
 else
 ∃d,tv=some d/\
 ∃g:List Value,g.length=1024/\aP H1 (d.add 2) 0 g/\
 ∃(aa:zv) (m13:Int->zV->Nat),aa 0 H1/\ ∀e H2,aa e H2->
 if e<1024 then(
 ∃s,((0<=e/\e< (1024:Int))/\((g:List Value).toArray)[Int.toNat e]?=some (vi s))/\
 if s=1 then(
 ∃af,hat H2 d=some (vp af)/\
 ∃ag,af=some ag/\
 ∃ab,hat H2 ag=some (vp ab)/\
 ∃ae,ab=some ae/\
 ∃z,hat H2 ae=some (vp z)/\
 dQ.C z e H2 (λaj H3=> ∃ak,aj=vi ak/\
 (aa (zY (e+1)) H3/\m13 (zY (e+1)) H3<m13 e H2)))
 else
 (aa (zY (e+1)) H2/\m13 (zY (e+1)) H2<m13 e H2))
 else
 ∃xB xN xC,hat H2 (d.add 1028)=some (vs xB xN xC)/\
 ∃(ac:zv) (m34:Int->zV->Nat),ac 0 H2/\ ∀f H4,ac f H4->
 if f< (xN:Int)then(
 ∃j,xB=some j/\
 zw f xN/\
 ∃q m,aP H4 (j.add (Int.toNat f*2)) 0 [vi q,vi m]/\
 ∀b H5,b=H4.size->H5=H4.push (.cells #[vi 0,vi 0] 127)->
 (aN H5 (ad b) 0 2)/\ ∀H6,H6=aV H5 (ad b) [vi q,vi m] 0->
 ∃ai,hat H6 d=some (vp ai)/\
 ∃o,ai=some o/\
 ∃r,hat H6 o=some (vp r)/\
 ∃p,hat H6 (ad b)=some (vi p)/\
 ∃u,hat H6 ((ad b).add 1)=some (vi u)/\
 dS.C r p u H6 (λal H7=> ∃ah,al=vi ah/\
 (ac (zY (f+1)) H7/\m34 (zY (f+1)) H7<m34 f H4)))
 else
 ∃y,hat H4 d=some (vp y)/\
 fG.C y H4 (λ_ H8=>
 (aN H8 (d.add 1029) 0 1)/\ ∀H9,H9=aV H8 (d.add 1029) [vi 1] 0->
 R (.tuple #[]) H9))
namespace cS
theorem link(h:pt d H i):C d H i:=by
 refine T_en K0 61 func16 ?_
 intro w0 Q hQ
 unfold pt zY at h
 refine T_su [(0,vp d)]<|T_sz<|aA 0<|T_nd 1 [] [(6,vp d)]<|T_c (some 7) h ?_;clear h
 rintro v H1 ⟨x,rfl,h⟩
 refine T_pd [6] [(7,.bool x)]<|T_e ?_
 revert h;refine iO_ (λc1 h=>?_) (λc1 h=>?_)
 ·exact aI 7 c1<|ia [] [] hQ h
 refine aJ 7 (zZ c1)<|T_kt<|T_sz<|aA 1<|T_nd 1 [7] [(8,vp d)] ?_
 obtain⟨R,rfl,h⟩:=h
 refine T_n 2 [(0,vq R),(10,vq (R.add 2))] ?_
 obtain⟨g,l4,q3,h⟩:=h
 refine T_v1 11 (aR 103 (vq (R.add 2))) (.agg (g).toArray) (iE (eL (λ_=>by kernel_rfl) (λw=>by rw[l4];kernel_rfl) q3)) [10]<|T_ed 1 [] [(12,vi 0)]<|T_bz 0 ?_
 obtain⟨aa,m13,i5,i6⟩:=h
 refine bR (x:=K12) (σ:=Int) (λs_=> [(0,vq R),(11,.agg (g).toArray),(12,vi s_)]) (λs_ H=>aa s_ H) (λs_ H=>m13 s_ H) (0:Int) (by kernel_rfl) i5 sk ?_
 rintro e H2 i7
 have h:=i6 e H2 i7
 refine T_su [(0,vq R),(11,.agg (g).toArray),(12,vi e)]<|aA 2<|T_ed 1 [] [(13,.bool (decide (e<1024)))]<|T_sz ?_
 revert h;refine iO_ (λc8 h=>?_) (λc8 h=>?_)
 ·refine aI 13 (zX c8)<|T_kt<|T_sz<|T_bz 1<|aA 3<|T_nd 1 [13] [(14,vi e)] ?_
  obtain⟨s,q10,h⟩:=h
  refine T_v1 15 (mP 103 (.agg (g).toArray) (vi e)) (vi s) (λw _=>jY (P:=prog) (t:=103) (elem:=3) (n:=1024) underlying103 (λ_=>by kernel_rfl) (λ_=>by kernel_rfl) q10.1.1 q10.1.2 q10.2 w) []<|T_ed 2 [14,15] [(2,vi e),(3,vi s)]<|aA 4<|T_ed 2 [3] [(17,.bool (s==1))] ?_
  revert h;refine iO_ (λc11 h=>?_) (λc11 h=>?_)
  ·refine aI 17 (zK c11)<|T_rz 5<|T_nd 3 [17] [(20,vq R)] ?_
   obtain⟨af,q13,h⟩:=h
   refine T_l1 21 23 q13 [20] ?_
   obtain⟨ag,rfl,h⟩:=h
   refine T_nd 2 [21] [(23,vq ag)] ?_
   obtain⟨ab,q14,h⟩:=h
   refine T_l1 24 49 q14 [23] ?_
   obtain⟨ae,rfl,h⟩:=h
   refine T_nd 2 [24] [(26,vq ae)] ?_
   obtain⟨z,q15,h⟩:=h
   refine T_l1 27 52 q15 [26]<|T_nd 1 [2] [(28,vi e)]<|T_c (some 29) h ?_;clear h
   rintro aj H3 ⟨ak,rfl,h⟩
   exact T_pd [27,28] []<|zq<|aE<|aD<|T_rz 6<|T_ed 2 [12] [(12,vi (zY (e+1)))]<|aQ ((zY (e+1)):Int) sk h
  exact aJ 17 (zJ c11)<|T_k<|aE<|aD<|T_rz 6<|T_ed 2 [2,12,17] [(12,vi (zY (e+1)))]<|aQ ((zY (e+1)):Int) sk h
 refine aJ 13 (zQ c8)<|zj 0<|aB<|aB<|aM<|aD<|T_sz<|aA 7<|T_nd 3 [11,12,13] [(33,vq (R.add 1028))] ?_
 obtain⟨xB,xN,xC,q16,h⟩:=h
 refine T_l1 34 104 q16 [33]<|T_ed 2 [] [(35,vi xN),(36,vi 0)]<|T_bz 2 ?_
 obtain⟨ac,m34,i17,i18⟩:=h
 refine bR (x:=K33) (σ:=Int) (λs_=> [(0,vq R),(34,vs xB xN xC),(35,vi xN),(36,vi s_)]) (λs_ H=>ac s_ H) (λs_ H=>m34 s_ H) (0:Int) (by kernel_rfl) i17 sk ?_
 rintro f H4 i19
 have h:=i18 f H4 i19
 refine T_su [(0,vq R),(34,vs xB xN xC),(35,vi xN),(36,vi f)]<|aA 8<|T_ed 1 [] [(37,.bool (decide (f< (xN:Int))))]<|T_sz ?_
 revert h;refine iO_ (λc20 h=>?_) (λc20 h=>?_)
 ·refine aI 37 (zX c20)<|T_kt<|T_sz<|T_bz 3<|aA 9<|T_ud [37] [] ?_
  obtain⟨j,rfl,q22,h⟩:=h
  refine T_xd (some 38) 104 127 2 j xN xC .i64 f underlying104 q22.1 q22.2 [34] [(34,vs (some j) xN xC),(38,vq (j.add (Int.toNat f*2)))] ?_
  obtain⟨q,m,q23,h⟩:=h
  refine T_lr 39 127 q23 [38]<|T_nw (some 5) (λb=>vp (pa b)) (.cells #[vi 0,vi 0] 127) ?_
  intro b H5 e24 e25
  replace h:=h b H5 e24 e25
  refine T_pd [] [(5,vp (pa b))] ?_
  obtain⟨q27,h⟩:=h
  refine fL 127 [vi q,vi m] q27 ?_
  intro H6 e26
  replace h:=h H6 e26
  refine T_pd [39] []<|T_e ?_
  obtain⟨ai,q28,o,rfl,r,q29,p,q30,u,q31,h⟩:=h
  refine yY 10 (Code.ops K44) [(11,R,[vq o]),(11,o,[vp r]),(11,(ad b),[vi p]),(11,((ad b).add 1),[vi u])] 12 (bv 12 0) (show aH _ _ _ from⟨⟨q28,trivial⟩,⟨q29,trivial⟩,⟨q30,trivial⟩,⟨q31,trivial⟩,trivial⟩)<|T_gp 0 (some 40) (vq R) (bv 12 1) [(0,vq R),(5,vp (pa b)),(34,vs (some j) xN xC),(35,vi xN),(36,vi f),(40,vq R)]<|aF 1 41 (vq R) (bv 12 3) [40]<|aF 2 42 (vq R) (bv 12 7) [41]<|T_g1 3 43 (vq o) (bv 12 15) [42] (aR 23 (vq R)) (yW 11 yZ)<|aF 4 44 (vq o) (bv 12 31) [43]<|aF 5 45 (vq o) (bv 12 63) [44]<|T_g1 6 46 (vp r) (bv 12 127) [45] (aR 49 (vq o)) (yW 11 yX)<|aF 7 47 (vp (pa b)) (bv 12 255) []<|T_g1 8 48 (vi p) (bv 12 511) [47] (aR 3 (vp (pa b))) (yW 11 yQ)<|aF 9 49 (vq ((ad b).add 1)) (bv 12 1023) [5]<|T_g1 10 50 (vi u) (bv 12 2047) [49] (aR 3 (vq ((ad b).add 1))) (yW 11 yJ)<|yq 11 (some 51) (bv 12 4095) 64 #[vp r,vi p,vi u] h ?_;clear h
  rintro al H7 ⟨ah,rfl,h⟩
  refine⟨[(0,vq R),(34,vs (some j) xN xC),(35,vi xN),(36,vi f)],pk,(show aH _ _ _ from⟨trivial,trivial,trivial,trivial,trivial⟩),?_⟩
  refine fQ [(0,vq R),(34,vs (some j) xN xC),(35,vi xN),(36,vi f)] sk ?_
  exact yx<|aE<|aD<|T_rz 11<|T_ne 2 [(0,vq R),(34,vs (some j) xN xC),(35,vi xN),(36,vi (zY (f+1)))]<|aQ ((zY (f+1)):Int) sk h
 refine aJ 37 (zQ c20)<|zj 2<|aB<|aB<|aM<|aD<|aA 12<|T_n 3 [(0,vq R),(55,vq R)] ?_
 obtain⟨y,q32,h⟩:=h
 refine T_l1 56 23 q32 [55]<|T_c (some 57) h ?_;clear h
 intro v_4 H8 h
 refine T_pd [56] []<|T_e<|T_rz 13<|T_n 3 [(60,vq (R.add 1029))] ?_
 obtain⟨q34,h⟩:=h
 refine jf 3 (vi 1) q34 ?_
 intro H9 e33
 replace h:=h H9 e33
 refine⟨[],pk,?_⟩
 exact zq<|ie (fn:=f16) [] hQ (show dW _ _ _ [] _ from .nil) h
end cS
variable{H:zV}{d:zW}{i:zk}{j:Int}
/-! (*moraine/trace.Trace).Cards -/
namespace dD
def K0:=Func.code f27
def K2:=cb K0
def K8:=cb K2
def K9:=ca K8
def K10:=ca K9
def K12:=cb K10
def K14:=cb K12
def K17:=ca K14
def K19:=ca K17
def K21:=cb K19
def K22:=ca K21
end dD
def dD.pt(tv:zW)(H:zV)(R:zk):Prop:=
 bE.C tv H (λv H1=> ∃x,v=.bool x/\
 if x=true then(
 R (.tuple #[]) H1)
 else
 ∃d,tv=some d/\
 ∃xB xN xC,hat H1 (d.add 1028)=some (vs xB xN xC)/\
 ∃(a1:zv) (m11:Int->zV->Nat),a1 0 H1/\ ∀e H2,a1 e H2->
 if e< (xN:Int)then(
 ∃f,xB=some f/\
 zw e xN/\
 ∃av ao,aP H2 (f.add (Int.toNat e*2)) 0 [vi av,vi ao]/\
 ∀b H3,b=H2.size->H3=H2.push (.cells #[vi 0,vi 0] 127)->
 (aN H3 (ad b) 0 2)/\ ∀H4,H4=aV H3 (ad b) [vi av,vi ao] 0->
 ∃a4,hat H4 d=some (vp a4)/\
 ∃al,a4=some al/\
 ∃a6,hat H4 al=some (vp a6)/\
 ∃am,a6=some am/\
 ∃a5,hat H4 am=some (vp a5)/\
 ∃an,a5=some an/\
 ∃au,hat H4 an=some (vp au)/\
 ∃ax,hat H4 (ad b)=some (vi ax)/\
 (
 bB.C au ax H4 (λa7 H5=> ∃aa y ak q r o p rb,a7=.tuple #[.agg #[vi aa,vi y,vi ak,vi q,vi r,vi o,vi p],.bool rb]/\
 ∀ac H6,ac=H5.size->H6=H5.push (.cells #[vi 0,vi 0,vi 0,vi 0,vi 0,vi 0,vi 0] 108)->
 (aN H6 (ad ac) 0 7)/\ ∀H7,H7=aV H6 (ad ac) [vi aa,vi y,vi ak,vi q,vi r,vi o,vi p] 0->
 ∃ap,hat H7 (ad b)=some (vi ap)/\
 ∃aw,hat H7 ((ad b).add 1)=some (vi aw)/\
 ∃aq,hat H7 ((ad ac).add 2)=some (vi aq)/\
 ∃ai,hat H7 ((ad b).add 1)=some (vi ai)/\
 ∃a0,hat H7 ((ad ac).add 1)=some (vi a0)/\
 bP.C (some d) ap (zY (aw*16)) (if(zY ((zY (ai+1))*16))<aq then(zY ((zY (ai+1))*16))else aq) a0 H7 (λ_ H8=>
 (a1 (zY (e+1)) H8/\m11 (zY (e+1)) H8<m11 e H2))))/\(
 ∀z H9,z=H4.size->H9=H4.push (.cells #[vi 0,vi 0,vi 0,vi 0,vi 0,vi 0,vi 0] 108)->aP H9 d 0 [vq al]/\aP H9 al 0 [vq am]/\aP H9 am 0 [vq an]/\aP H9 an 0 [vp au]/\aP H9 (ad b) 0 [vi ax]/\
 bB.C au ax H9 (λa8 a2=> ∃u s ab m j g n ag,a8=.tuple #[.agg #[vi u,vi s,vi ab,vi m,vi j,vi g,vi n],.bool ag]/\
 (aN a2 (ad z) 0 7)/\ ∀ay,ay=aV a2 (ad z) [vi u,vi s,vi ab,vi m,vi j,vi g,vi n] 0->
 ∃ae,hat ay (ad b)=some (vi ae)/\
 ∃ah,hat ay ((ad b).add 1)=some (vi ah)/\
 ∃af,hat ay ((ad z).add 2)=some (vi af)/\
 ∃aj,hat ay ((ad b).add 1)=some (vi aj)/\
 ∃az,hat ay ((ad z).add 1)=some (vi az)/\
 bP.C (some d) ae (zY (ah*16)) (if(zY ((zY (aj+1))*16))<af then(zY ((zY (aj+1))*16))else af) az ay (λ_ a3=>
 (a1 (zY (e+1)) a3/\m11 (zY (e+1)) a3<m11 e H2)))))
 else
 R (.tuple #[]) H2)
namespace dD
theorem link(h:pt d H i):C d H i:=by
 refine T_en K0 53 func27 ?_
 intro w0 Q hQ
 unfold pt zY at h
 refine T_su [(0,vp d)]<|T_sz<|aA 0<|T_nd 1 [] [(6,vp d)]<|T_c (some 7) h ?_;clear h
 rintro v H1 ⟨x,rfl,h⟩
 refine T_pd [6] [(7,.bool x)]<|T_e ?_
 revert h;refine iO_ (λc1 h=>?_) (λc1 h=>?_)
 ·exact aI 7 c1<|ia [] [] hQ h
 refine aJ 7 (zZ c1)<|T_kt<|aA 1<|T_nd 1 [7] [(8,vp d)] ?_
 obtain⟨R,rfl,h⟩:=h
 refine T_n 2 [(0,vq R),(10,vq (R.add 1028))] ?_
 obtain⟨xB,xN,xC,q3,h⟩:=h
 refine T_l1 11 104 q3 [10]<|T_ed 2 [] [(12,vi xN),(13,vi 0)]<|T_bz 0 ?_
 obtain⟨a1,m11,i4,i5⟩:=h
 refine bR (x:=K10) (σ:=Int) (λs_=> [(0,vq R),(11,vs xB xN xC),(12,vi xN),(13,vi s_)]) (λs_ H=>a1 s_ H) (λs_ H=>m11 s_ H) (0:Int) (by kernel_rfl) i4 sk ?_
 rintro e H2 i6
 have h:=i5 e H2 i6
 refine T_su [(0,vq R),(11,vs xB xN xC),(12,vi xN),(13,vi e)]<|aA 2<|T_ed 1 [] [(14,.bool (decide (e< (xN:Int))))]<|T_sz ?_
 revert h;refine iO_ (λc7 h=>?_) (λc7 h=>?_)
 ·refine aI 14 (zX c7)<|T_kt<|T_sz<|T_bz 1<|aA 3<|T_ud [14] [] ?_
  obtain⟨f,rfl,q9,h⟩:=h
  refine T_xd (some 15) 104 127 2 f xN xC .i64 e underlying104 q9.1 q9.2 [11] [(11,vs (some f) xN xC),(15,vq (f.add (Int.toNat e*2)))] ?_
  obtain⟨av,ao,q10,h⟩:=h
  refine T_lr 16 127 q10 [15]<|T_nw (some 3) (λb=>vp (pa b)) (.cells #[vi 0,vi 0] 127) ?_
  intro b H3 e11 e12
  replace h:=h b H3 e11 e12
  refine T_pd [] [(3,vp (pa b))] ?_
  obtain⟨q14,h⟩:=h
  refine fL 127 [vi av,vi ao] q14 ?_
  intro H4 e13
  replace h:=h H4 e13
  refine T_pd [16] []<|T_e<|T_sz ?_
  obtain⟨a4,q15,al,rfl,a6,q16,am,rfl,a5,q17,an,rfl,au,q18,ax,q19,h⟩:=h
  refine yY 4 (Code.ops K22) [(15,R,[vq al]),(15,al,[vq am]),(15,am,[vq an]),(15,an,[vp au]),(15,(ad b),[vi ax])] 22 (bv 22 0) (show aH _ _ _ from⟨⟨q15,trivial⟩,⟨q16,trivial⟩,⟨q17,trivial⟩,⟨q18,trivial⟩,⟨q19,trivial⟩,trivial⟩)<|T_gp 0 (some 18) (vq R) (bv 22 1) [(0,vq R),(3,vp (pa b)),(11,vs (some f) xN xC),(12,vi xN),(13,vi e),(18,vq R)]<|aF 1 19 (vq R) (bv 22 3) [18]<|aF 2 20 (vq R) (bv 22 7) [19]<|T_g1 3 21 (vq al) (bv 22 15) [20] (aR 23 (vq R)) (yW 15 yZ)<|aF 4 22 (vq al) (bv 22 31) [21]<|aF 5 23 (vq al) (bv 22 63) [22]<|T_g1 6 24 (vq am) (bv 22 127) [23] (aR 49 (vq al)) (yW 15 yX)<|aF 7 25 (vq am) (bv 22 255) [24]<|aF 8 26 (vq am) (bv 22 511) [25]<|T_g1 9 27 (vq an) (bv 22 1023) [26] (aR 52 (vq am)) (yW 15 yQ)<|aF 10 28 (vq an) (bv 22 2047) [27]<|aF 11 29 (vq an) (bv 22 4095) [28]<|T_g1 12 30 (vp au) (bv 22 8191) [29] (aR 78 (vq an)) (yW 15 yJ)<|aF 13 31 (vp (pa b)) (bv 22 16383) []<|T_g1 14 32 (vi ax) (bv 22 32767) [31] (aR 3 (vp (pa b))) (yW 15 yK) ?_
  refine sn 15 19 (by kernel_rfl) ?fa1 ?fb1
  case' fa1=>
   replace h:=h.1
   refine so 15 (some 33) (bv 22 65535) 47 #[vp au,vi ax] (by kernel_rfl) (λ_=>by kernel_rfl) h (by kernel_rfl) ?_;clear h
   rintro a7 H5 ⟨aa,y,ak,q,r,o,p,rb,rfl,h⟩
   refine⟨[(0,vq R),(3,vp (pa b)),(11,vs (some f) xN xC),(12,vi xN),(13,vi e),(33,.tuple #[.agg #[vi aa,vi y,vi ak,vi q,vi r,vi o,vi p],.bool rb])],pk,(show aH _ _ _ from⟨trivial,trivial,trivial,trivial,trivial,trivial⟩),?_⟩
   refine T_g 16 (some 17) (.tuple #[.agg #[vi aa,vi y,vi ak,vi q,vi r,vi o,vi p],.bool rb]) (bv 22 131071) [(0,vq R),(3,vp (pa b)),(11,vs (some f) xN xC),(12,vi xN),(13,vi e),(17,.tuple #[.agg #[vi aa,vi y,vi ak,vi q,vi r,vi o,vi p],.bool rb])] (pure (.value (.tuple #[.agg #[vi aa,vi y,vi ak,vi q,vi r,vi o,vi p],.bool rb])):Sem Next) (λ_ _ _ _ _=>rfl)<|T_g1 17 34 (.agg #[vi aa,vi y,vi ak,vi q,vi r,vi o,vi p]) (bv 22 262143) [] (pure (.value (.agg #[vi aa,vi y,vi ak,vi q,vi r,vi o,vi p])):Sem Next) (λ_ _ _ _ _=>rfl)<|T_g1 18 35 (.bool rb) (bv 22 524287) [17] (pure (.value (.bool rb)):Sem Next) (λ_ _ _ _ _=>rfl)<|nT 19 (some 4) (bv 22 1048575) (λb=>vp (pa b)) (.cells #[vi 0,vi 0,vi 0,vi 0,vi 0,vi 0,vi 0] 108) (by kernel_rfl) (λ_=>by kernel_rfl) (by kernel_rfl) ?_
   intro ac H6 e20 e21
   replace h:=h ac H6 e20 e21
   refine⟨[(0,vq R),(3,vp (pa b)),(4,vp (pa ac)),(11,vs (some f) xN xC),(12,vi xN),(13,vi e),(34,.agg #[vi aa,vi y,vi ak,vi q,vi r,vi o,vi p]),(35,.bool rb)],pk,(show aH _ _ _ from⟨trivial,trivial,trivial,trivial,trivial,trivial⟩),?_⟩
  case' fb1=>
   replace h:=h.2
   refine ui 19 (some 4) (bv 22 557055) (λb=>vp (pa b)) (.cells #[vi 0,vi 0,vi 0,vi 0,vi 0,vi 0,vi 0] 108) (by kernel_rfl) (λ_=>by kernel_rfl) (by kernel_rfl) ?_
   intro ac H9 e34 e35
   replace h:=h ac H9 e34 e35
   obtain⟨f29,f30,f31,f32,f33,h⟩:=h
   refine⟨[(0,vq R),(3,vp (pa b)),(4,vp (pa ac)),(11,vs (some f) xN xC),(12,vi xN),(13,vi e),(30,vp au),(32,vi ax)],pk,(show aH _ _ _ from⟨f29,f30,f31,f32,f33,trivial⟩),?_⟩
   refine yq 15 (some 33) (bv 22 589823) 47 #[vp au,vi ax] h ?_;clear h
   rintro a8 H6 ⟨aa,y,ak,q,r,o,p,rb,rfl,h⟩
   refine⟨[(0,vq R),(3,vp (pa b)),(4,vp (pa ac)),(11,vs (some f) xN xC),(12,vi xN),(13,vi e),(33,.tuple #[.agg #[vi aa,vi y,vi ak,vi q,vi r,vi o,vi p],.bool rb])],pk,(show aH _ _ _ from⟨trivial,trivial,trivial,trivial,trivial,trivial⟩),?_⟩
   refine T_g 16 (some 17) (.tuple #[.agg #[vi aa,vi y,vi ak,vi q,vi r,vi o,vi p],.bool rb]) (bv 22 655359) [(0,vq R),(3,vp (pa b)),(4,vp (pa ac)),(11,vs (some f) xN xC),(12,vi xN),(13,vi e),(17,.tuple #[.agg #[vi aa,vi y,vi ak,vi q,vi r,vi o,vi p],.bool rb])] (pure (.value (.tuple #[.agg #[vi aa,vi y,vi ak,vi q,vi r,vi o,vi p],.bool rb])):Sem Next) (λ_ _ _ _ _=>rfl)<|T_g1 17 34 (.agg #[vi aa,vi y,vi ak,vi q,vi r,vi o,vi p]) (bv 22 786431) [] (pure (.value (.agg #[vi aa,vi y,vi ak,vi q,vi r,vi o,vi p])):Sem Next) (λ_ _ _ _ _=>rfl)<|T_g1 18 35 (.bool rb) (bv 22 1048575) [17] (pure (.value (.bool rb)):Sem Next) (λ_ _ _ _ _=>rfl) ?_
  all_goals
   obtain⟨q23,h⟩:=h
   refine gY 20 none (bv 22 2097151) (iR 108 (vp (pa ac)) (.agg #[vi aa,vi y,vi ak,vi q,vi r,vi o,vi p])) (λHz=>Hz=aV H6 (ad ac) [vi aa,vi y,vi ak,vi q,vi r,vi o,vi p] 0) (by kernel_rfl) (λ_=>by kernel_rfl) (iK [vi aa,vi y,vi ak,vi q,vi r,vi o,vi p] 7 (by kernel_rfl) (by kernel_rfl) (λ_=>by kernel_rfl) (by kernel_rfl) q23) (by kernel_rfl) ?_
   intro H7 e22
   replace h:=h H7 e22
   refine⟨[(0,vq R),(3,vp (pa b)),(4,vp (pa ac)),(11,vs (some f) xN xC),(12,vi xN),(13,vi e),(35,.bool rb)],pk,(show aH _ _ _ from⟨trivial,trivial,trivial,trivial,trivial,trivial⟩),?_⟩
   refine T_g 21 (some 5) (.bool rb) (bv 22 4194303) [(0,vq R),(3,vp (pa b)),(4,vp (pa ac)),(11,vs (some f) xN xC),(12,vi xN),(13,vi e)] (pure (.value (.bool rb)):Sem Next) (λ_ _ _ _ _=>rfl)<|fQ [(0,vq R),(3,vp (pa b)),(4,vp (pa ac)),(11,vs (some f) xN xC),(12,vi xN),(13,vi e)] sk<|yx<|aD<|T_rz 5<|T_n 2 [(0,vq R),(3,vp (pa b)),(4,vp (pa ac)),(11,vs (some f) xN xC),(12,vi xN),(13,vi e),(36,vq R),(37,vp (pa b))] ?_
   obtain⟨ap,q24,h⟩:=h
   refine T_l1 38 3 q24 [37]<|T_nd 1 [] [(39,vq ((ad b).add 1))] ?_
   obtain⟨aw,q25,h⟩:=h
   refine T_l1 40 3 q25 [39]<|T_nd 2 [40] [(41,vi (zY (aw*16))),(42,vq ((ad ac).add 2))] ?_
   obtain⟨aq,q26,h⟩:=h
   refine T_l1 43 3 q26 [42]<|T_nd 1 [3] [(44,vq ((ad b).add 1))] ?_
   obtain⟨ai,q27,h⟩:=h
   refine T_l1 45 3 q27 [44]<|T_nd 4 [4,43,45] [(48,vi (if(zY ((zY (ai+1))*16))<aq then(zY ((zY (ai+1))*16))else aq)),(49,vq ((ad ac).add 1))] ?_
   obtain⟨a0,q28,h⟩:=h
   refine T_l1 50 3 q28 [49]<|T_c (some 51) h ?_;clear h
   intro v_3 H8 h
   exact T_pd [36,38,41,48,50] []<|zq<|aE<|aD<|T_rz 6<|T_ed 2 [13] [(13,vi (zY (e+1)))]<|aQ ((zY (e+1)):Int) sk h
 exact aJ 14 (zQ c7)<|zj 0<|aB<|aB<|aM<|ie (fn:=f27) [] hQ (show dW _ _ _ [] _ from .nil) h
end dD
/-! (*moraine/trace.Trace).Reached -/
namespace aU
def K0:=Func.code f28
end aU
def aU.pt(tv:zW)(wv:Int)(H:zV)(R:zk):Prop:=
 aZ.C tv wv H (λv H1=> ∃x,v=.bool x/\
 if x=true then(
 cL.C tv wv H1 (λa H2=> ∃ra rb,a=.tuple #[vu ra,.bool rb]/\
 R (.bool rb) H2))
 else
 R vT H1)
namespace aU
theorem link(h:pt d j H i):C d j H i:=by
 refine T_en K0 18 func28 ?_
 intro w0 Q hQ
 unfold pt at h
 refine T_su [(0,vp d),(1,vu j)]<|aA 0<|T_ed 1 [] []<|T_sz<|aA 1<|T_nd 2 [] [(7,vp d),(8,vu j)]<|T_c (some 9) h ?_;clear h
 rintro v H1 ⟨x,rfl,h⟩
 refine T_pd [7,8] [(9,.bool x)]<|T_ed 1 [9] [(10,.bool (!x))] ?_
 revert h;refine iO_ (λc1 h=>?_) (λc1 h=>?_)
 ·refine aJ 10 (congrArg Bool.not (c1))<|T_kt<|aA 3<|T_n 2 [(12,vp d),(13,vu j)]<|T_c (some 14) h ?_;clear h
  rintro a H2 ⟨ra,rb,rfl,h⟩
  refine⟨[(14,.tuple #[vu ra,.bool rb])],pk,?_⟩
  exact T_ne 5 [(6,.bool rb)]<|aA 4<|T_nr 2 [4] [.bool rb] hQ h
 exact aI 10 (congrArg Bool.not (zZ c1))<|aA 2<|T_nr 1 [4] [vT] hQ h
end aU
/-! (*moraine/trace.Trace).Old -/
namespace aZ
def K0:=Func.code Tryz.f29
end aZ
def aZ.pt(tv:zW)(wv:Int)(H:zV)(R:zk):Prop:=
 fS.C wv H (λv H1=> ∃ra rb,v=.tuple #[vi ra,.bool rb]/\
 bE.C tv H1 (λf H2=> ∃x,f=.bool x/\
 if x=true then(
 R vF H2)
 else
 if rb=true then(
 fM.C wv H2 (λg H3=> ∃d,g=vi d/\
 if d=6 then(
 R vF H3)
 else
 ∃b,tv=some b/\
 ((0:Int)<=(zY (Int.tdiv ra 64))/\(zY (Int.tdiv ra 64))< (1024:Int))/\
 ∃e,hat H3 ((b.add 2).add (Int.toNat (zY (Int.tdiv ra 64))*1))=some (vi e)/\
 R (.bool (e==1)) H3))
 else
 R vF H2))
namespace aZ
theorem link(h:pt d j H i):C d j H i:=by
 refine T_en K0 33 func29 ?_
 intro w0 Q hQ
 unfold pt zY at h
 refine T_su [(0,vp d),(1,vu j)]<|aA 0<|T_ed 1 [] []<|aA 1<|T_nd 1 [] [(8,vu j)]<|T_c (some 9) h ?_;clear h
 rintro v H1 ⟨ra,rb,rfl,h⟩
 refine T_pd [8] [(9,.tuple #[vi ra,.bool rb])]<|T_ed 5 [9] [(5,vi ra),(6,.bool rb)]<|aA 2<|T_nd 1 [] [(12,vp d)]<|T_c (some 13) h ?_;clear h
 rintro f H2 ⟨x,rfl,h⟩
 refine T_pd [12] [(13,.bool x)]<|T_nd 2 [13] [(15,.bool (!x))] ?_
 revert h;refine iO_ (λc1 h=>?_) (λc1 h=>?_)
 ·have b2:(!x)=false:=congrArg Bool.not (c1)
  have b22:x=true:=c1
  refine N_bd 15 (b:=(!x)) (v:=false) (by simp only[b2,b22,Bool.not_true,Bool.not_false]) ?_
  clear b2 b22
  exact T_nr 18 [4] [vF] hQ h
 have b2:(!x)=true:=congrArg Bool.not (zZ c1)
 have b22:x=false:=zZ c1
 refine N_bd 15 (b:=(!x)) (v:=true) (by simp only[b2,b22,Bool.not_true,Bool.not_false]) ?_
 clear b2 b22
 refine T_nd 3 [6,15] [(18,.bool rb)] ?_
 revert h;refine iO_ (λc3 h=>?_) (λc3 h=>?_)
 ·refine N_bd 18 c3<|T_nd 1 [1] [(19,vu j)] ?_
  refine T_c (some 20) h ?_;clear h
  rintro g H3 ⟨R,rfl,h⟩
  refine T_pd [19] [(20,vi R)]<|T_nd 3 [18,20] [(23,.bool (R !=6))] ?_
  revert h;refine iO_ (λc5 h=>?_) (λc5 h=>?_)
  ·exact N_bd 23 (bne_eq_false_iff_eq.mpr c5)<|T_nr 10 [4] [vF] hQ h
  refine N_bd 23 (bne_iff_ne.mpr c5)<|T_nd 3 [0,5] [(24,vp d),(26,vi (zY (Int.tdiv ra 64)))] ?_
  obtain⟨b,rfl,h⟩:=h
  refine T_nd 2 [24] [(28,vq (b.add 2))] ?_
  obtain⟨q7,h⟩:=h
  refine T_v1 29 (bA 103 (vq (b.add 2)) (vi (zY (Int.tdiv ra 64)))) (vp (some ((b.add 2).add (Int.toNat (zY (Int.tdiv ra 64))*1)))) (λw _=>bK (P:=prog) (t:=103) (elem:=3) (sz:=1) (n:=1024) (a:=(b.add 2)) (k:=.i64) (i:=(zY (Int.tdiv ra 64))) underlying103 (λ_=>by kernel_rfl) q7.1 q7.2 w) [26,28] ?_
  obtain⟨e,q8,h⟩:=h
  exact T_l1 30 3 q8 [29]<|T_nr 3 [4] [.bool (e==1)] hQ h
 exact N_bd 18 (zZ c3)<|T_nr 15 [4] [vF] hQ h
end aZ
/-! (*moraine/trace.Trace).Weaks -/
namespace cK
def K0:=Func.code Tryz.f32
def K2:=cb K0
def K4:=cb K2
def K12:=cb K4
def K14:=cb K12
def K15:=ca K14
def K16:=cb K14
def K17:=ca K15
def K18:=cb K15
def K19:=ca K18
def K20:=ca K19
def K22:=cb K20
def K24:=cb K22
def K27:=ca K24
def K29:=ca K27
def K31:=cb K29
def K33:=cb K31
def K35:=cb K33
def K36:=ca K35
def K38:=ca K16
def K41:=cb K38
def K42:=ca K41
def K43:=ca K42
def K45:=cb K43
def K47:=cb K45
def K50:=ca K47
def K52:=ca K50
def K54:=cb K52
def K55:=ca K54
end cK
def cK.pt(tv:zW)(H:zV)(R:zk):Prop:=
 bE.C tv H (λv H1=> ∃x,v=.bool x/\
 if x=true then(
 R vN H1)
 else
 ∀b H2,b=H1.size->H2=H1.push (.cells #[vN] 75)->
 ∃e,tv=some e/\
 ∃cn,hat H2 e=some (vp cn)/\
 ∃ba,cn=some ba/\
 ∃co,hat H2 ba=some (vp co)/\
 ∃a8,co=some a8/\
 ∃ck,hat H2 a8=some (vp ck)/\
 ∃a9,ck=some a9/\
 ∃bg,hat H2 a9=some (vp bg)/\
 ∃b1,hat H2 (e.add 1)=some (vi b1)/\
 ∀b7 H3,b7=H2.size->H3=H2.push (.cells #[vi b1] 3)->aP H3 e 0 [vq ba]/\aP H3 ba 0 [vq a8]/\aP H3 a8 0 [vq a9]/\aP H3 a9 0 [vp bg]/\
 cW.C bg (some (ad b7)) 1 1 H3 (λcs H4=> ∃xB xN xC,cs=vs xB xN xC/\
 ∃(b5:zv) (m21:Int->zV->Nat),b5 0 H4/\ ∀o H5,b5 o H5->
 if o< (xN:Int)then(
 ∃af,xB=some af/\
 zw o xN/\
 ∃p,hat H5 (af.add (Int.toNat o*1))=some (vi p)/\
 ∃b8,hat H5 e=some (vp b8)/\
 ∃b9,b8=some b9/\
 ∃cc,hat H5 b9=some (vp cc)/\
 ∃cd,cc=some cd/\
 ∃b6,hat H5 cd=some (vp b6)/\
 ∃b4,b6=some b4/\
 ∃bu,hat H5 b4=some (vp bu)/\
 bB.C bu p H5 (λcr H6=> ∃bc a0 bz am ap an ao rb,cr=.tuple #[.agg #[vi bc,vi a0,vi bz,vi am,vi ap,vi an,vi ao],.bool rb]/\
 ∀ai H7,ai=H6.size->H7=H6.push (.cells #[vi 0,vi 0,vi 0,vi 0,vi 0,vi 0,vi 0] 108)->
 (aN H7 (ad ai) 0 7)/\ ∀H8,H8=aV H7 (ad ai) [vi bc,vi a0,vi bz,vi am,vi ap,vi an,vi ao] 0->
 ∃bj,hat H8 ((ad ai).add 1)=some (vi bj)/\
 if bj=1 then(
 zw p 1024/\
 ∃bp,hat H8 ((e.add 2).add (Int.toNat p*1))=some (vi bp)/\
 if bp=0 then(
 ∃bn,hat H8 (e.add 1026)=some (.map bn)/\
 ∃bm,hat H8 ((ad ai).add 2)=some (vi bm)/\
 ∃mr,bn=some mr/\
 ∃es cl ks,H8[mr]?=some (.map es cl)/\Ents (dX .i64) es.toList ks/\
 ∃b0,(mget ks p).getD (vi 0)=vi b0/\
 aP H8 ((ad ai).add 2) 0 [vi bm]/\bF.C p b0 bm (some (ad b)) H8 (λ_ H9=>
 (b5 (zY (o+1)) H9/\m21 (zY (o+1)) H9<m21 o H5)))
 else
 (b5 (zY (o+1)) H8/\m21 (zY (o+1)) H8<m21 o H5))
 else
 (b5 (zY (o+1)) H8/\m21 (zY (o+1)) H8<m21 o H5)))
 else
 ∃a7 d f,hat H5 (e.add 1028)=some (vs a7 d f)/\
 ∃(b3:zv) (m44:Int->zV->Nat),b3 0 H5/\ ∀g H10,b3 g H10->
 if g< (d:Int)then(
 ∃j,a7=some j/\
 zw g d/\
 ∃bo bb,aP H10 (j.add (Int.toNat g*2)) 0 [vi bo,vi bb]/\
 ∀m H11,m=H10.size->H11=H10.push (.cells #[vi 0,vi 0] 127)->
 (aN H11 (ad m) 0 2)/\ ∀bq,bq=aV H11 (ad m) [vi bo,vi bb] 0->
 ∃ch,hat bq e=some (vp ch)/\
 ∃ay,ch=some ay/\
 ∃ce,hat bq ay=some (vp ce)/\
 ∃ax,ce=some ax/\
 ∃cg,hat bq ax=some (vp cg)/\
 ∃aw,cg=some aw/\
 ∃a2,hat bq aw=some (vp a2)/\
 ∃bf,hat bq (ad m)=some (vi bf)/\
 (
 bB.C a2 bf bq (λct cm=> ∃aj ag aq y s q r az,ct=.tuple #[.agg #[vi aj,vi ag,vi aq,vi y,vi s,vi q,vi r],.bool az]/\
 ∀au H14,au=cm.size->H14=cm.push (.cells #[vi 0,vi 0,vi 0,vi 0,vi 0,vi 0,vi 0] 108)->
 (aN H14 (ad au) 0 7)/\ ∀bs,bs=aV H14 (ad au) [vi aj,vi ag,vi aq,vi y,vi s,vi q,vi r] 0->
 ∃bk,hat bs ((ad au).add 1)=some (vi bk)/\
 if bk=1 then(
 ∃a1,hat bs (ad m)=some (vi a1)/\
 ∃be,hat bs ((ad m).add 1)=some (vi be)/\
 ∃a6,hat bs ((ad au).add 2)=some (vi a6)/\
 ∃bh,hat bs ((ad m).add 1)=some (vi bh)/\
 bF.C a1 (zY (be*16)) (if(zY ((zY (bh+1))*16))<a6 then(zY ((zY (bh+1))*16))else a6) (some (ad b)) bs (λ_ cj=>
 (b3 (zY (g+1)) cj/\m44 (zY (g+1)) cj<m44 g H10)))
 else
 (b3 (zY (g+1)) bs/\m44 (zY (g+1)) bs<m44 g H10)))/\(
 ∀al H17,al=bq.size->H17=bq.push (.cells #[vi 0,vi 0,vi 0,vi 0,vi 0,vi 0,vi 0] 108)->aP H17 e 0 [vq ay]/\aP H17 ay 0 [vq ax]/\aP H17 ax 0 [vq aw]/\aP H17 aw 0 [vp a2]/\aP H17 (ad m) 0 [vi bf]/\
 bB.C a2 bf H17 (λcq ci=> ∃ak ah av aa ae ab ac a3,cq=.tuple #[.agg #[vi ak,vi ah,vi av,vi aa,vi ae,vi ab,vi ac],.bool a3]/\
 (aN ci (ad al) 0 7)/\ ∀br,br=aV ci (ad al) [vi ak,vi ah,vi av,vi aa,vi ae,vi ab,vi ac] 0->
 ∃bl,hat br ((ad al).add 1)=some (vi bl)/\
 if bl=1 then(
 ∃a4,hat br (ad m)=some (vi a4)/\
 ∃bd,hat br ((ad m).add 1)=some (vi bd)/\
 ∃a5,hat br ((ad al).add 2)=some (vi a5)/\
 ∃bi,hat br ((ad m).add 1)=some (vi bi)/\
 bF.C a4 (zY (bd*16)) (if(zY ((zY (bi+1))*16))<a5 then(zY ((zY (bi+1))*16))else a5) (some (ad b)) br (λ_ cp=>
 (b3 (zY (g+1)) cp/\m44 (zY (g+1)) cp<m44 g H10)))
 else
 (b3 (zY (g+1)) br/\m44 (zY (g+1)) br<m44 g H10))))
 else
 ∃bx bt bw,hat H10 (ad b)=some (vs bx bt bw)/\
 R (vs bx bt bw) H10))
namespace cK
theorem link(h:pt d H i):C d H i:=by
 refine T_en K0 129 func32 ?_
 intro w0 Q hQ
 unfold pt zY at h
 refine T_su [(0,vp d)]<|aA 0<|T_ed 1 [] []<|T_sz<|aA 1<|T_nd 1 [] [(13,vp d)]<|T_c (some 14) h ?_;clear h
 rintro v H1 ⟨x,rfl,h⟩
 refine T_pd [13] [(14,.bool x)]<|T_e ?_
 revert h;refine iO_ (λc1 h=>?_) (λc1 h=>?_)
 ·exact aI 14 c1<|aA 2<|T_nr 1 [2] [vN] hQ h
 refine aJ 14 (zZ c1)<|T_kt<|aA 3<|T_ud [14] []<|T_nw (some 3) (λb=>vp (pa b)) (.cells #[vN] 75) ?_
 intro b H2 e3 e4
 replace h:=h b H2 e3 e4
 refine T_pd [] [(3,vp (pa b))]<|T_e<|aA 4<|T_ed 2 [] [(4,.func (.func 74) #[] #[vp (pa b)])]<|T_sz<|T_sz ?_
 obtain⟨e,rfl,cn,q5,ba,rfl,co,q6,a8,rfl,ck,q7,a9,rfl,bg,q8,b1,q9,h⟩:=h
 refine yY 5 (Code.ops K17) [(18,e,[vq ba]),(18,ba,[vq a8]),(18,a8,[vq a9]),(18,a9,[vp bg]),(17,(e.add 1),[vi b1])] 21 (bv 21 0) (show aH _ _ _ from⟨⟨q5,trivial⟩,⟨q6,trivial⟩,⟨q7,trivial⟩,⟨q8,trivial⟩,⟨q9,trivial⟩,trivial⟩)<|T_gp 0 (some 16) (vq e) (bv 21 1) [(0,vq e),(3,vp (pa b)),(4,.func (.func 74) #[] #[vp (pa b)]),(16,vq e)]<|aF 1 17 (vq e) (bv 21 3) [16]<|aF 2 18 (vq e) (bv 21 7) [17]<|T_g1 3 19 (vq ba) (bv 21 15) [18] (aR 23 (vq e)) (yW 18 yZ)<|aF 4 20 (vq ba) (bv 21 31) [19]<|aF 5 21 (vq ba) (bv 21 63) [20]<|T_g1 6 22 (vq a8) (bv 21 127) [21] (aR 49 (vq ba)) (yW 18 yX)<|aF 7 23 (vq a8) (bv 21 255) [22]<|aF 8 24 (vq a8) (bv 21 511) [23]<|T_g1 9 25 (vq a9) (bv 21 1023) [24] (aR 52 (vq a8)) (yW 18 yQ)<|aF 10 26 (vq a9) (bv 21 2047) [25]<|aF 11 27 (vq a9) (bv 21 4095) [26]<|T_g1 12 28 (vp bg) (bv 21 8191) [27] (aR 78 (vq a9)) (yW 18 yJ)<|aF 13 29 (vq e) (bv 21 16383) []<|aF 14 30 (vq e) (bv 21 32767) [29]<|aF 15 31 (vq (e.add 1)) (bv 21 65535) [30]<|T_g1 16 32 (vi b1) (bv 21 131071) [31] (aR 3 (vq (e.add 1))) (yW 17 yK)<|aF 20 36 (vi 0) (bv 21 1179647) []<|nT 17 (some 33) (bv 21 1310719) (λb=>vs (pa b) 1 1) (.cells #[vi b1] 3) (by kernel_rfl) (λ_=>by kernel_rfl) (by kernel_rfl) ?_
 intro b7 H3 e14 e15
 replace h:=h b7 H3 e14 e15
 obtain⟨f10,f11,f12,f13,h⟩:=h
 refine⟨[(0,vq e),(3,vp (pa b)),(4,.func (.func 74) #[] #[vp (pa b)]),(28,vp bg),(33,vs (pa b7) 1 1),(36,vi 0)],pk,(show aH _ _ _ from⟨f10,f11,f12,f13,trivial,trivial⟩),?_⟩
 refine yq 18 (some 34) (bv 21 1572863) 45 #[vp bg,vs (pa b7) 1 1] h ?_;clear h
 rintro cs H4 ⟨xB,xN,xC,rfl,h⟩
 refine⟨[(0,vq e),(3,vp (pa b)),(4,.func (.func 74) #[] #[vp (pa b)]),(34,vs xB xN xC),(36,vi 0)],pk,(show aH _ _ _ from⟨trivial,trivial,trivial,trivial,trivial,trivial⟩),?_⟩
 refine T_g 19 (some 35) (vi xN) (bv 21 2097151) [(0,vq e),(3,vp (pa b)),(4,.func (.func 74) #[] #[vp (pa b)]),(34,vs xB xN xC),(35,vi xN),(36,vi 0)] (pure (.value (vi xN)):Sem Next) (λ_ _ _ _ _=>rfl)<|fQ [(0,vq e),(3,vp (pa b)),(4,.func (.func 74) #[] #[vp (pa b)]),(34,vs xB xN xC),(35,vi xN),(36,vi 0)] sk<|yx<|aD<|T_bz 0 ?_
 obtain⟨b5,m21,i16,i17⟩:=h
 refine bR (x:=K20) (σ:=Int) (λs_=> [(0,vq e),(3,vp (pa b)),(4,.func (.func 74) #[] #[vp (pa b)]),(34,vs xB xN xC),(35,vi xN),(36,vi s_)]) (λs_ H=>b5 s_ H) (λs_ H=>m21 s_ H) (0:Int) (by kernel_rfl) i16 sk ?_
 rintro o H5 i18
 have h:=i17 o H5 i18
 refine T_su [(0,vq e),(3,vp (pa b)),(4,.func (.func 74) #[] #[vp (pa b)]),(34,vs xB xN xC),(35,vi xN),(36,vi o)]<|aA 6<|T_ed 1 [] [(37,.bool (decide (o< (xN:Int))))]<|T_sz ?_
 revert h;refine iO_ (λc19 h=>?_) (λc19 h=>?_)
 ·refine aI 37 (zX c19)<|T_kt<|T_sz<|T_bz 1<|aA 7<|T_ud [37] [] ?_
  obtain⟨af,rfl,q21,h⟩:=h
  refine T_xd (some 38) 75 3 1 af xN xC .i64 o underlying75 q21.1 q21.2 [34] [(34,vs (some af) xN xC),(38,vq (af.add (Int.toNat o*1)))] ?_
  obtain⟨p,q22,h⟩:=h
  refine T_l1 39 3 q22 [38]<|T_ed 1 [39] [(6,vi p)]<|aA 8<|T_nd 3 [] [(43,vq e)] ?_
  obtain⟨b8,q23,h⟩:=h
  refine T_l1 44 23 q23 [43] ?_
  obtain⟨b9,rfl,h⟩:=h
  refine T_nd 2 [44] [(46,vq b9)] ?_
  obtain⟨cc,q24,h⟩:=h
  refine T_l1 47 49 q24 [46] ?_
  obtain⟨cd,rfl,h⟩:=h
  refine T_nd 2 [47] [(49,vq cd)] ?_
  obtain⟨b6,q25,h⟩:=h
  refine T_l1 50 52 q25 [49] ?_
  obtain⟨b4,rfl,h⟩:=h
  refine T_nd 2 [50] [(52,vq b4)] ?_
  obtain⟨bu,q26,h⟩:=h
  refine T_l1 53 78 q26 [52]<|T_nd 1 [] [(54,vi p)]<|T_c (some 55) h ?_;clear h
  rintro cr H6 ⟨bc,a0,bz,am,ap,an,ao,rb,rfl,h⟩
  refine T_pd [53,54] [(55,.tuple #[.agg #[vi bc,vi a0,vi bz,vi am,vi ap,vi an,vi ao],.bool rb])]<|T_nd 3 [55] [(56,.agg #[vi bc,vi a0,vi bz,vi am,vi ap,vi an,vi ao]),(57,.bool rb)]<|T_nw (some 7) (λb=>vp (pa b)) (.cells #[vi 0,vi 0,vi 0,vi 0,vi 0,vi 0,vi 0] 108) ?_
  intro ai H7 e27 e28
  replace h:=h ai H7 e27 e28
  refine T_pd [] [(7,vp (pa ai))] ?_
  obtain⟨q30,h⟩:=h
  refine fL 108 [vi bc,vi a0,vi bz,vi am,vi ap,vi an,vi ao] q30 ?_
  intro H8 e29
  replace h:=h H8 e29
  refine T_pd [56] []<|T_ed 1 [57] []<|aA 9<|T_nd 1 [] [(58,vq ((ad ai).add 1))] ?_
  obtain⟨bj,q31,h⟩:=h
  refine T_l1 59 3 q31 [58]<|T_nd 2 [59] [(61,.bool (bj==1))] ?_
  revert h;refine iO_ (λc32 h=>?_) (λc32 h=>?_)
  ·refine N_bd 61 (zK c32)<|T_nd 4 [] [(63,vi p),(65,vq (e.add 2))] ?_
   obtain⟨q34,h⟩:=h
   refine T_v1 66 (bA 103 (vq (e.add 2)) (vi p)) (vq ((e.add 2).add (Int.toNat p*1))) (λw _=>bK (P:=prog) (t:=103) (elem:=3) (sz:=1) (n:=1024) (a:=(e.add 2)) (k:=.i64) (i:=p) underlying103 (λ_=>by kernel_rfl) q34.1 q34.2 w) [63,65] ?_
   obtain⟨bp,q35,h⟩:=h
   refine T_l1 67 3 q35 [66]<|T_ed 2 [61,67] [(69,.bool (bp==0))] ?_
   revert h;refine iO_ (λc36 h=>?_) (λc36 h=>?_)
   ·refine aI 69 (zK c36) ?_
    obtain⟨bn,q38,bm,q39,h⟩:=h
    refine yY 10 (Code.ops K36) [(7,(e.add 1026),[.map bn]),(10,((ad ai).add 2),[vi bm])] 11 (bv 11 0) (show aH _ _ _ from⟨⟨q38,trivial⟩,⟨q39,trivial⟩,trivial⟩)<|T_gp 0 (some 70) (.func (.func 74) #[] #[vp (pa b)]) (bv 11 1) [(0,vq e),(3,vp (pa b)),(4,.func (.func 74) #[] #[vp (pa b)]),(6,vi p),(7,vp (pa ai)),(34,vs (some af) xN xC),(35,vi xN),(36,vi o),(70,.func (.func 74) #[] #[vp (pa b)])]<|aF 1 71 (vi p) (bv 11 3) []<|aF 2 72 (vq e) (bv 11 7) []<|aF 3 73 (vq e) (bv 11 15) [72]<|aF 4 74 (vq (e.add 1026)) (bv 11 31) [73]<|T_g1 5 75 (.map bn) (bv 11 63) [74] (aR 102 (vq (e.add 1026))) (yW 7 yZ)<|aF 6 76 (vi p) (bv 11 127) [6]<|aF 8 78 (vq ((ad ai).add 2)) (bv 11 383) [7]<|T_g1 9 79 (vi bm) (bv 11 895) [78] (aR 3 (vq ((ad ai).add 2))) (yW 10 yX) ?_
    obtain⟨mr,rfl,es,cl,ks,q41,q42,b0,e44,h⟩:=h
    refine mS 7 (some 77) (bv 11 1023) (lu 102 (.map (some mr)) (vi p) false) (λu H1=>u=vi b0/\H1=H8) (by kernel_rfl) (λ_=>by kernel_rfl) (λw hw=>⟨_,w,(kU (kk:=(dX .i64)) (z:=vi 0) underlying102 underlying3 (λ_=>by kernel_rfl) (by rw[hw];exact q41) q42 false),Same.refl w,by simp only[Bool.false_eq_true,if_false,e44],hw⟩) (by kernel_rfl) ?_
    rintro _ _ ⟨rfl,rfl⟩
    obtain⟨f40,h⟩:=h
    refine⟨[(0,vq e),(3,vp (pa b)),(4,.func (.func 74) #[] #[vp (pa b)]),(34,vs (some af) xN xC),(35,vi xN),(36,vi o),(70,.func (.func 74) #[] #[vp (pa b)]),(71,vi p),(77,vi b0),(79,vi bm)],pk,(show aH _ _ _ from⟨trivial,f40,trivial⟩),?_⟩
    refine yq 10 (some 80) (bv 11 2047) 74 #[vi p,vi b0,vi bm,vp (pa b)] h ?_;clear h
    intro v_4 H9 h
    refine⟨[(0,vq e),(3,vp (pa b)),(4,.func (.func 74) #[] #[vp (pa b)]),(34,vs (some af) xN xC),(35,vi xN),(36,vi o)],pk,(show aH _ _ _ from⟨trivial,trivial,trivial⟩),?_⟩
    refine fQ [(0,vq e),(3,vp (pa b)),(4,.func (.func 74) #[] #[vp (pa b)]),(34,vs (some af) xN xC),(35,vi xN),(36,vi o)] sk ?_
    exact yx<|aE<|aD<|T_rz 11<|T_ne 2 [(0,vq e),(3,vp (pa b)),(4,.func (.func 74) #[] #[vp (pa b)]),(34,vs (some af) xN xC),(35,vi xN),(36,vi (zY (o+1)))]<|aQ ((zY (o+1)):Int) sk h
   exact aJ 69 (zJ c36)<|T_k<|aE<|aD<|T_rz 11<|T_ed 2 [6,7,36,69] [(36,vi (zY (o+1)))]<|aQ ((zY (o+1)):Int) sk h
  refine N_bd 61 (zJ c32)<|T_ed 8 [61] [(69,vF)]<|T_fz 69<|T_k ?_
  exact aE<|aD<|T_rz 11<|T_ed 2 [6,7,36,69] [(36,vi (zY (o+1)))]<|aQ ((zY (o+1)):Int) sk h
 refine aJ 37 (zQ c19)<|zj 0<|aB<|aB<|aM<|aD<|T_sz<|aA 12<|T_nd 3 [34,35,36,37] [(84,vq (e.add 1028))] ?_
 obtain⟨a7,R,f,q45,h⟩:=h
 refine T_l1 85 104 q45 [84]<|T_ed 2 [] [(86,vi R),(87,vi 0)]<|T_bz 2 ?_
 obtain⟨b3,m44,i46,i47⟩:=h
 refine bR (x:=K43) (σ:=Int) (λs_=> [(0,vq e),(3,vp (pa b)),(4,.func (.func 74) #[] #[vp (pa b)]),(85,vs a7 R f),(86,vi R),(87,vi s_)]) (λs_ H=>b3 s_ H) (λs_ H=>m44 s_ H) (0:Int) (by kernel_rfl) i46 sk ?_
 rintro g H10 i48
 have h:=i47 g H10 i48
 refine T_su [(0,vq e),(3,vp (pa b)),(4,.func (.func 74) #[] #[vp (pa b)]),(85,vs a7 R f),(86,vi R),(87,vi g)]<|aA 13<|T_ed 1 [] [(88,.bool (decide (g< (R:Int))))]<|T_sz ?_
 revert h;refine iO_ (λc49 h=>?_) (λc49 h=>?_)
 ·refine aI 88 (zX c49)<|T_kt<|T_sz<|T_bz 3<|aA 14<|T_ud [88] [] ?_
  obtain⟨j,rfl,q51,h⟩:=h
  refine T_xd (some 89) 104 127 2 j R f .i64 g underlying104 q51.1 q51.2 [85] [(85,vs (some j) R f),(89,vq (j.add (Int.toNat g*2)))] ?_
  obtain⟨bo,bb,q52,h⟩:=h
  refine T_lr 90 127 q52 [89]<|T_nw (some 10) (λb=>vp (pa b)) (.cells #[vi 0,vi 0] 127) ?_
  intro m H11 e53 e54
  replace h:=h m H11 e53 e54
  refine T_pd [] [(10,vp (pa m))] ?_
  obtain⟨q56,h⟩:=h
  refine fL 127 [vi bo,vi bb] q56 ?_
  intro bq e55
  replace h:=h bq e55
  refine T_pd [90] []<|T_e<|T_sz ?_
  obtain⟨ch,q57,ay,rfl,ce,q58,ax,rfl,cg,q59,aw,rfl,a2,q60,bf,q61,h⟩:=h
  refine yY 15 (Code.ops K55) [(15,e,[vq ay]),(15,ay,[vq ax]),(15,ax,[vq aw]),(15,aw,[vp a2]),(15,(ad m),[vi bf])] 22 (bv 22 0) (show aH _ _ _ from⟨⟨q57,trivial⟩,⟨q58,trivial⟩,⟨q59,trivial⟩,⟨q60,trivial⟩,⟨q61,trivial⟩,trivial⟩)<|T_gp 0 (some 92) (vq e) (bv 22 1) [(0,vq e),(3,vp (pa b)),(4,.func (.func 74) #[] #[vp (pa b)]),(10,vp (pa m)),(85,vs (some j) R f),(86,vi R),(87,vi g),(92,vq e)]<|aF 1 93 (vq e) (bv 22 3) [92]<|aF 2 94 (vq e) (bv 22 7) [93]<|T_g1 3 95 (vq ay) (bv 22 15) [94] (aR 23 (vq e)) (yW 15 yZ)<|aF 4 96 (vq ay) (bv 22 31) [95]<|aF 5 97 (vq ay) (bv 22 63) [96]<|T_g1 6 98 (vq ax) (bv 22 127) [97] (aR 49 (vq ay)) (yW 15 yX)<|aF 7 99 (vq ax) (bv 22 255) [98]<|aF 8 100 (vq ax) (bv 22 511) [99]<|T_g1 9 101 (vq aw) (bv 22 1023) [100] (aR 52 (vq ax)) (yW 15 yQ)<|aF 10 102 (vq aw) (bv 22 2047) [101]<|aF 11 103 (vq aw) (bv 22 4095) [102]<|T_g1 12 104 (vp a2) (bv 22 8191) [103] (aR 78 (vq aw)) (yW 15 yJ)<|aF 13 105 (vp (pa m)) (bv 22 16383) []<|T_g1 14 106 (vi bf) (bv 22 32767) [105] (aR 3 (vp (pa m))) (yW 15 yK) ?_
  refine sn 15 19 (by kernel_rfl) ?fa1 ?fb1
  case' fa1=>
   replace h:=h.1
   refine so 15 (some 107) (bv 22 65535) 47 #[vp a2,vi bf] (by kernel_rfl) (λ_=>by kernel_rfl) h (by kernel_rfl) ?_;clear h
   rintro ct cm ⟨aj,ag,aq,y,s,q,r,az,rfl,h⟩
   refine⟨[(0,vq e),(3,vp (pa b)),(4,.func (.func 74) #[] #[vp (pa b)]),(10,vp (pa m)),(85,vs (some j) R f),(86,vi R),(87,vi g),(107,.tuple #[.agg #[vi aj,vi ag,vi aq,vi y,vi s,vi q,vi r],.bool az])],pk,(show aH _ _ _ from⟨trivial,trivial,trivial,trivial,trivial,trivial⟩),?_⟩
   refine T_g 16 (some 91) (.tuple #[.agg #[vi aj,vi ag,vi aq,vi y,vi s,vi q,vi r],.bool az]) (bv 22 131071) [(0,vq e),(3,vp (pa b)),(4,.func (.func 74) #[] #[vp (pa b)]),(10,vp (pa m)),(85,vs (some j) R f),(86,vi R),(87,vi g),(91,.tuple #[.agg #[vi aj,vi ag,vi aq,vi y,vi s,vi q,vi r],.bool az])] (pure (.value (.tuple #[.agg #[vi aj,vi ag,vi aq,vi y,vi s,vi q,vi r],.bool az])):Sem Next) (λ_ _ _ _ _=>rfl)<|T_g1 17 108 (.agg #[vi aj,vi ag,vi aq,vi y,vi s,vi q,vi r]) (bv 22 262143) [] (pure (.value (.agg #[vi aj,vi ag,vi aq,vi y,vi s,vi q,vi r])):Sem Next) (λ_ _ _ _ _=>rfl)<|T_g1 18 109 (.bool az) (bv 22 524287) [91] (pure (.value (.bool az)):Sem Next) (λ_ _ _ _ _=>rfl)<|nT 19 (some 11) (bv 22 1048575) (λb=>vp (pa b)) (.cells #[vi 0,vi 0,vi 0,vi 0,vi 0,vi 0,vi 0] 108) (by kernel_rfl) (λ_=>by kernel_rfl) (by kernel_rfl) ?_
   intro au H14 e62 e63
   replace h:=h au H14 e62 e63
   refine⟨[(0,vq e),(3,vp (pa b)),(4,.func (.func 74) #[] #[vp (pa b)]),(10,vp (pa m)),(11,vp (pa au)),(85,vs (some j) R f),(86,vi R),(87,vi g),(108,.agg #[vi aj,vi ag,vi aq,vi y,vi s,vi q,vi r]),(109,.bool az)],pk,(show aH _ _ _ from⟨trivial,trivial,trivial,trivial,trivial,trivial⟩),?_⟩
  case' fb1=>
   replace h:=h.2
   refine ui 19 (some 11) (bv 22 557055) (λb=>vp (pa b)) (.cells #[vi 0,vi 0,vi 0,vi 0,vi 0,vi 0,vi 0] 108) (by kernel_rfl) (λ_=>by kernel_rfl) (by kernel_rfl) ?_
   intro au H17 e78 e79
   replace h:=h au H17 e78 e79
   obtain⟨f73,f74,f75,f76,f77,h⟩:=h
   refine⟨[(0,vq e),(3,vp (pa b)),(4,.func (.func 74) #[] #[vp (pa b)]),(10,vp (pa m)),(11,vp (pa au)),(85,vs (some j) R f),(86,vi R),(87,vi g),(104,vp a2),(106,vi bf)],pk,(show aH _ _ _ from⟨f73,f74,f75,f76,f77,trivial⟩),?_⟩
   refine yq 15 (some 107) (bv 22 589823) 47 #[vp a2,vi bf] h ?_;clear h
   rintro cq H14 ⟨aj,ag,aq,y,s,q,r,az,rfl,h⟩
   refine⟨[(0,vq e),(3,vp (pa b)),(4,.func (.func 74) #[] #[vp (pa b)]),(10,vp (pa m)),(11,vp (pa au)),(85,vs (some j) R f),(86,vi R),(87,vi g),(107,.tuple #[.agg #[vi aj,vi ag,vi aq,vi y,vi s,vi q,vi r],.bool az])],pk,(show aH _ _ _ from⟨trivial,trivial,trivial,trivial,trivial,trivial⟩),?_⟩
   refine T_g 16 (some 91) (.tuple #[.agg #[vi aj,vi ag,vi aq,vi y,vi s,vi q,vi r],.bool az]) (bv 22 655359) [(0,vq e),(3,vp (pa b)),(4,.func (.func 74) #[] #[vp (pa b)]),(10,vp (pa m)),(11,vp (pa au)),(85,vs (some j) R f),(86,vi R),(87,vi g),(91,.tuple #[.agg #[vi aj,vi ag,vi aq,vi y,vi s,vi q,vi r],.bool az])] (pure (.value (.tuple #[.agg #[vi aj,vi ag,vi aq,vi y,vi s,vi q,vi r],.bool az])):Sem Next) (λ_ _ _ _ _=>rfl)<|T_g1 17 108 (.agg #[vi aj,vi ag,vi aq,vi y,vi s,vi q,vi r]) (bv 22 786431) [] (pure (.value (.agg #[vi aj,vi ag,vi aq,vi y,vi s,vi q,vi r])):Sem Next) (λ_ _ _ _ _=>rfl)<|T_g1 18 109 (.bool az) (bv 22 1048575) [91] (pure (.value (.bool az)):Sem Next) (λ_ _ _ _ _=>rfl) ?_
  all_goals
   obtain⟨q65,h⟩:=h
   refine gY 20 none (bv 22 2097151) (iR 108 (vp (pa au)) (.agg #[vi aj,vi ag,vi aq,vi y,vi s,vi q,vi r])) (λHz=>Hz=aV H14 (ad au) [vi aj,vi ag,vi aq,vi y,vi s,vi q,vi r] 0) (by kernel_rfl) (λ_=>by kernel_rfl) (iK [vi aj,vi ag,vi aq,vi y,vi s,vi q,vi r] 7 (by kernel_rfl) (by kernel_rfl) (λ_=>by kernel_rfl) (by kernel_rfl) q65) (by kernel_rfl) ?_
   intro bs e64
   replace h:=h bs e64
   refine⟨[(0,vq e),(3,vp (pa b)),(4,.func (.func 74) #[] #[vp (pa b)]),(10,vp (pa m)),(11,vp (pa au)),(85,vs (some j) R f),(86,vi R),(87,vi g),(109,.bool az)],pk,(show aH _ _ _ from⟨trivial,trivial,trivial,trivial,trivial,trivial⟩),?_⟩
   refine T_g 21 (some 12) (.bool az) (bv 22 4194303) [(0,vq e),(3,vp (pa b)),(4,.func (.func 74) #[] #[vp (pa b)]),(10,vp (pa m)),(11,vp (pa au)),(85,vs (some j) R f),(86,vi R),(87,vi g)] (pure (.value (.bool az)):Sem Next) (λ_ _ _ _ _=>rfl)<|fQ [(0,vq e),(3,vp (pa b)),(4,.func (.func 74) #[] #[vp (pa b)]),(10,vp (pa m)),(11,vp (pa au)),(85,vs (some j) R f),(86,vi R),(87,vi g)] sk<|yx<|aD<|aA 16<|T_n 1 [(0,vq e),(3,vp (pa b)),(4,.func (.func 74) #[] #[vp (pa b)]),(10,vp (pa m)),(11,vp (pa au)),(85,vs (some j) R f),(86,vi R),(87,vi g),(110,vq ((ad au).add 1))] ?_
   obtain⟨bk,q66,h⟩:=h
   refine T_l1 111 3 q66 [110]<|T_ed 1 [111] [(112,.bool (bk==1))] ?_
   revert h;refine iO_ (λc67 h=>?_) (λc67 h=>?_)
   ·refine aI 112 (zK c67)<|T_rz 17<|T_nd 2 [112] [(113,.func (.func 74) #[] #[vp (pa b)]),(114,vp (pa m))] ?_
    obtain⟨a1,q69,h⟩:=h
    refine T_l1 115 3 q69 [114]<|T_nd 1 [] [(116,vq ((ad m).add 1))] ?_
    obtain⟨be,q70,h⟩:=h
    refine T_l1 117 3 q70 [116]<|T_nd 2 [11,117] [(118,vi (zY (be*16))),(119,vq ((ad au).add 2))] ?_
    obtain⟨a6,q71,h⟩:=h
    refine T_l1 120 3 q71 [119]<|T_nd 1 [10] [(121,vq ((ad m).add 1))] ?_
    obtain⟨bh,q72,h⟩:=h
    refine T_l1 122 3 q72 [121]<|T_nd 3 [120,122] [(125,vi (if(zY ((zY (bh+1))*16))<a6 then(zY ((zY (bh+1))*16))else a6))]<|T_c (some 126) h ?_;clear h
    intro v_6 cj h
    exact T_pd [113,115,118,125] []<|zq<|aE<|aD<|T_rz 18<|T_ed 2 [87] [(87,vi (zY (g+1)))]<|aQ ((zY (g+1)):Int) sk h
   exact aJ 112 (zJ c67)<|T_k<|aE<|aD<|T_rz 18<|T_ed 2 [10,11,87,112] [(87,vi (zY (g+1)))]<|aQ ((zY (g+1)):Int) sk h
 refine aJ 88 (zQ c49)<|zj 2<|aB<|aB<|aM<|aD<|aA 19<|T_nu [(3,vp (pa b))] ?_
 obtain⟨bx,bt,bw,q89,h⟩:=h
 exact T_l1 128 75 q89 [3]<|T_nr 1 [2] [vs bx bt bw] hQ h
end cK
/-! (*moraine/trace.Trace).moved -/
namespace cL
def K0:=Func.code f50
end cL
def cL.pt(tv:zW)(wv:Int)(H:zV)(R:zk):Prop:=
 fS.C wv H (λv H1=> ∃ra rb,v=.tuple #[vi ra,.bool rb]/\
 ∃o,tv=some o/\
 ∃x,hat H1 o=some (vp x)/\
 ∃xA,x=some xA/\
 ∃k,hat H1 xA=some (vp k)/\
 ∃m,k=some m/\
 ∃p,hat H1 m=some (vp p)/\
 ∃n,p=some n/\
 ∃i,hat H1 n=some (vp i)/\
 bL.C i ra H1 (λr H2=> ∃b e,r=.tuple #[vu b,vi e]/\
 fS.C b H2 (λt H3=> ∃a d,t=.tuple #[vi a,.bool d]/\
 if e=0 then(
 if d=true then(
 fM.C b H3 (λy H4=> ∃g,y=vi g/\
 if g=6 then(
 fM.C wv H4 (λu H5=> ∃j,u=vi j/\
 il.C j a H5 (λs H6=> ∃f q,s=.tuple #[vu f,vi q]/\
 R (.tuple #[vu f,vT]) H6)))
 else
 R (.tuple #[vu wv,vF]) H4))
 else
 R (.tuple #[vu wv,vF]) H3)
 else
 R (.tuple #[vu wv,vF]) H3)))
namespace cL
theorem link(h:pt d j H i):C d j H i:=by
 refine T_en K0 62 func50 ?_
 intro w0 Q hQ
 unfold pt at h
 refine T_su [(0,vp d),(1,vu j)]<|aA 0<|T_ed 2 [] []<|aA 1<|T_nd 1 [] [(15,vu j)]<|T_c (some 16) h ?_;clear h
 rintro v H1 ⟨ra,rb,rfl,h⟩
 refine T_pd [15] [(16,.tuple #[vi ra,.bool rb])]<|T_ed 5 [16] [(6,vi ra)]<|aA 2<|T_nd 1 [0] [(20,vp d)] ?_
 obtain⟨o,rfl,h⟩:=h
 refine T_nd 2 [20] [(22,vq o)] ?_
 obtain⟨x,q1,h⟩:=h
 refine T_l1 23 23 q1 [22] ?_
 obtain⟨xA,rfl,h⟩:=h
 refine T_nd 2 [23] [(25,vq xA)] ?_
 obtain⟨k,q2,h⟩:=h
 refine T_l1 26 49 q2 [25] ?_
 obtain⟨m,rfl,h⟩:=h
 refine T_nd 2 [26] [(28,vq m)] ?_
 obtain⟨p,q3,h⟩:=h
 refine T_l1 29 52 q3 [28] ?_
 obtain⟨n,rfl,h⟩:=h
 refine T_nd 2 [29] [(31,vq n)] ?_
 obtain⟨wv,q4,h⟩:=h
 refine T_l1 32 78 q4 [31]<|T_nd 1 [6] [(33,vi ra)]<|T_c (some 34) h ?_;clear h
 rintro r H2 ⟨b,e,rfl,h⟩
 refine T_pd [32,33] [(34,.tuple #[vu b,vi e])]<|T_ed 5 [34] [(8,vu b),(9,vi e)]<|aA 3<|T_nd 1 [] [(38,vu b)]<|T_c (some 39) h ?_;clear h
 rintro t H3 ⟨a,R,rfl,h⟩
 refine T_pd [38] [(39,.tuple #[vi a,.bool R])]<|T_ed 5 [39] [(10,vi a),(11,.bool R)]<|T_sz<|aA 4<|T_nd 3 [9] [(44,.bool (e !=0))] ?_
 revert h;refine iO_ (λc5 h=>?_) (λc5 h=>?_)
 ·refine N_bd 44 (bne_eq_false_iff_eq.mpr c5)<|T_nd 4 [11,44] [(48,.bool (!R))] ?_
  revert h;refine iO_ (λc7 h=>?_) (λc7 h=>?_)
  ·have b8:(!R)=false:=congrArg Bool.not (c7)
   have b82:R=true:=c7
   refine N_bd 48 (b:=(!R)) (v:=false) (by simp only[b8,b82,Bool.not_true,Bool.not_false]) ?_
   clear b8 b82
   refine T_nd 1 [8] [(49,vu b)]<|T_c (some 50) h ?_;clear h
   rintro y H4 ⟨g,rfl,h⟩
   refine T_pd [49] [(50,vi g)]<|T_ed 2 [48,50] [(52,.bool (g !=6))] ?_
   revert h;refine iO_ (λc9 h=>?_) (λc9 h=>?_)
   ·refine aJ 52 (bne_eq_false_iff_eq.mpr c9)<|T_kt<|aA 6<|T_nd 1 [1,52] [(55,vu j)]<|T_c (some 56) h ?_;clear h
    rintro u H5 ⟨tv,rfl,h⟩
    refine T_pd [55] [(56,vi tv)]<|T_nd 1 [10] [(57,vi a)]<|T_c (some 58) h ?_;clear h
    rintro s H6 ⟨f,q,rfl,h⟩
    refine⟨[(58,.tuple #[vu f,vi q])],pk,?_⟩
    exact T_ne 5 [(12,vu f)]<|aA 7<|T_nr 3 [4,5] [vu f,vT] hQ h
   exact aI 52 (bne_iff_ne.mpr c9)<|aA 5<|T_nr 3 [4,5] [vu j,vF] hQ h
  have b8:(!R)=true:=congrArg Bool.not (zZ c7)
  have b82:R=false:=zZ c7
  refine N_bd 48 (b:=(!R)) (v:=true) (by simp only[b8,b82,Bool.not_true,Bool.not_false]) ?_
  clear b8 b82
  exact T_ed 4 [8,48] [(52,vT)]<|T_tz 52<|aA 5<|T_nr 3 [4,5] [vu j,vF] hQ h
 exact N_bd 44 (bne_iff_ne.mpr c5)<|T_ed 8 [8,11,44] [(52,vT)]<|T_tz 52<|aA 5<|T_nr 3 [4,5] [vu j,vF] hQ h
end cL
/-! (*moraine/trace.Trace).none -/
namespace bE
def K0:=Func.code f57
end bE
def bE.pt(tv:zW)(H:zV)(R:zk):Prop:=
 gM tv (
 R vT H) (λa=>
 ∃x,hat H a=some (vp x)/\
 gM x (
 R vT H) (λxA=>
 ∃b,hat H (a.add 1029)=some (vi b)/\
 R (.bool (b==1)) H))
namespace bE
theorem link(h:pt d H i):C d H i:=by
 refine T_en K0 19 func57 ?_
 intro w0 Q hQ
 unfold pt at h
 refine T_su [(0,vp d)]<|aA 0<|T_ed 1 [] []<|aA 1<|T_nd 1 [] [(3,vp d)] ?_
 rcases d with _ | a
 ·rw[onPtr_none]at h
  exact T_nr 16 [2] [vT] hQ h
 rw[onPtr_some]at h
 refine T_n 5 [(0,vq a),(5,vF),(8,vq a)] ?_
 obtain⟨x,q1,h⟩:=h
 refine T_l1 9 23 q1 [8] ?_
 rcases x with _ | xA
 ·rw[onPtr_none]at h
  exact T_nr 10 [2] [vT] hQ h
 rw[onPtr_some]at h
 refine T_n 6 [(12,vF),(15,vq (a.add 1029))] ?_
 obtain⟨b,q2,h⟩:=h
 exact T_l1 16 3 q2 [15]<|T_nr 3 [2] [.bool (b==1)] hQ h
end bE
variable{H:zV}{d:zW}{i:zk}{j k:Int}
/-! (*moraine/trace.Trace).round -/
namespace dF
def K0:=Func.code f58
def K2:=cb K0
def K4:=cb K2
def K5:=ca K4
def K7:=ca K5
def K8:=cb K5
def K9:=ca K8
def K10:=ca K9
def K12:=cb K10
def K14:=cb K12
def K17:=ca K14
def K19:=ca K17
def K21:=cb K19
def K23:=cb K21
def K29:=cb K23
def K30:=ca K29
def K31:=ca K30
def K33:=cb K31
def K38:=ca K33
def K40:=ca K38
def K42:=cb K40
def K43:=ca K42
end dF
def dF.pt(tv:zW)(H:zV)(R:zk):Prop:=
 ∃d,tv=some d/\
 ∃x,hat H d=some (vp x)/\
 ∃xA,x=some xA/\
 ∃bz,hat H xA=some (vp bz)/\
 ∃an,bz=some an/\
 ∃b0,hat H an=some (vp b0)/\
 ∃am,b0=some am/\
 ∃av,hat H am=some (vp av)/\
 ∃bb,hat H (d.add 1)=some (vi bb)/\
 ∀b H1,b=H.size->H1=H.push (.cells #[vi bb] 3)->aP H1 d 0 [vq xA]/\aP H1 xA 0 [vq an]/\aP H1 an 0 [vq am]/\aP H1 am 0 [vp av]/\
 cW.C av (some (ad b)) 1 1 H1 (λv H2=> ∃xB xN xC,v=vs xB xN xC/\
 ∃(bk:Bool->zv) (m11:Bool->Int->zV->Nat),bk false 0 H2/\ ∀g s29 H3,bk g s29 H3->
 if s29< (xN:Int)then(
 ∃f,xB=some f/\
 zw s29 xN/\
 ∃e,hat H3 (f.add (Int.toNat s29*1))=some (vi e)/\
 zw e 1024/\
 ∃a4,hat H3 ((d.add 2).add (Int.toNat e*1))=some (vi a4)/\
 if a4=1 then(
 (bk g (zY (s29+1)) H3/\m11 g (zY (s29+1)) H3<m11 g s29 H3))
 else
 ∃bo,hat H3 d=some (vp bo)/\
 ∃bp,bo=some bp/\
 ∃bq,hat H3 bp=some (vp bq)/\
 ∃br,bq=some br/\
 ∃bj,hat H3 br=some (vp bj)/\
 ∃bh,bj=some bh/\
 ∃a3,hat H3 bh=some (vp a3)/\
 bB.C a3 e H3 (λb2 H4=> ∃ap ak a5 r aa u y rb,b2=.tuple #[.agg #[vi ap,vi ak,vi a5,vi r,vi aa,vi u,vi y],.bool rb]/\
 ∀a0 H5,a0=H4.size->H5=H4.push (.cells #[vi 0,vi 0,vi 0,vi 0,vi 0,vi 0,vi 0] 108)->
 (aN H5 (ad a0) 0 7)/\ ∀H6,H6=aV H5 (ad a0) [vi ap,vi ak,vi a5,vi r,vi aa,vi u,vi y] 0->
 ∃(bn:Bool->zW->zV->Prop) (m32:Bool->zW->zV->Nat),bn g (some (ad a0)) H6/\ ∀j s H7,bn j s H7->
 ∃a7,hat H7 (d.add 1027)=some (.map a7)/\
 ∃mr,a7=some mr/\
 ∃es cl ks,H7[mr]?=some (.map es cl)/\Ents (dX .i64) es.toList ks/\
 ∃al,(mget ks e).getD (vi 0)=vi al/\
 ∃sA,s=some sA/\
 ∃aq,hat H7 (sA.add 2)=some (vi aq)/\
 if al<aq then(
 ∃a9,hat H7 (d.add 1027)=some (.map a9)/\
 ∃bl,a9=some bl/\
 ∃bw cl_2 ks_2,H7[bl]?=some (.map bw cl_2)/\Ents (dX .i64) bw.toList ks_2/\
 ∃ac,(mget ks_2 e).getD (vi 0)=vi ac/\
 ∃az,hat H7 (d.add 1027)=some (.map az)/\
 ∃ax,hat H7 (sA.add 2)=some (vi ax)/\
 ∃a6,az=some a6/\
 ∃bt cl_3 ks_3,H7[a6]?=some (.map bt cl_3)/\Ents (dX .i64) bt.toList ks_3/\
 ∀bm cl_4 H8,H8=bN H7 a6 (.map bm cl_4)->Ents (dX .i64) bm.toList (mput ks_3 e (vi ax))->
 ∃a1,hat H8 (sA.add 2)=some (vi a1)/\
 ∃a8,hat H8 (sA.add 1)=some (vi a8)/\
 bP.C (some d) e ac a1 a8 H8 (λ_ H9=>
 ∃ay ao aw ah ag af ae,aP H9 sA 0 [vi ay,vi ao,vi aw,vi ah,vi ag,vi af,vi ae]/\
 ∀ab H10,ab=H9.size->H10=H9.push (.cells #[vi 0,vi 0,vi 0,vi 0,vi 0,vi 0,vi 0] 108)->
 (aN H10 (ad ab) 0 7)/\ ∀ba,ba=aV H10 (ad ab) [vi ay,vi ao,vi aw,vi ah,vi ag,vi af,vi ae] 0->
 ∃bg,hat ba d=some (vp bg)/\
 ∃bc,bg=some bc/\
 ∃be,hat ba bc=some (vp be)/\
 ∃bf,be=some bf/\
 ∃bd,hat ba bf=some (vp bd)/\
 ∃bi,bd=some bi/\
 ∃a2,hat ba bi=some (vp a2)/\
 bB.C a2 e ba (λb1 bx=> ∃aj ai au q p m o bu,b1=.tuple #[.agg #[vi aj,vi ai,vi au,vi q,vi p,vi m,vi o],.bool bu]/\
 (aN bx (ad ab) 0 7)/\ ∀bs,bs=aV bx (ad ab) [vi aj,vi ai,vi au,vi q,vi p,vi m,vi o] 0->
 (bn true (some (ad ab)) bs/\m32 true (some (ad ab)) bs<m32 j s H7))))
 else
 (bk j (zY (s29+1)) H7/\m11 j (zY (s29+1)) H7<m11 g s29 H3)))
 else
 R (.bool g) H3)
namespace dF
theorem link(h:pt d H i):C d H i:=by
 refine T_en K0 109 func58 ?_
 intro w0 Q hQ
 unfold pt zY at h
 refine T_su [(0,vp d)]<|aA 0<|T_ed 1 [] []<|aA 1<|T_ed 1 [] [(3,vF)]<|T_sz<|T_sz ?_
 obtain⟨R,rfl,x,q1,xA,rfl,bz,q2,an,rfl,b0,q3,am,rfl,av,q4,bb,q5,h⟩:=h
 refine yY 2 (Code.ops K7) [(18,R,[vq xA]),(18,xA,[vq an]),(18,an,[vq am]),(18,am,[vp av]),(17,(R.add 1),[vi bb])] 21 (bv 21 0) (show aH _ _ _ from⟨⟨q1,trivial⟩,⟨q2,trivial⟩,⟨q3,trivial⟩,⟨q4,trivial⟩,⟨q5,trivial⟩,trivial⟩)<|T_gp 0 (some 9) (vq R) (bv 21 1) [(0,vq R),(3,vF),(9,vq R)]<|aF 1 10 (vq R) (bv 21 3) [9]<|aF 2 11 (vq R) (bv 21 7) [10]<|T_g1 3 12 (vq xA) (bv 21 15) [11] (aR 23 (vq R)) (yW 18 yZ)<|aF 4 13 (vq xA) (bv 21 31) [12]<|aF 5 14 (vq xA) (bv 21 63) [13]<|T_g1 6 15 (vq an) (bv 21 127) [14] (aR 49 (vq xA)) (yW 18 yX)<|aF 7 16 (vq an) (bv 21 255) [15]<|aF 8 17 (vq an) (bv 21 511) [16]<|T_g1 9 18 (vq am) (bv 21 1023) [17] (aR 52 (vq an)) (yW 18 yQ)<|aF 10 19 (vq am) (bv 21 2047) [18]<|aF 11 20 (vq am) (bv 21 4095) [19]<|T_g1 12 21 (vp av) (bv 21 8191) [20] (aR 78 (vq am)) (yW 18 yJ)<|aF 13 22 (vq R) (bv 21 16383) []<|aF 14 23 (vq R) (bv 21 32767) [22]<|aF 15 24 (vq (R.add 1)) (bv 21 65535) [23]<|T_g1 16 25 (vi bb) (bv 21 131071) [24] (aR 3 (vq (R.add 1))) (yW 17 yK)<|aF 20 29 (vi 0) (bv 21 1179647) []<|nT 17 (some 26) (bv 21 1310719) (λb=>vs (pa b) 1 1) (.cells #[vi bb] 3) (by kernel_rfl) (λ_=>by kernel_rfl) (by kernel_rfl) ?_
 intro b H1 e10 e11
 replace h:=h b H1 e10 e11
 obtain⟨f6,f7,f8,f9,h⟩:=h
 refine⟨[(0,vq R),(3,vF),(21,vp av),(26,vs (pa b) 1 1),(29,vi 0)],pk,(show aH _ _ _ from⟨f6,f7,f8,f9,trivial,trivial⟩),?_⟩
 refine yq 18 (some 27) (bv 21 1572863) 45 #[vp av,vs (pa b) 1 1] h ?_;clear h
 rintro v H2 ⟨xB,xN,xC,rfl,h⟩
 refine⟨[(0,vq R),(3,vF),(27,vs xB xN xC),(29,vi 0)],pk,(show aH _ _ _ from⟨trivial,trivial,trivial,trivial,trivial,trivial⟩),?_⟩
 refine T_g 19 (some 28) (vi xN) (bv 21 2097151) [(0,vq R),(3,vF),(27,vs xB xN xC),(28,vi xN),(29,vi 0)] (pure (.value (vi xN)):Sem Next) (λ_ _ _ _ _=>rfl)<|fQ [(0,vq R),(3,vF),(27,vs xB xN xC),(28,vi xN),(29,vi 0)] sk<|yx<|aD<|T_bz 0 ?_
 obtain⟨bk,m11,i12,i13⟩:=h
 refine bR (x:=K10) (σ:=Bool×Int) (λs_=> [(0,vq R),(3,.bool s_.1),(27,vs xB xN xC),(28,vi xN),(29,vi s_.2)]) (λs_ H=>bk s_.1 s_.2 H) (λs_ H=>m11 s_.1 s_.2 H) ((false,0):Bool×Int) (by kernel_rfl) i12 sk ?_
 rintro⟨g,s29⟩ H3 i14
 have h:=i13 g s29 H3 i14
 refine T_su [(0,vq R),(3,.bool g),(27,vs xB xN xC),(28,vi xN),(29,vi s29)]<|aA 3<|T_ed 1 [] [(30,.bool (decide (s29< (xN:Int))))]<|T_sz ?_
 revert h;refine iO_ (λc15 h=>?_) (λc15 h=>?_)
 ·refine aI 30 (zX c15)<|T_kt<|T_sz<|T_bz 1<|aA 4<|T_ud [30] [] ?_
  obtain⟨f,rfl,q17,h⟩:=h
  refine T_xd (some 31) 75 3 1 f xN xC .i64 s29 underlying75 q17.1 q17.2 [27] [(27,vs (some f) xN xC),(31,vq (f.add (Int.toNat s29*1)))] ?_
  obtain⟨e,q18,h⟩:=h
  refine T_l1 32 3 q18 [31]<|T_ed 1 [32] [(5,vi e)]<|T_sz<|aA 5<|T_nd 4 [] [(34,vi e),(36,vq (R.add 2))] ?_
  obtain⟨q19,h⟩:=h
  refine T_v1 37 (bA 103 (vq (R.add 2)) (vi e)) (vq ((R.add 2).add (Int.toNat e*1))) (λw _=>bK (P:=prog) (t:=103) (elem:=3) (sz:=1) (n:=1024) (a:=(R.add 2)) (k:=.i64) (i:=e) underlying103 (λ_=>by kernel_rfl) q19.1 q19.2 w) [34,36] ?_
  obtain⟨a4,q20,h⟩:=h
  refine T_l1 38 3 q20 [37]<|T_ed 1 [38] [(39,.bool (a4==1))] ?_
  revert h;refine iO_ (λc21 h=>?_) (λc21 h=>?_)
  ·exact aI 39 (zK c21)<|zj 1<|aB<|aM<|aD<|T_rz 15<|T_ed 2 [5,29,39] [(29,vi (zY (s29+1)))]<|aQ ((g,(zY (s29+1))):Bool×Int) sk h
  refine aJ 39 (zJ c21)<|T_kt<|aA 6<|T_nd 3 [39] [(43,vq R)] ?_
  obtain⟨bo,q23,h⟩:=h
  refine T_l1 44 23 q23 [43] ?_
  obtain⟨bp,rfl,h⟩:=h
  refine T_nd 2 [44] [(46,vq bp)] ?_
  obtain⟨bq,q24,h⟩:=h
  refine T_l1 47 49 q24 [46] ?_
  obtain⟨br,rfl,h⟩:=h
  refine T_nd 2 [47] [(49,vq br)] ?_
  obtain⟨bj,q25,h⟩:=h
  refine T_l1 50 52 q25 [49] ?_
  obtain⟨bh,rfl,h⟩:=h
  refine T_nd 2 [50] [(52,vq bh)] ?_
  obtain⟨a3,q26,h⟩:=h
  refine T_l1 53 78 q26 [52]<|T_nd 1 [] [(54,vi e)]<|T_c (some 55) h ?_;clear h
  rintro b2 H4 ⟨ap,ak,a5,r,aa,u,y,rb,rfl,h⟩
  refine T_pd [53,54] [(55,.tuple #[.agg #[vi ap,vi ak,vi a5,vi r,vi aa,vi u,vi y],.bool rb])]<|T_nd 3 [55] [(56,.agg #[vi ap,vi ak,vi a5,vi r,vi aa,vi u,vi y]),(57,.bool rb)]<|T_nw (some 6) (λb=>vp (pa b)) (.cells #[vi 0,vi 0,vi 0,vi 0,vi 0,vi 0,vi 0] 108) ?_
  intro a0 H5 e27 e28
  replace h:=h a0 H5 e27 e28
  refine T_pd [] [(6,vp (pa a0))] ?_
  obtain⟨q30,h⟩:=h
  refine fL 108 [vi ap,vi ak,vi a5,vi r,vi aa,vi u,vi y] q30 ?_
  intro H6 e29
  replace h:=h H6 e29
  refine T_pd [56] []<|T_ed 1 [57] []<|T_bz 2 ?_
  obtain⟨bn,m32,i31,i32⟩:=h
  refine bR (x:=K31) (σ:=Bool×zW) (λs_=> [(0,vq R),(3,.bool s_.1),(5,vi e),(6,vp s_.2),(27,vs (some f) xN xC),(28,vi xN),(29,vi s29)]) (λs_ H=>bn s_.1 s_.2 H) (λs_ H=>m32 s_.1 s_.2 H) ((g,(pa a0)):Bool×zW) (by kernel_rfl) i31 sk ?_
  rintro⟨j,s⟩ H7 i33
  have h:=i32 j s H7 i33
  refine T_su [(0,vq R),(3,.bool j),(5,vi e),(6,vp s),(27,vs (some f) xN xC),(28,vi xN),(29,vi s29)]<|T_sz<|T_sz<|qZ 7<|T_q1 58 (vq R) []<|T_q1 59 (vq R) [58]<|T_q1 60 (vq (R.add 1027)) [59] ?_
  obtain⟨a7,q34,h⟩:=h
  refine mX (some 61) 102 q34 [60] [(61,.map a7)]<|T_q (some 62) (vi e) [(0,vq R),(3,.bool j),(5,vi e),(6,vp s),(27,vs (some f) xN xC),(28,vi xN),(29,vi s29),(61,.map a7),(62,vi e)] ?_
  obtain⟨mr,rfl,es,cl,ks,q35,q36,al,e67,h⟩:=h
  refine Q_op (some 63) (lu 102 (.map (some mr)) (vi e) false) (vi al) (λ_=>by kernel_rfl) (λw hw=>(kU (kk:=(dX .i64)) (z:=vi 0) underlying102 underlying3 (λ_=>by kernel_rfl) (by rw[hw];exact q35) q36 false).trans (by simp only[if_true,Bool.false_eq_true,if_false,e67])) [(0,vp (some R)),(3,.bool j),(5,vi e),(6,vp s),(27,vs (some f) xN xC),(28,vi xN),(29,vi s29),(63,vi al)] pk ?_
  obtain⟨sA,rfl,h⟩:=h
  refine T_q (some 64) (vq (sA.add 2)) [(0,vq R),(3,.bool j),(5,vi e),(6,vq sA),(27,vs (some f) xN xC),(28,vi xN),(29,vi s29),(63,vi al),(64,vq (sA.add 2))] ?_
  obtain⟨aq,q38,h⟩:=h
  refine mX (some 65) 3 q38 [64] [(65,vi aq)]<|T_q1 66 (.bool (decide (al<aq))) [63,65]<|me [(0,vq R),(3,.bool j),(5,vi e),(6,vq sA),(27,vs (some f) xN xC),(28,vi xN),(29,vi s29),(66,.bool (decide (al<aq)))] sk<|T_qe ?_
  revert h;refine iO_ (λc39 h=>?_) (λc39 h=>?_)
  ·refine aI 66 (zX c39)<|T_kt<|T_sz<|T_bz 3<|aA 9<|T_n 3 [(0,vq R),(5,vi e),(6,vq sA),(27,vs (some f) xN xC),(28,vi xN),(29,vi s29),(87,vq (R.add 1027))] ?_
   obtain⟨a9,q41,h⟩:=h
   refine T_l1 88 102 q41 [87]<|T_nd 1 [] [(89,vi e)] ?_
   obtain⟨bl,rfl,bw,cl_2,ks_2,q42,q43,ac,e65,h⟩:=h
   refine T_v1 90 (lu 102 (.map (some bl)) (vi e) false) (vi ac) (λw hw=>(kU (kk:=(dX .i64)) (z:=vi 0) underlying102 underlying3 (λ_=>by kernel_rfl) (by rw[hw];exact q42) q43 false).trans (by simp only[if_true,Bool.false_eq_true,if_false,e65])) [88,89]<|T_ed 1 [90] [(8,vi ac)]<|T_sz ?_
   obtain⟨az,q45,ax,q46,h⟩:=h
   refine yY 10 (Code.ops K43) [(7,(R.add 1027),[.map az]),(7,(sA.add 2),[vi ax])] 8 (bv 8 0) (show aH _ _ _ from⟨⟨q45,trivial⟩,⟨q46,trivial⟩,trivial⟩)<|T_gp 0 (some 91) (vq R) (bv 8 1) [(0,vq R),(5,vi e),(6,vq sA),(8,vi ac),(27,vs (some f) xN xC),(28,vi xN),(29,vi s29),(91,vq R)]<|aF 1 92 (vq R) (bv 8 3) [91]<|aF 2 93 (vq (R.add 1027)) (bv 8 7) [92]<|T_g1 3 94 (.map az) (bv 8 15) [93] (aR 102 (vq (R.add 1027))) (yW 7 yZ)<|aF 4 95 (vi e) (bv 8 31) []<|aF 5 96 (vq (sA.add 2)) (bv 8 63) []<|T_g1 6 97 (vi ax) (bv 8 127) [96] (aR 3 (vq (sA.add 2))) (yW 7 yX) ?_
   obtain⟨a6,rfl,bt,cl_3,ks_3,q47,q48,h⟩:=h
   refine gY 7 none (bv 8 255) (mD 102 (.map (some a6)) (vi e) (vi ax)) (λHz=> ∃es2 cl2,Hz=bN H7 a6 (.map es2 cl2)/\Ents (dX .i64) es2.toList (mput ks_3 e (vi ax))) (by kernel_rfl) (λ_=>by kernel_rfl) (λw hw=>by obtain⟨es2,cl2,q1,q2⟩:=qd (kk:=(dX .i64)) (P:=prog) (w:=w) (k:=e) (v:=vi ax) underlying102 underlying3 (by rw[hw];exact q47) q48;exact⟨_,q1,⟨rfl,rfl,rfl,Nat.le_refl _⟩,es2,cl2,by rw[<-hw],q2⟩) (by kernel_rfl) ?_
   rintro H8 ⟨bm,cl_4,e50,e51⟩
   replace h:=h bm cl_4 H8 e50 e51
   refine⟨[(0,vq R),(5,vi e),(6,vq sA),(8,vi ac),(27,vs (some f) xN xC),(28,vi xN),(29,vi s29)],pk,(show aH _ _ _ from⟨trivial,trivial,trivial⟩),?_⟩
   refine fQ [(0,vq R),(5,vi e),(6,vq sA),(8,vi ac),(27,vs (some f) xN xC),(28,vi xN),(29,vi s29)] sk ?_
   refine yx<|aD<|aA 11<|T_n 4 [(0,vq R),(5,vi e),(6,vq sA),(27,vs (some f) xN xC),(28,vi xN),(29,vi s29),(98,vq R),(99,vi e),(100,vi ac),(101,vq (sA.add 2))] ?_
   obtain⟨a1,q52,h⟩:=h
   refine T_l1 102 3 q52 [101]<|T_nd 1 [] [(103,vq (sA.add 1))] ?_
   obtain⟨a8,q53,h⟩:=h
   refine T_l1 104 3 q53 [103]<|T_c (some 105) h ?_;clear h
   intro v_3 H9 h
   refine T_pd [98,99,100,102,104] []<|T_e<|T_rz 12<|T_nd 1 [] [(3,vT)]<|zq<|aE<|aD<|T_sz<|aA 13 ?_
   obtain⟨ay,ao,aw,ah,ag,af,ae,q54,h⟩:=h
   refine T_lr 106 108 q54 [6]<|T_e<|T_rz 14<|T_nw (some 6) (λb=>vp (pa b)) (.cells #[vi 0,vi 0,vi 0,vi 0,vi 0,vi 0,vi 0] 108) ?_
   intro ab H10 e55 e56
   replace h:=h ab H10 e55 e56
   refine T_pd [] [(6,vp (pa ab))] ?_
   obtain⟨q58,h⟩:=h
   refine fL 108 [vi ay,vi ao,vi aw,vi ah,vi ag,vi af,vi ae] q58 ?_
   intro ba e57
   replace h:=h ba e57
   refine T_pd [106] []<|T_e<|T_rz 8<|T_nd 3 [] [(70,vq R)] ?_
   obtain⟨bg,q59,h⟩:=h
   refine T_l1 71 23 q59 [70] ?_
   obtain⟨bc,rfl,h⟩:=h
   refine T_nd 2 [71] [(73,vq bc)] ?_
   obtain⟨be,q60,h⟩:=h
   refine T_l1 74 49 q60 [73] ?_
   obtain⟨bf,rfl,h⟩:=h
   refine T_nd 2 [74] [(76,vq bf)] ?_
   obtain⟨bd,q61,h⟩:=h
   refine T_l1 77 52 q61 [76] ?_
   obtain⟨bi,rfl,h⟩:=h
   refine T_nd 2 [77] [(79,vq bi)] ?_
   obtain⟨a2,q62,h⟩:=h
   refine T_l1 80 78 q62 [79]<|T_nd 1 [] [(81,vi e)]<|T_c (some 82) h ?_;clear h
   rintro b1 bx ⟨aj,ai,au,q,p,m,o,bu,rfl,h⟩
   refine T_pd [80,81] [(82,.tuple #[.agg #[vi aj,vi ai,vi au,vi q,vi p,vi m,vi o],.bool bu])]<|T_nd 3 [82] [(83,.agg #[vi aj,vi ai,vi au,vi q,vi p,vi m,vi o])] ?_
   obtain⟨q64,h⟩:=h
   refine fL 108 [vi aj,vi ai,vi au,vi q,vi p,vi m,vi o] q64 ?_
   intro bs e63
   replace h:=h bs e63
   exact T_pd [83] []<|T_e<|aQ ((true,(pa ab)):Bool×zW) sk h
  exact aJ 66 (zQ c39)<|zj 2<|aB<|aB<|aM<|aE<|aD<|T_rz 15<|T_ne 2 [(0,vq R),(3,.bool j),(27,vs (some f) xN xC),(28,vi xN),(29,vi (zY (s29+1)))]<|aQ ((j,(zY (s29+1))):Bool×Int) sk h
 exact aJ 30 (zQ c15)<|zj 0<|aB<|aB<|aM<|aD<|aA 16<|T_nr 2 [2] [.bool g] hQ h
end dF
/-! (*moraine/trace.Trace).look -/
namespace bP
def K0:=Func.code f72
def K2:=cb K0
def K4:=cb K2
def K6:=cb K4
def K7:=ca K6
def K8:=ca K7
end bP
def bP.pt(tv:zW)(d e to a:Int)(H:zV)(R:zk):Prop:=
 ∀b H1,b=H.size->H1=H.push (.cells #[vp tv] 37)->
 ∃(I9:zv) (m9:Int->zV->Nat),I9 e H1/\ ∀i H2,I9 i H2->
 if((decide (i<to)) && (a !=3))=true then(
 if((a !=1) || ((Int.tmod i 2)==1))=true then(
 cQ.C (zY ((zY (d*64))+i)) (some (ad b)) H2 (λ_ H3=>
 (I9 (zY (i+1)) H3/\m9 (zY (i+1)) H3<m9 i H2)))
 else
 (I9 (zY (i+1)) H2/\m9 (zY (i+1)) H2<m9 i H2))
 else
 R (.tuple #[]) H2
namespace bP
theorem link{to a:Int}(h:pt d j k to a H i):C d j k to a H i:=by
 refine T_en K0 36 func72 ?_
 intro w0 Q hQ
 unfold pt zY at h
 refine T_su [(0,vp d),(1,vi j),(2,vi k),(3,vi to),(4,vi a)]<|aA 0<|T_nw (some 5) (λb=>vp (pa b)) (.cells #[vp d] 37) ?_
 intro b H1 e1 e2
 replace h:=h b H1 e1 e2
 refine T_pd [0] [(5,vp (pa b))]<|T_e<|aA 1<|T_ed 2 [5] [(10,.func (.func 112) #[] #[vp (pa b)])]<|aA 2<|T_ed 2 [2] [(11,vi k)]<|T_bz 0 ?_
 obtain⟨I9,m9,i3,i4⟩:=h
 refine bR (x:=K8) (σ:=Int) (λs_=> [(1,vi j),(3,vi to),(4,vi a),(10,.func (.func 112) #[] #[vp (pa b)]),(11,vi s_)]) (λs_ H=>I9 s_ H) (λs_ H=>m9 s_ H) (k:Int) (by kernel_rfl) i3 sk ?_
 rintro R H2 i5
 have h:=i4 R H2 i5
 refine T_su [(1,vi j),(3,vi to),(4,vi a),(10,.func (.func 112) #[] #[vp (pa b)]),(11,vi R)]<|T_sz<|aA 3 ?_
 refine gz [(1,vi j),(3,vi to),(4,vi a),(10,.func (.func 112) #[] #[vp (pa b)]),(11,vi R),(20,.bool ((decide (R<to)) && (a !=3)))] ?_ ?_
 ·refine aD ?_
  revert h;refine iO_ (λc8 h=>?_) (λc8 h=>?_)
  ·refine aI 20 c8<|T_kt<|T_sz<|T_bz 1<|aA 5 ?_
   refine gz [(1,vi j),(3,vi to),(4,vi a),(10,.func (.func 112) #[] #[vp (pa b)]),(11,vi R),(29,.bool ((a !=1) || ((Int.tmod R 2)==1)))] ?_ ?_
   ·refine aD ?_
    revert h;refine iO_ (λc12 h=>?_) (λc12 h=>?_)
    ·refine aI 29 c12<|T_rz 6<|T_n 5 [(1,vi j),(3,vi to),(4,vi a),(10,.func (.func 112) #[] #[vp (pa b)]),(11,vi R),(30,.func (.func 112) #[] #[vp (pa b)]),(34,vi (zY ((zY (j*64))+R)))]<|T_c (some 35) h ?_;clear h
     intro v H3 h
     exact T_pd [30,34] []<|zq<|aE<|aD<|T_rz 4<|T_ed 3 [11] [(11,vi (zY (R+1)))]<|aQ ((zY (R+1)):Int) sk h
    exact aJ 29 (zZ c12)<|T_k<|aE<|aD<|T_rz 4<|T_ne 3 [(1,vi j),(3,vi to),(4,vi a),(10,.func (.func 112) #[] #[vp (pa b)]),(11,vi (zY (R+1)))]<|aQ ((zY (R+1)):Int) sk h
   intro hk
   refine T_n 3 [(1,vi j),(3,vi to),(4,vi a),(10,.func (.func 112) #[] #[vp (pa b)]),(11,vi R),(25,.bool (a !=1))] ?_
   by_cases c10:a=1
   ·have b11:(a !=1)=false:=bne_eq_false_iff_eq.mpr c10
    refine bG [(1,vi j),(3,vi to),(4,vi a),(10,.func (.func 112) #[] #[vp (pa b)]),(11,vi R),(25,vF)] (by rw[b11]) ?_
    refine T_nd 4 [25] [(29,.bool ((Int.tmod R 2)==1))]<|zq<|S_bd 29 (b:=((Int.tmod R 2)==1)) (v:=((a !=1) || ((Int.tmod R 2)==1))) (by simp only[b11,BL]) ?_
    exact hk
   have b11:(a !=1)=true:=bne_iff_ne.mpr c10
   refine bG [(1,vi j),(3,vi to),(4,vi a),(10,.func (.func 112) #[] #[vp (pa b)]),(11,vi R),(25,vT)] (by rw[b11]) ?_
   refine T_nd 4 [25] [(29,vT)]<|zq<|S_bd 29 (b:=true) (v:=((a !=1) || ((Int.tmod R 2)==1))) (by simp only[b11,BL]) ?_
   exact hk
  exact aJ 20 (zZ c8)<|zj 0<|aB<|aB<|aM<|ie (fn:=f72) [] hQ (show dW _ _ _ [] _ from .nil) h
 intro hk
 refine T_n 4 [(1,vi j),(3,vi to),(4,vi a),(10,.func (.func 112) #[] #[vp (pa b)]),(11,vi R),(17,.bool (decide (R<to)))] ?_
 by_cases c6:R<to
 ·have b7:(decide (R<to))=true:=zX c6
  refine bG [(1,vi j),(3,vi to),(4,vi a),(10,.func (.func 112) #[] #[vp (pa b)]),(11,vi R),(17,vT)] (by rw[b7]) ?_
  refine T_nd 3 [17] [(20,.bool (a !=3))]<|zq<|S_bd 20 (b:=(a !=3)) (v:=((decide (R<to)) && (a !=3))) (by simp only[b7,BL]) ?_
  exact hk
 have b7:(decide (R<to))=false:=zQ c6
 refine bG [(1,vi j),(3,vi to),(4,vi a),(10,.func (.func 112) #[] #[vp (pa b)]),(11,vi R),(17,vF)] (by rw[b7]) ?_
 refine T_nd 3 [17] [(20,vF)]<|zq<|S_bd 20 (b:=false) (v:=((decide (R<to)) && (a !=3))) (by simp only[b7,BL]) ?_
 exact hk
end bP
/-! (*moraine/trace.Trace).Weaks.1 -/
namespace bF
def K0:=Func.code f74
def K2:=cb K0
def K3:=ca K2
def K4:=ca K3
end bF
def bF.pt(d f to:Int)(e:zW)(H:zV)(R:zk):Prop:=
 ∃(I5:zv) (m5:Int->zV->Nat),I5 f H/\ ∀i H1,I5 i H1->
 if i<to then(
 ∃a,e=some a/\
 ∃xB xN xC,hat H1 a=some (vs xB xN xC)/\
 ∀b H2,b=H1.size->H2=H1.push (.cells #[vi (zY ((zY (d*64))+i))] 3)->
 fE 1 3 8 [vi 0] xB xN xC (some (ad b)) 1 H2 (λap g H3=>
 (aN H3 a 0 1)/\ ∀H4,H4=aV H3 a [vs ap (xN+1) g] 0->
 (I5 (zY (i+2)) H4/\m5 (zY (i+2)) H4<m5 i H1)))
 else
 R (.tuple #[]) H1
namespace bF
theorem link{to:Int}(h:pt j k to d H i):C j k to d H i:=by
 refine T_en K0 21 func74 ?_
 intro w0 Q hQ
 unfold pt zY at h
 refine T_su [(0,vi j),(1,vi k),(2,vi to),(3,vp d)]<|aA 0<|T_ed 2 [1] [(7,vi k)]<|T_bz 0 ?_
 obtain⟨I5,m5,i1,i2⟩:=h
 refine bR (x:=K4) (σ:=Int) (λs_=> [(0,vi j),(2,vi to),(3,vp d),(7,vi s_)]) (λs_ H=>I5 s_ H) (λs_ H=>m5 s_ H) (k:Int) (by kernel_rfl) i1 sk ?_
 rintro R H1 i3
 have h:=i2 R H1 i3
 refine T_su [(0,vi j),(2,vi to),(3,vp d),(7,vi R)]<|T_sz<|aA 1<|T_ed 3 [] [(11,.bool (decide (R<to)))] ?_
 revert h;refine iO_ (λc4 h=>?_) (λc4 h=>?_)
 ·refine aI 11 (zX c4)<|T_kt<|T_sz<|T_bz 1<|T_rz 3<|T_ud [11] [] ?_
  obtain⟨a,rfl,xB,xN,xC,q6,h⟩:=h
  refine T_ld (some 14) 75 q6 [3] [(3,vq a),(14,vs xB xN xC)]<|T_nd 4 [] [(18,vi (zY ((zY (j*64))+R)))]<|T_nw (some 19) (λb=>vs (pa b) 1 1) (.cells #[vi (zY ((zY (j*64))+R))] 3) ?_
  intro b H2 e7 e8
  replace h:=h b H2 e7 e8
  refine T_pd [18] [(19,vs (pa b) 1 1)]<|N_op (some 20) (fR #[75,75] 75 #[vs xB xN xC,vs (pa b) 1 1]) _ (λ_=>by kernel_rfl) (fu (T:=3) (sz:=1) (bytes:=8) (zero:=(vi 0:Value)) underlying75 underlying75 rfl (show prog.info? 3=some t3 from by kernel_rfl) (by kernel_rfl) (by kernel_rfl) (by decide) (by kernel_rfl) (by first | exact h | (simpa only[Value.cells,List.toList_toArray]using h))) ?_;clear h
  rintro _ H3 ⟨ap,g,rfl,h⟩
  refine T_pd [14,19] [(20,vs ap (xN+1) g)] ?_
  obtain⟨q10,h⟩:=h
  refine jf 75 (vs ap (xN+1) g) q10 ?_
  intro H4 e9
  replace h:=h H4 e9
  exact T_pd [20] []<|zq<|aE<|aD<|T_rz 2<|T_ed 3 [7] [(7,vi (zY (R+2)))]<|aQ ((zY (R+2)):Int) sk h
 exact aJ 11 (zQ c4)<|zj 0<|aB<|aB<|aM<|ie (fn:=f74) [] hQ (show dW _ _ _ [] _ from .nil) h
end bF
/-! (*moraine/trace.Trace).Ended -/
namespace dH
def K0:=Func.code f100
end dH
def dH.pt(tv:zW)(H:zV)(R:zk):Prop:=
 bE.C tv H (λv H1=> ∃x,v=.bool x/\
 R (.bool x) H1)
namespace dH
theorem link(h:pt d H i):C d H i:=by
 refine T_en K0 5 func100 ?_
 intro w0 Q hQ
 unfold pt at h
 refine T_su [(0,vp d)]<|aA 0<|T_ed 1 [] []<|aA 1<|T_n 1 [(3,vp d)]<|T_c (some 4) h ?_;clear h
 rintro v H1 ⟨x,rfl,h⟩
 refine⟨[(4,.bool x)],pk,?_⟩
 exact T_nr 1 [2] [.bool x] hQ h
end dH
/-! (*moraine/trace.Trace).Put -/
namespace eI
def K0:=Func.code f102
def K2:=cb K0
def K4:=cb K2
def K11:=ca K4
end eI
def eI.pt(tv:zW)(d b:Int)(H:zV)(R:zk):Prop:=
 bE.C tv H (λv H1=> ∃x,v=.bool x/\
 if x=true then(
 R (vu 20) H1)
 else
 ∃a,tv=some a/\
 ∃ae,hat H1 a=some (vp ae)/\
 ∃e,ae=some e/\
 ∃ah,hat H1 e=some (vp ah)/\
 ∃f,ah=some f/\
 ∃g,hat H1 f=some (vp g)/\
 ∃n,hat H1 (a.add 1)=some (vi n)/\
 bU.C g n 0 2 H1 (λai H2=> ∃ra rb,ai=.tuple #[vi ra,vi rb]/\
 if rb=0 then(
 ∃z,hat H2 a=some (vp z)/\
 ∃ab,z=some ab/\
 ∃t,hat H2 ab=some (vp t)/\
 ∃u,t=some u/\
 ∃y,hat H2 u=some (vp y)/\
 ∃aa,y=some aa/\
 ∃s,hat H2 aa=some (vp s)/\
 bM.C s ra d H2 (λaj H3=> ∃af,aj=vi af/\
 ∃r,hat H3 a=some (vp r)/\
 ∃o,r=some o/\
 ∃p,hat H3 o=some (vp p)/\
 ∃k,p=some k/\
 ∃m,hat H3 k=some (vp m)/\
 ∃q,m=some q/\
 ∃j,hat H3 q=some (vp j)/\
 bM.C j (zY (ra+1)) b H3 (λal H4=> ∃ag,al=vi ag/\
 il.C 1 ra H4 (λak H5=> ∃i ac,ak=.tuple #[vu i,vi ac]/\
 R (vu i) H5))))
 else
 R (vu 20) H2))
namespace eI
theorem link(h:pt d j k H i):C d j k H i:=by
 refine T_en K0 72 func102 ?_
 intro w0 Q hQ
 unfold pt zY at h
 refine T_su [(0,vp d),(1,vu j),(2,vu k)]<|aA 0<|T_ed 1 [] []<|T_sz<|aA 1<|T_nd 1 [] [(11,vp d)]<|T_c (some 12) h ?_;clear h
 rintro v H1 ⟨x,rfl,h⟩
 refine T_pd [11] [(12,.bool x)]<|T_e ?_
 revert h;refine iO_ (λc1 h=>?_) (λc1 h=>?_)
 ·exact aI 12 c1<|aA 2<|T_nr 1 [6] [vu 20] hQ h
 refine aJ 12 (zZ c1)<|T_kt<|T_sz ?_
 obtain⟨a,rfl,ae,q3,e,rfl,ah,q4,f,rfl,g,q5,n,q6,h⟩:=h
 refine yY 3 (Code.ops K11) [(14,a,[vq e]),(14,e,[vq f]),(14,f,[vp g]),(14,(a.add 1),[vi n])] 20 (bv 20 0) (show aH _ _ _ from⟨⟨q3,trivial⟩,⟨q4,trivial⟩,⟨q5,trivial⟩,⟨q6,trivial⟩,trivial⟩)<|T_gp 0 (some 14) (vq a) (bv 20 1) [(0,vq a),(1,vu j),(2,vu k),(14,vq a)]<|aF 1 15 (vq a) (bv 20 3) [14]<|aF 2 16 (vq a) (bv 20 7) [15]<|T_g1 3 17 (vq e) (bv 20 15) [16] (aR 23 (vq a)) (yW 14 yZ)<|aF 4 18 (vq e) (bv 20 31) [17]<|aF 5 19 (vq e) (bv 20 63) [18]<|T_g1 6 20 (vq f) (bv 20 127) [19] (aR 49 (vq e)) (yW 14 yX)<|aF 7 21 (vq f) (bv 20 255) [20]<|aF 8 22 (vq f) (bv 20 511) [21]<|T_g1 9 23 (vp g) (bv 20 1023) [22] (aR 52 (vq f)) (yW 14 yQ)<|aF 10 24 (vq a) (bv 20 2047) []<|aF 11 25 (vq a) (bv 20 4095) [24]<|aF 12 26 (vq (a.add 1)) (bv 20 8191) [25]<|T_g1 13 27 (vi n) (bv 20 16383) [26] (aR 3 (vq (a.add 1))) (yW 14 yJ)<|yq 14 (some 28) (bv 20 32767) 53 #[vp g,vi n,vi 0,vi 2] h ?_;clear h
 rintro ai H2 ⟨ra,rb,rfl,h⟩
 refine⟨[(0,vq a),(1,vu j),(2,vu k),(28,.tuple #[vi ra,vi rb])],pk,(show aH _ _ _ from⟨trivial,trivial,trivial,trivial,trivial⟩),?_⟩
 refine T_g 15 (some 13) (.tuple #[vi ra,vi rb]) (bv 20 65535) [(0,vq a),(1,vu j),(2,vu k),(13,.tuple #[vi ra,vi rb])] (pure (.value (.tuple #[vi ra,vi rb])):Sem Next) (λ_ _ _ _ _=>rfl)<|T_g1 16 29 (vi ra) (bv 20 131071) [] (pure (.value (vi ra)):Sem Next) (λ_ _ _ _ _=>rfl)<|T_g1 17 30 (vi rb) (bv 20 262143) [13] (pure (.value (vi rb)):Sem Next) (λ_ _ _ _ _=>rfl)<|T_g1 18 7 (vi ra) (bv 20 524287) [29] (pure (.value (vi ra)):Sem Next) (λ_ _ _ _ _=>rfl)<|T_g1 19 8 (vi rb) (bv 20 1048575) [30] (pure (.value (vi rb)):Sem Next) (λ_ _ _ _ _=>rfl)<|fQ [(0,vq a),(1,vu j),(2,vu k),(7,vi ra),(8,vi rb)] sk<|yx<|aD<|T_sz<|aA 4<|T_ne 2 [(0,vq a),(1,vu j),(2,vu k),(7,vi ra),(32,.bool (rb !=0))] ?_
 revert h;refine iO_ (λc7 h=>?_) (λc7 h=>?_)
 ·refine aJ 32 (bne_eq_false_iff_eq.mpr c7)<|T_kt<|aA 6<|T_nd 3 [32] [(35,vq a)] ?_
  obtain⟨z,q9,h⟩:=h
  refine T_l1 36 23 q9 [35] ?_
  obtain⟨ab,rfl,h⟩:=h
  refine T_nd 2 [36] [(38,vq ab)] ?_
  obtain⟨t,q10,h⟩:=h
  refine T_l1 39 49 q10 [38] ?_
  obtain⟨u,rfl,h⟩:=h
  refine T_nd 2 [39] [(41,vq u)] ?_
  obtain⟨y,q11,h⟩:=h
  refine T_l1 42 52 q11 [41] ?_
  obtain⟨aa,rfl,h⟩:=h
  refine T_nd 2 [42] [(44,vq aa)] ?_
  obtain⟨s,q12,h⟩:=h
  refine T_l1 45 78 q12 [44]<|T_nd 2 [1] [(46,vi ra),(47,vu j)]<|T_c (some 48) h ?_;clear h
  rintro aj H3 ⟨af,rfl,h⟩
  refine T_pd [45,46,47] []<|T_e<|aA 7<|T_nd 3 [0] [(51,vq a)] ?_
  obtain⟨r,q13,h⟩:=h
  refine T_l1 52 23 q13 [51] ?_
  obtain⟨o,rfl,h⟩:=h
  refine T_nd 2 [52] [(54,vq o)] ?_
  obtain⟨p,q14,h⟩:=h
  refine T_l1 55 49 q14 [54] ?_
  obtain⟨tv,rfl,h⟩:=h
  refine T_nd 2 [55] [(57,vq tv)] ?_
  obtain⟨m,q15,h⟩:=h
  refine T_l1 58 52 q15 [57] ?_
  obtain⟨q,rfl,h⟩:=h
  refine T_nd 2 [58] [(60,vq q)] ?_
  obtain⟨b,q16,h⟩:=h
  refine T_l1 61 78 q16 [60]<|T_nd 3 [2] [(63,vi (zY (ra+1))),(64,vu k)]<|T_c (some 65) h ?_;clear h
  rintro al H4 ⟨ag,rfl,h⟩
  refine⟨[(7,vi ra)],pk,?_⟩
  refine T_e<|aA 8<|T_n 1 [(67,vi ra)]<|T_c (some 68) h ?_;clear h
  rintro ak H5 ⟨R,ac,rfl,h⟩
  refine⟨[(68,.tuple #[vu R,vi ac])],pk,?_⟩
  exact T_ne 5 [(9,vu R)]<|aA 9<|T_nr 2 [6] [vu R] hQ h
 exact aI 32 (bne_iff_ne.mpr c7)<|aA 5<|T_nr 1 [6] [vu 20] hQ h
end eI
/-! (*moraine/trace.Trace).look.1 -/
namespace cQ
def K0:=Func.code f112
def K2:=cb K0
end cQ
def cQ.pt(b:Int)(n:zW)(H:zV)(R:zk):Prop:=
 ∃a,n=some a/\
 ∃x,hat H a=some (vp x)/\
 ∃xA,x=some xA/\
 ∃o,hat H xA=some (vp o)/\
 ∃p,o=some p/\
 ∃t,hat H p=some (vp t)/\
 ∃q,t=some q/\
 ∃r,hat H q=some (vp r)/\
 ∃s,r=some s/\
 ∃k,hat H s=some (vp k)/\
 bL.C k b H (λv H1=> ∃ra rb,v=.tuple #[vu ra,vi rb]/\
 ∃aa,hat H1 a=some (vp aa)/\
 ∃g,aa=some g/\
 ∃y,hat H1 g=some (vp y)/\
 ∃e,y=some e/\
 ∃z,hat H1 e=some (vp z)/\
 ∃f,z=some f/\
 ∃ab,hat H1 f=some (vp ab)/\
 ∃i,ab=some i/\
 ∃d,hat H1 i=some (vp d)/\
 ∃j,hat H1 a=some (vp j)/\
 aT.C j ra H1 (λac H2=> ∃m,ac=vu m/\aP H2 a 0 [vq g]/\aP H2 g 0 [vq e]/\aP H2 e 0 [vq f]/\aP H2 f 0 [vq i]/\aP H2 i 0 [vp d]/\
 bM.C d b m H2 (λae H3=> ∃u,ae=vi u/\
 R (.tuple #[]) H3)))
namespace cQ
theorem link(h:pt j d H i):C j d H i:=by
 refine T_en K0 41 func112 ?_
 intro w0 Q hQ
 unfold pt at h
 refine T_su [(0,vi j),(1,vp d)]<|aA 0 ?_
 obtain⟨a,rfl,x,q1,h⟩:=h
 refine T_ld (some 6) 37 q1 [1] [(1,vq a),(6,vp x)] ?_
 obtain⟨xA,rfl,h⟩:=h
 refine T_nd 2 [6] [(8,vq xA)] ?_
 obtain⟨o,q2,h⟩:=h
 refine T_l1 9 23 q2 [8] ?_
 obtain⟨p,rfl,h⟩:=h
 refine T_nd 2 [9] [(11,vq p)] ?_
 obtain⟨t,q3,h⟩:=h
 refine T_l1 12 49 q3 [11] ?_
 obtain⟨q,rfl,h⟩:=h
 refine T_nd 2 [12] [(14,vq q)] ?_
 obtain⟨r,q4,h⟩:=h
 refine T_l1 15 52 q4 [14] ?_
 obtain⟨s,rfl,h⟩:=h
 refine T_nd 2 [15] [(17,vq s)] ?_
 obtain⟨k,q5,h⟩:=h
 refine T_l1 18 78 q5 [17]<|T_nd 1 [] [(19,vi j)]<|T_c (some 20) h ?_;clear h
 rintro v H1 ⟨ra,rb,rfl,h⟩
 refine T_pd [18,19] [(20,.tuple #[vu ra,vi rb])]<|T_ed 5 [20] [(3,vu ra)] ?_
 obtain⟨aa,q6,g,rfl,y,q7,e,rfl,z,q8,f,rfl,ab,q9,n,rfl,R,q10,b,q11,h⟩:=h
 refine yY 1 (Code.ops K2) [(17,a,[vq g]),(17,g,[vq e]),(17,e,[vq f]),(17,f,[vq n]),(17,n,[vp R]),(16,a,[vp b])] 18 (bv 18 0) (show aH _ _ _ from⟨⟨q6,trivial⟩,⟨q7,trivial⟩,⟨q8,trivial⟩,⟨q9,trivial⟩,⟨q10,trivial⟩,⟨q11,trivial⟩,trivial⟩)<|T_g 0 (some 23) (vq g) (bv 18 1) [(0,vi j),(1,vq a),(3,vu ra),(23,vq g)] (aR 37 (vq a)) (yW 17 yZ)<|aF 1 24 (vq g) (bv 18 3) [23]<|aF 2 25 (vq g) (bv 18 7) [24]<|T_g1 3 26 (vq e) (bv 18 15) [25] (aR 23 (vq g)) (yW 17 yX)<|aF 4 27 (vq e) (bv 18 31) [26]<|aF 5 28 (vq e) (bv 18 63) [27]<|T_g1 6 29 (vq f) (bv 18 127) [28] (aR 49 (vq e)) (yW 17 yQ)<|aF 7 30 (vq f) (bv 18 255) [29]<|aF 8 31 (vq f) (bv 18 511) [30]<|T_g1 9 32 (vq n) (bv 18 1023) [31] (aR 52 (vq f)) (yW 17 yJ)<|aF 10 33 (vq n) (bv 18 2047) [32]<|aF 11 34 (vq n) (bv 18 4095) [33]<|T_g1 12 35 (vp R) (bv 18 8191) [34] (aR 78 (vq n)) (yW 17 yK)<|aF 13 36 (vi j) (bv 18 16383) [0]<|T_g1 14 37 (vp b) (bv 18 32767) [1] (aR 37 (vq a)) (yW 16 yV)<|aF 15 38 (vu ra) (bv 18 65535) [3]<|yq 16 (some 39) (bv 18 131071) 13 #[vp b,vu ra] h ?_;clear h
 rintro ac H2 ⟨m,rfl,f12,f13,f14,f15,f16,h⟩
 refine⟨[(35,vp R),(36,vi j),(39,vu m)],pk,(show aH _ _ _ from⟨f12,f13,f14,f15,f16,trivial,trivial⟩),?_⟩
 refine yq 17 (some 40) (bv 18 262143) 54 #[vp R,vi j,vu m] h ?_;clear h
 rintro ae H3 ⟨u,rfl,h⟩
 refine⟨[],pk,(show aH _ _ _ from⟨trivial,trivial,trivial,trivial,trivial,trivial,trivial⟩),?_⟩
 refine fQ [] sk ?_
 exact yx<|ie (fn:=f112) [] hQ (show dW _ _ _ [] _ from .nil) h
end cQ
variable{d:zk}{i k:Int}{H:zV}{j:zW}
/-! (*moraine/seg.Mem).Read -/
namespace bL
def K0:=Func.code f33
end bL
def bL.pt(m:zW)(a:Int)(H:zV)(R:zk):Prop:=
 fH.C m a H (λv H1=> ∃x,v=vp x/\
 gM x (
 R (.tuple #[vu 0,vi 18]) H1) (λxA=>
 ∃b,hat H1 xA=some (vu b)/\
 R (.tuple #[vu b,vi 0]) H1))
namespace bL
theorem link(h:pt j i H d):C j i H d:=by
 refine T_en K0 15 func33 ?_
 intro w0 Q hQ
 unfold pt at h
 refine T_su [(0,vp j),(1,vi i)]<|aA 0<|T_ed 2 [] []<|T_sz<|aA 1<|T_n 2 [(7,vp j),(8,vi i)]<|T_c (some 9) h ?_;clear h
 rintro v H1 ⟨x,rfl,h⟩
 refine⟨[(9,vp x)],pk,?_⟩
 refine T_ne 1 [(6,vp x)]<|aA 2<|T_nd 1 [] [(10,vp x)] ?_
 rcases x with _ | xA
 ·rw[onPtr_none]at h
  exact T_ne 1 [(6,vp none),(11,vF)]<|T_fz 11<|T_kt<|aA 4<|T_nr 2 [4,5] [vu 0,vi 18] hQ h
 rw[onPtr_some]at h
 refine T_ne 1 [(6,vq xA),(11,vT)]<|T_tz 11<|aA 3<|T_n 2 [(13,vq xA)] ?_
 obtain⟨b,q1,h⟩:=h
 exact T_l1 14 28 q1 [13]<|T_nr 2 [4,5] [vu b,vi 0] hQ h
end bL
/-! (*moraine/seg.Mem).Seg -/
namespace bB
def K0:=Func.code f47
end bB
def bB.pt(m:zW)(y:Int)(H:zV)(R:zk):Prop:=
 ∀b H1,b=H.size->H1=H.push (.cells #[vi 0,vi 0,vi 0,vi 0,vi 0,vi 0,vi 0] 108)->
 fB.C m y H1 (λv H2=> ∃x,v=vp x/\
 gM x (
 (aN H2 (ad b) 0 7)/\ ∀H3,H3=aV H2 (ad b) [vi 0,vi 0,vi 0,vi 0,vi 0,vi 0,vi 0] 0->
 ∃aa z rN r p o q,aP H3 (ad b) 0 [vi aa,vi z,vi rN,vi r,vi p,vi o,vi q]/\
 R (.tuple #[.agg #[vi aa,vi z,vi rN,vi r,vi p,vi o,vi q],vF]) H3) (λxA=>
 ∃s n xN d f e a,aP H2 xA 0 [vi s,vi n,vi xN,vi d,vi f,vi e,vi a]/\
 (aN H2 (ad b) 0 7)/\ ∀H4,H4=aV H2 (ad b) [vi s,vi n,vi xN,vi d,vi f,vi e,vi a] 0->
 ∃u t ab j i g k,aP H4 (ad b) 0 [vi u,vi t,vi ab,vi j,vi i,vi g,vi k]/\
 R (.tuple #[.agg #[vi u,vi t,vi ab,vi j,vi i,vi g,vi k],vT]) H4))
namespace bB
theorem link(h:pt j i H d):C j i H d:=by
 refine T_en K0 17 func47 ?_
 intro w0 Q hQ
 unfold pt at h
 refine T_su [(0,vp j),(1,vi i)]<|aA 0<|T_nw (some 4) (λb=>vp (pa b)) (.cells #[vi 0,vi 0,vi 0,vi 0,vi 0,vi 0,vi 0] 108) ?_
 intro b H1 e1 e2
 replace h:=h b H1 e1 e2
 refine T_pd [] [(4,vp (pa b))]<|T_ed 1 [] []<|aA 1<|T_nd 2 [0,1] [(7,vp j),(8,vi i)]<|T_c (some 9) h ?_;clear h
 rintro v H2 ⟨x,rfl,h⟩
 refine T_pd [7,8] [(9,vp x)]<|T_ed 1 [9] [(6,vp x)]<|T_sz<|aA 2<|T_nd 1 [] [(10,vp x)] ?_
 rcases x with _ | xA
 ·rw[onPtr_none]at h
  refine T_ed 1 [6,10] [(6,vp none),(11,vT)]<|T_tz 11<|aA 3<|T_nd 1 [6,11] [(12,.agg #[vi 0,vi 0,vi 0,vi 0,vi 0,vi 0,vi 0])] ?_
  obtain⟨q4,h⟩:=h
  refine fL 108 [vi 0,vi 0,vi 0,vi 0,vi 0,vi 0,vi 0] q4 ?_
  intro H3 e3
  replace h:=h H3 e3
  refine T_pd [12] []<|T_ed 1 [] [(5,vF)]<|zx ?_
  show At _ _ _ _ _ (Q .ret)
  obtain⟨aa,z,rN,r,p,o,q,q5,h⟩:=h
  exact iS (fn:=f47) [.agg #[vi aa,vi z,vi rN,vi r,vi p,vi o,vi q],vF] hQ (show dW _ _ _ [.cell 4 108,.tmp 5] _ from .cell (by kernel_rfl) (eL (λ_=>by kernel_rfl) (λ_=>by kernel_rfl) q5) (.tmp (by kernel_rfl) (.nil))) h
 rw[onPtr_some]at h
 refine T_ed 1 [6,10] [(6,vq xA),(11,vF)]<|T_fz 11<|T_kt<|aA 4<|T_nd 3 [6,11] [(15,vq xA)] ?_
 obtain⟨s,n,xN,R,f,e,a,q6,h⟩:=h
 refine T_lr 16 108 q6 [15] ?_
 obtain⟨q8,h⟩:=h
 refine fL 108 [vi s,vi n,vi xN,vi R,vi f,vi e,vi a] q8 ?_
 intro H4 e7
 replace h:=h H4 e7
 refine T_pd [16] []<|T_ed 1 [] [(5,vT)]<|zx ?_
 show At _ _ _ _ _ (Q .ret)
 obtain⟨u,t,ab,m,y,g,k,q9,h⟩:=h
 exact iS (fn:=f47) [.agg #[vi u,vi t,vi ab,vi m,vi y,vi g,vi k],vT] hQ (show dW _ _ _ [.cell 4 108,.tmp 5] _ from .cell (by kernel_rfl) (eL (λ_=>by kernel_rfl) (λ_=>by kernel_rfl) q9) (.tmp (by kernel_rfl) (.nil))) h
end bB
/-! (*moraine/seg.Mem).Write -/
namespace bM
def K0:=Func.code f54
end bM
def bM.pt(m:zW)(a wv:Int)(H:zV)(R:zk):Prop:=
 fH.C m a H (λv H1=> ∃x,v=vp x/\
 gM x (
 R (vi 18) H1) (λxA=>
 (aN H1 xA 0 1)/\ ∀H2,H2=aV H1 xA [vu wv] 0->
 R (vi 0) H2))
namespace bM
theorem link(h:pt j i k H d):C j i k H d:=by
 refine T_en K0 16 func54 ?_
 intro w0 Q hQ
 unfold pt at h
 refine T_su [(0,vp j),(1,vi i),(2,vu k)]<|aA 0<|T_ed 1 [] []<|aA 1<|T_nd 2 [0,1] [(8,vp j),(9,vi i)]<|T_c (some 10) h ?_;clear h
 rintro v H1 ⟨x,rfl,h⟩
 refine T_pd [8,9] [(10,vp x)]<|T_ed 1 [10] [(7,vp x)]<|T_sz<|aA 2<|T_nd 1 [] [(11,vp x)] ?_
 rcases x with _ | xA
 ·rw[onPtr_none]at h
  exact T_ed 1 [7,11] [(7,vp none),(12,vT)]<|T_tz 12<|aA 3<|T_nr 1 [6] [vi 18] hQ h
 rw[onPtr_some]at h
 refine T_ed 1 [7,11] [(7,vq xA),(12,vF)]<|T_fz 12<|T_kt<|aA 4<|T_n 3 [(14,vu k),(15,vq xA)] ?_
 obtain⟨q2,h⟩:=h
 refine jf 28 (vu k) q2 ?_
 intro H2 e1
 replace h:=h H2 e1
 refine⟨[],pk,?_⟩
 exact T_e<|aA 5<|T_nr 1 [6] [vi 0] hQ h
end bM
/-! (*moraine/seg.Mem).word -/
namespace fH
def K0:=Func.code f75
end fH
def fH.pt(m:zW)(b:Int)(H:zV)(R:zk):Prop:=
 if b<0 then(
 R (vp none) H)
 else
 fB.C m (zY (Int.tdiv b 64)) H (λv H1=> ∃x,v=vp x/\
 gM x (
 R (vp none) H1) (λxA=>
 ∃d,hat H1 (xA.add 2)=some (vi d)/\
 if(Int.tmod b 64)>=d then(
 R (vp none) H1)
 else
 ((0:Int)<=(Int.tmod b 64)/\(Int.tmod b 64)< (64:Int))/\
 R (vq ((xA.add 8).add (Int.toNat (Int.tmod b 64)*1))) H1))
namespace fH
theorem link(h:pt j i H d):C j i H d:=by
 refine T_en K0 30 func75 ?_
 intro w0 Q hQ
 unfold pt zY at h
 refine T_su [(0,vp j),(1,vi i)]<|aA 0<|T_ed 1 [] []<|T_sz<|aA 1<|T_ed 2 [] [(7,.bool (decide (i<0)))] ?_
 revert h;refine iO_ (λc1 h=>?_) (λc1 h=>?_)
 ·exact aI 7 (zX c1)<|aA 2<|T_nr 1 [4] [vp none] hQ h
 refine aJ 7 (zQ c1)<|T_kt<|aA 3<|T_nd 3 [0,7] [(8,vp j),(10,vi (zY (Int.tdiv i 64)))]<|T_c (some 11) h ?_;clear h
 rintro v H1 ⟨x,rfl,h⟩
 refine T_pd [8,10] [(11,vp x)]<|T_ed 1 [11] [(5,vp x)]<|T_sz<|aA 4<|T_nd 1 [] [(12,vp x)] ?_
 rcases x with _ | xA
 ·rw[onPtr_none]at h
  exact T_ed 11 [5,12] [(5,vp none),(23,vT)]<|T_tz 23<|aA 5<|T_nr 1 [4] [vp none] hQ h
 rw[onPtr_some]at h
 refine T_nd 8 [5,12] [(5,vq xA),(14,vF),(16,vi (Int.tmod i 64)),(20,vq (xA.add 2))] ?_
 obtain⟨R,q3,h⟩:=h
 refine T_l1 21 3 q3 [20]<|T_ed 2 [14,16,21] [(23,.bool (decide ((Int.tmod i 64)>=R)))] ?_
 revert h;refine iO_ (λc4 h=>?_) (λc4 h=>?_)
 ·exact aI 23 (zX c4)<|aA 5<|T_nr 1 [4] [vp none] hQ h
 refine aJ 23 (zQ c4)<|T_kt<|aA 6<|T_n 5 [(26,vi (Int.tmod i 64)),(28,vq (xA.add 8))] ?_
 obtain⟨q6,h⟩:=h
 exact T_v1 29 (bA 159 (vq (xA.add 8)) (vi (Int.tmod i 64))) (vq ((xA.add 8).add (Int.toNat (Int.tmod i 64)*1))) (λw _=>bK (P:=prog) (t:=159) (elem:=28) (sz:=1) (n:=64) (a:=(xA.add 8)) (k:=.i64) (i:=(Int.tmod i 64)) underlying159 (λ_=>by kernel_rfl) q6.1 q6.2 w) [26,28]<|T_nr 1 [4] [vq ((xA.add 8).add (Int.toNat (Int.tmod i 64)*1))] hQ h
end fH
/-! (*moraine/seg.Mem).at -/
namespace fB
def K0:=Func.code f91
end fB
def fB.pt(m:zW)(b:Int)(H:zV)(R:zk):Prop:=
 gM m (
 R (vp none) H) (λmA=>
 if b<0 then(
 R (vp none) H)
 else
 ∃xB xN xC,hat H mA=some (vs xB xN xC)/\
 if b>=(xN:Int)then(
 R (vp none) H)
 else
 ∃p f j,hat H mA=some (vs p f j)/\
 ∃e,p=some e/\
 zw b f/\
 ∃x,hat H ((e.add (Int.toNat b*72)).add 7)=some (vi x)/\
 if x=0 then(
 R (vp none) H)
 else
 ∃o g n,hat H mA=some (vs o g n)/\
 ∃d,o=some d/\
 zw b g/\
 R (vq (d.add (Int.toNat b*72))) H)
namespace fB
theorem link(h:pt j i H d):C j i H d:=by
 refine T_en K0 37 func91 ?_
 intro w0 Q hQ
 unfold pt at h
 refine T_su [(0,vp j),(1,vi i)]<|aA 0<|T_ed 1 [] []<|T_sz<|aA 1<|T_nd 1 [] [(5,vp j)] ?_
 rcases j with _ | mA
 ·rw[onPtr_none]at h
  exact T_ed 25 [0,5] [(0,vp none),(30,vT)]<|T_tz 30<|aA 2<|T_nr 1 [4] [vp none] hQ h
 rw[onPtr_some]at h
 refine T_nd 6 [0,5] [(0,vq mA),(11,.bool (decide (i<0)))] ?_
 revert h;refine iO_ (λc1 h=>?_) (λc1 h=>?_)
 ·exact N_bd 11 (zX c1)<|T_ed 19 [11] [(30,vT)]<|T_tz 30<|aA 2<|T_nr 1 [4] [vp none] hQ h
 refine N_bd 11 (zQ c1)<|T_nd 4 [] [(12,vi i),(15,vq mA)] ?_
 obtain⟨xB,xN,xC,q3,h⟩:=h
 refine T_l1 16 155 q3 [15]<|T_nd 4 [11,12,16] [(20,.bool (decide (i>=(xN:Int))))] ?_
 revert h;refine iO_ (λc4 h=>?_) (λc4 h=>?_)
 ·exact N_bd 20 (zX c4)<|T_ed 10 [20] [(30,vT)]<|T_tz 30<|aA 2<|T_nr 1 [4] [vp none] hQ h
 refine N_bd 20 (zQ c4)<|T_nd 3 [] [(23,vq mA)] ?_
 obtain⟨p,f,b,q6,h⟩:=h
 refine T_l1 24 155 q6 [23]<|T_nd 1 [] [(25,vi i)] ?_
 obtain⟨e,rfl,q7,h⟩:=h
 refine T_xd (some 26) 155 161 72 e f b .i64 i underlying155 q7.1 q7.2 [24,25] [(26,vq (e.add (Int.toNat i*72)))]<|T_nd 1 [26] [(27,vq ((e.add (Int.toNat i*72)).add 7))] ?_
 obtain⟨x,q8,h⟩:=h
 refine T_l1 28 3 q8 [27]<|T_ed 2 [20,28] [(30,.bool (x==0))] ?_
 revert h;refine iO_ (λc9 h=>?_) (λc9 h=>?_)
 ·exact aI 30 (zK c9)<|aA 2<|T_nr 1 [4] [vp none] hQ h
 refine aJ 30 (zJ c9)<|T_kt<|aA 3<|T_nd 3 [0,30] [(33,vq mA)] ?_
 obtain⟨o,g,n,q11,h⟩:=h
 refine T_l1 34 155 q11 [33]<|T_nd 1 [1] [(35,vi i)] ?_
 obtain⟨R,rfl,q12,h⟩:=h
 exact T_ix (some 36) 155 161 72 R g n .i64 i underlying155 q12.1 q12.2 [(36,vq (R.add (Int.toNat i*72)))]<|T_nr 1 [4] [vq (R.add (Int.toNat i*72))] hQ h
end fB
/-! (*moraine/seg.Mem).Bump -/
namespace fI
def K0:=Func.code f98
end fI
def fI.pt(m:zW)(a nv:Int)(H:zV)(R:zk):Prop:=
 fB.C m a H (λv H1=> ∃x,v=vp x/\
 gM x (
 R (.tuple #[vi 0,vi 19]) H1) (λxA=>
 if nv<1 then(
 R (.tuple #[vi 0,vi 1]) H1)
 else
 ∃b,hat H1 (xA.add 2)=some (vi b)/\
 if nv>(zY (64-b))then(
 R (.tuple #[vi 0,vi 2]) H1)
 else
 ∃d,hat H1 (xA.add 2)=some (vi d)/\
 (aN H1 (xA.add 2) 0 1)/\ ∀H2,H2=aV H1 (xA.add 2) [vi (zY (d+nv))] 0->
 ∃e,hat H2 (xA.add 2)=some (vi e)/\
 R (.tuple #[vi (zY ((zY ((zY (a*64))+e))-nv)),vi 0]) H2))
namespace fI
theorem link(h:pt j i k H d):C j i k H d:=by
 refine T_en K0 47 func98 ?_
 intro w0 Q hQ
 unfold pt zY at h
 refine T_su [(0,vp j),(1,vi i),(2,vi k)]<|aA 0<|T_ed 2 [] []<|aA 1<|T_nd 2 [0] [(9,vp j),(10,vi i)]<|T_c (some 11) h ?_;clear h
 rintro v H1 ⟨x,rfl,h⟩
 refine T_pd [9,10] [(11,vp x)]<|T_ed 1 [11] [(8,vp x)]<|T_sz<|T_bz 0<|aA 2<|T_nd 1 [] [(13,vp x)] ?_
 rcases x with _ | xA
 ·rw[onPtr_none]at h
  exact T_ed 2 [8,13] [(8,vp none),(12,vT)]<|T_tz 12<|aA 3<|T_nr 2 [6,7] [vi 0,vi 19] hQ h
 rw[onPtr_some]at h
 refine T_ed 2 [8,13] [(8,vq xA),(12,vF)]<|T_fz 12<|aA 4<|T_ed 3 [12] [(15,.bool (decide (k<1)))] ?_
 revert h;refine iO_ (λc1 h=>?_) (λc1 h=>?_)
 ·exact aI 15 (zX c1)<|aA 5<|T_nr 2 [6,7] [vi 0,vi 1] hQ h
 refine aJ 15 (zQ c1)<|aA 6<|T_nd 5 [15] [(19,vi k),(23,vq (xA.add 2))] ?_
 obtain⟨b,q3,h⟩:=h
 refine T_l1 24 3 q3 [23]<|T_ed 3 [19,24] [(18,.bool (decide (k>(zY (64-b)))))] ?_
 revert h;refine iO_ (λc4 h=>?_) (λc4 h=>?_)
 ·exact aI 18 (zX c4)<|aA 7<|T_nr 2 [6,7] [vi 0,vi 2] hQ h
 refine aJ 18 (zQ c4)<|T_k<|aE<|aD<|aA 8<|T_nd 4 [18] [(27,vq xA),(30,vq (xA.add 2))] ?_
 obtain⟨R,q6,h⟩:=h
 refine T_l1 31 3 q6 [30]<|T_nd 5 [27,31] [(33,vi (zY (R+k))),(36,vq (xA.add 2))] ?_
 obtain⟨q8,h⟩:=h
 refine jf 3 (vi (zY (R+k))) q8 ?_
 intro H2 e7
 replace h:=h H2 e7
 refine T_pd [33,36] []<|T_e<|aA 9<|T_nd 6 [1,8] [(38,vi (zY (i*64))),(42,vq (xA.add 2))] ?_
 obtain⟨e,q9,h⟩:=h
 exact T_l1 43 3 q9 [42]<|T_nr 5 [6,7] [vi (zY ((zY ((zY (i*64))+e))-k)),vi 0] hQ h
end fI
/-! (*moraine/seg.Mem).Take -/
namespace fY
def K0:=Func.code f99
def K2:=cb K0
def K4:=cb K2
def K19:=cb K4
def K20:=ca K19
def K21:=cb K19
def K22:=ca K20
def K23:=ca K22
def K32:=cb K21
def K34:=cb K32
def K35:=ca K34
end fY
def fY.pt(m:zW)(d b:Int)(H:zV)(R:zk):Prop:=
 gM m (
 R (.tuple #[vi 0,vi 1]) H) (λmA=>
 if d<0 then(
 R (.tuple #[vi 0,vi 1]) H)
 else
 if d>4 then(
 R (.tuple #[vi 0,vi 1]) H)
 else
 if b<0 then(
 R (.tuple #[vi 0,vi 1]) H)
 else
 if b>3 then(
 R (.tuple #[vi 0,vi 1]) H)
 else
 ∃xB xN xC,hat H mA=some (vs xB xN xC)/\
 if(xN:Int)=0 then(
 R (.tuple #[vi 0,vi 1]) H)
 else
 ∃x,hat H (mA.add 2)=some (vi x)/\
 if x=0 then(
 R (.tuple #[vi 0,vi 2]) H)
 else
 ∃(y:zv) (m24:Int->zV->Nat),y 0 H/\ ∀k H1,y k H1->
 ∃u o p,hat H1 mA=some (vs u o p)/\
 ∃n,u=some n/\
 zw k o/\
 ∃q,hat H1 ((n.add (Int.toNat k*72)).add 7)=some (vi q)/\
 if q>0 then(
 (y (zY (k+1)) H1/\m24 (zY (k+1)) H1<m24 k H1))
 else
 ∃s,hat H1 (mA.add 1)=some (vi s)/\
 (aN H1 (mA.add 1) 0 1)/\ ∀H2,H2=aV H1 (mA.add 1) [vi (zY (s+1))] 0->
 ∃r,hat H2 (mA.add 2)=some (vi r)/\
 (aN H2 (mA.add 2) 0 1)/\ ∀H3,H3=aV H2 (mA.add 2) [vi (zY (r-1))] 0->
 ∃z f g,hat H3 mA=some (vs z f g)/\
 ∃j,hat H3 (mA.add 1)=some (vi j)/\
 ∃e,z=some e/\
 zw k f/\
 (aN H3 (e.add (Int.toNat k*72)) 0 72)/\ ∀H4,H4=aV H3 (e.add (Int.toNat k*72)) ([vi d,vi b,vi 0,vi 5,vi 5,vi 5,vi 5,vi j]++List.replicate 64 (vu 0):List Value) 0->
 R (.tuple #[vi k,vi 0]) H4)
namespace fY
theorem link{H:zV}(h:pt j i k H d):C j i k H d:=by
 refine T_en K0 83 func99 ?_
 intro w0 Q hQ
 unfold pt zY at h
 refine T_su [(0,vp j),(1,vi i),(2,vi k)]<|aA 0<|T_ed 2 [] []<|T_sz<|T_bz 0<|aA 1<|T_nd 1 [] [(10,vp j)] ?_
 rcases j with _ | mA
 ·rw[onPtr_none]at h
  exact T_ed 26 [0,10] [(0,vp none),(9,vT)]<|T_tz 9<|aA 2<|T_nr 2 [6,7] [vi 0,vi 1] hQ h
 rw[onPtr_some]at h
 refine T_nd 6 [0,10] [(0,vq mA),(16,.bool (decide (i<0)))] ?_
 revert h;refine iO_ (λc1 h=>?_) (λc1 h=>?_)
 ·exact N_bd 16 (zX c1)<|T_ed 20 [16] [(9,vT)]<|T_tz 9<|aA 2<|T_nr 2 [6,7] [vi 0,vi 1] hQ h
 refine N_bd 16 (zQ c1)<|T_nd 4 [16] [(20,.bool (decide (i>4)))] ?_
 revert h;refine iO_ (λc3 h=>?_) (λc3 h=>?_)
 ·exact N_bd 20 (zX c3)<|T_ed 16 [20] [(9,vT)]<|T_tz 9<|aA 2<|T_nr 2 [6,7] [vi 0,vi 1] hQ h
 refine N_bd 20 (zQ c3)<|T_nd 4 [20] [(24,.bool (decide (k<0)))] ?_
 revert h;refine iO_ (λc5 h=>?_) (λc5 h=>?_)
 ·exact N_bd 24 (zX c5)<|T_ed 12 [24] [(9,vT)]<|T_tz 9<|aA 2<|T_nr 2 [6,7] [vi 0,vi 1] hQ h
 refine N_bd 24 (zQ c5)<|T_nd 4 [24] [(28,.bool (decide (k>3)))] ?_
 revert h;refine iO_ (λc7 h=>?_) (λc7 h=>?_)
 ·exact N_bd 28 (zX c7)<|T_ed 8 [28] [(9,vT)]<|T_tz 9<|aA 2<|T_nr 2 [6,7] [vi 0,vi 1] hQ h
 refine N_bd 28 (zQ c7)<|T_nd 3 [] [(31,vq mA)] ?_
 obtain⟨xB,xN,xC,q9,h⟩:=h
 refine T_l1 32 155 q9 [31]<|T_ed 4 [28,32] [(9,.bool ((xN:Int)==0))] ?_
 revert h;refine iO_ (λc10 h=>?_) (λc10 h=>?_)
 ·exact aI 9 (zK c10)<|aA 2<|T_nr 2 [6,7] [vi 0,vi 1] hQ h
 refine aJ 9 (zJ c10)<|aA 3<|T_nd 3 [9] [(39,vq (mA.add 2))] ?_
 obtain⟨x,q12,h⟩:=h
 refine T_l1 40 3 q12 [39]<|T_ed 2 [40] [(36,.bool (x==0))] ?_
 revert h;refine iO_ (λc13 h=>?_) (λc13 h=>?_)
 ·exact aI 36 (zK c13)<|aA 4<|T_nr 2 [6,7] [vi 0,vi 2] hQ h
 refine aJ 36 (zJ c13)<|T_k<|aE<|aD<|aA 5<|T_ed 1 [36] [(8,vi 0)]<|T_sz<|T_bz 1 ?_
 obtain⟨y,m24,i15,i16⟩:=h
 refine bR (x:=K23) (σ:=Int) (λs_=> [(0,vq mA),(1,vi i),(2,vi k),(8,vi s_)]) (λs_ H=>y s_ H) (λs_ H=>m24 s_ H) (0:Int) (by kernel_rfl) i15 sk ?_
 rintro m H1 i17
 have h:=i16 m H1 i17
 refine T_su [(0,vq mA),(1,vi i),(2,vi k),(8,vi m)]<|T_sz<|aA 6<|T_nd 3 [] [(44,vq mA)] ?_
 obtain⟨u,o,p,q18,h⟩:=h
 refine T_l1 45 155 q18 [44]<|T_nd 1 [] [(46,vi m)] ?_
 obtain⟨n,rfl,q19,h⟩:=h
 refine T_xd (some 47) 155 161 72 n o p .i64 m underlying155 q19.1 q19.2 [45,46] [(47,vq (n.add (Int.toNat m*72)))]<|T_nd 1 [47] [(48,vq ((n.add (Int.toNat m*72)).add 7))] ?_
 obtain⟨q,q20,h⟩:=h
 refine T_l1 49 3 q20 [48]<|T_ed 1 [49] [(50,.bool (decide (q>0)))] ?_
 revert h;refine iO_ (λc21 h=>?_) (λc21 h=>?_)
 ·exact aI 50 (zX c21)<|T_kt<|T_bz 2<|T_rz 7<|T_nd 3 [8,50] [(8,vi (zY (m+1)))]<|zq<|aE<|aD<|aQ ((zY (m+1)):Int) sk h
 refine aJ 50 (zQ c21)<|zj 1<|aB<|aB<|aM<|aD<|aA 8<|T_nd 3 [50] [(53,vq mA),(55,vq (mA.add 1))] ?_
 obtain⟨s,q23,h⟩:=h
 refine T_l1 56 3 q23 [55]<|T_nd 3 [53,56] [(57,vi (zY (s+1))),(59,vq (mA.add 1))] ?_
 obtain⟨q25,h⟩:=h
 refine jf 3 (vi (zY (s+1))) q25 ?_
 intro H2 e24
 replace h:=h H2 e24
 refine T_pd [57,59] []<|T_e<|aA 9<|T_nd 3 [] [(60,vq mA),(62,vq (mA.add 2))] ?_
 obtain⟨r,q26,h⟩:=h
 refine T_l1 63 3 q26 [62]<|T_nd 3 [60,63] [(64,vi (zY (r-1))),(66,vq (mA.add 2))] ?_
 obtain⟨q28,h⟩:=h
 refine jf 3 (vi (zY (r-1))) q28 ?_
 intro H3 e27
 replace h:=h H3 e27
 refine T_pd [64,66] []<|T_e<|T_sz ?_
 obtain⟨z,f,g,q29,b,q30,e,rfl,q31,h⟩:=h
 refine yY 10 (Code.ops K35) [(15,mA,[vs (some e) f g]),(15,(mA.add 1),[vi b])] 16 (bv 16 0) (show aH _ _ _ from⟨⟨q29,trivial⟩,⟨q30,trivial⟩,trivial⟩)<|T_gp 0 (some 67) (vp (some mA)) (bv 16 1) [(0,vp (some mA)),(1,vi i),(2,vi k),(8,vi m),(67,vp (some mA))]<|aF 1 68 (vp (some mA)) (bv 16 3) [67]<|aF 2 69 (vp (some mA)) (bv 16 7) [68]<|T_g1 3 70 (vs (some e) f g) (bv 16 15) [69] (aR 155 (vp (some mA))) (yW 15 yZ)<|aF 4 71 (vi m) (bv 16 31) []<|aF 5 72 (vi i) (bv 16 63) [1]<|aF 6 73 (vi k) (bv 16 127) [2]<|aF 7 74 (.agg #[vi 5,vi 5,vi 5,vi 5]) (bv 16 255) []<|aF 8 75 (.agg #[vi i,vi k,vi 0,vi 5,vi 5,vi 5,vi 5]) (bv 16 511) [72,73,74]<|aF 9 76 (vp (some mA)) (bv 16 1023) [0]<|aF 10 77 (vp (some mA)) (bv 16 2047) [76]<|aF 11 78 (vp (some (mA.add 1))) (bv 16 4095) [77]<|T_g1 12 79 (vi b) (bv 16 8191) [78] (aR 3 (vp (some (mA.add 1)))) (yW 15 yX)<|aF 13 80 (.agg ([vi i,vi k,vi 0,vi 5,vi 5,vi 5,vi 5,vi b]++List.replicate 64 (vu 0):List Value).toArray) (bv 16 16383) [75,79]<|T_g1 14 81 (vp (some (e.add (Int.toNat m*72)))) (bv 16 32767) [70,71] (bA 155 (vs (some e) f g) (vi m)) (λ_ w _ _ _=>cZ (P:=prog) (t:=155) (elem:=161) (sz:=72) (a:=e) (len:=f) (cap:=g) (k:=.i64) (i:=m) underlying155 (λ_=>by kernel_rfl) q31.1 q31.2 w) ?_
 obtain⟨q33,h⟩:=h
 refine gY 15 none (bv 16 65535) (iR 161 (vq (e.add (Int.toNat m*72))) (.agg ([vi i,vi k,vi 0,vi 5,vi 5,vi 5,vi 5,vi b]++List.replicate 64 (vu 0):List Value).toArray)) (λHz=>Hz=aV H3 (e.add (Int.toNat m*72)) ([vi i,vi k,vi 0,vi 5,vi 5,vi 5,vi 5,vi b]++List.replicate 64 (vu 0):List Value) 0) (by kernel_rfl) (λ_=>by kernel_rfl) (by intro w hw;obtain⟨w1,g1,g2,g3⟩:=iK (P:=prog) (H:=H3) (t:=161) (a:=(e.add (Int.toNat m*72))) (v:=(.agg ([vi i,vi k,vi 0,vi 5,vi 5,vi 5,vi 5,vi b]++List.replicate 64 (vu 0):List Value).toArray)) ([vi i,vi k,vi 0,vi 5,vi 5,vi 5,vi 5,vi b]++List.replicate 64 (vu 0):List Value) 72 (by kernel_rfl) (by kernel_rfl) (λ_=>by kernel_rfl) (by kernel_rfl) q33 w hw;exact⟨w1,g1,g2,g3⟩) (by kernel_rfl) ?_
 intro H4 e32
 replace h:=h H4 e32
 refine⟨[(8,vi m)],pk,(show aH _ _ _ from⟨trivial,trivial,trivial⟩),?_⟩
 refine fQ [(8,vi m)] sk ?_
 exact yx<|aD<|aA 11<|T_nr 3 [6,7] [vi m,vi 0] hQ h
end fY
/-! (*moraine/seg.Mem).Mark -/
namespace fJ
def K0:=Func.code f108
end fJ
def fJ.pt(m:zW)(e b d:Int)(H:zV)(R:zk):Prop:=
 fB.C m e H (λv H1=> ∃x,v=vp x/\
 gM x (
 R (vi 19) H1) (λxA=>
 if((((decide (b<0)) || (decide (b>=4))) || (decide (d<0))) || (decide (d>5)))=true then(
 R (vi 1) H1)
 else
 zw b 4/\
 (aN H1 ((xA.add 3).add (Int.toNat b*1)) 0 1)/\ ∀H2,H2=aV H1 ((xA.add 3).add (Int.toNat b*1)) [vi d] 0->
 R (vi 0) H2))
namespace fJ
theorem link{e b R:Int}(h:pt j e b R H d):C j e b R H d:=by
 refine T_en K0 38 func108 ?_
 intro w0 Q hQ
 unfold pt at h
 refine T_su [(0,vp j),(1,vi e),(2,vi b),(3,vi R)]<|aA 0<|T_ed 1 [] []<|aA 1<|T_nd 2 [0,1] [(10,vp j),(11,vi e)]<|T_c (some 12) h ?_;clear h
 rintro v H1 ⟨x,rfl,h⟩
 refine T_pd [10,11] [(12,vp x)]<|T_ed 1 [12] [(9,vp x)]<|T_sz<|T_bz 0<|aA 2<|T_nd 1 [] [(14,vp x)] ?_
 rcases x with _ | xA
 ·rw[onPtr_none]at h
  exact T_ed 2 [9,14] [(9,vp none),(13,vT)]<|T_tz 13<|aA 3<|T_nr 1 [8] [vi 19] hQ h
 rw[onPtr_some]at h
 refine T_ed 2 [9,14] [(9,vq xA),(13,vF)]<|T_fz 13<|aA 4 ?_
 refine gz [(2,vi b),(3,vi R),(9,vq xA),(16,.bool ((((decide (b<0)) || (decide (b>=4))) || (decide (R<0))) || (decide (R>5))))] ?_ ?_
 ·refine aD ?_
  revert h;refine iO_ (λc7 h=>?_) (λc7 h=>?_)
  ·exact aI 16 c7<|aA 5<|T_nr 1 [8] [vi 1] hQ h
  refine aJ 16 (zZ c7)<|T_k<|aE<|aD<|aA 6<|T_n 6 [(32,vi b),(33,vi R),(36,vq (xA.add 3))] ?_
  obtain⟨q9,h⟩:=h
  refine T_v1 37 (bA 79 (vq (xA.add 3)) (vi b)) (vq ((xA.add 3).add (Int.toNat b*1))) (λw _=>bK (P:=prog) (t:=79) (elem:=3) (sz:=1) (n:=4) (a:=(xA.add 3)) (k:=.i64) (i:=b) underlying79 (λ_=>by kernel_rfl) q9.1 q9.2 w) [32,36] ?_
  obtain⟨q11,h⟩:=h
  refine jf 3 (vi R) q11 ?_
  intro H2 e10
  replace h:=h H2 e10
  refine⟨[],pk,?_⟩
  exact T_e<|aA 7<|T_nr 1 [8] [vi 0] hQ h
 intro hk
 refine T_n 3 [(2,vi b),(3,vi R),(9,vq xA),(19,.bool (decide (b<0)))] ?_
 by_cases c1:b<0
 ·have b2:(decide (b<0))=true:=zX c1
  refine bG [(2,vi b),(3,vi R),(9,vq xA),(19,vT)] (by rw[b2]) ?_
  refine T_nd 12 [19] [(16,vT)]<|zq<|S_bd 16 (b:=true) (v:=((((decide (b<0)) || (decide (b>=4))) || (decide (R<0))) || (decide (R>5)))) (by simp only[b2,BL]) ?_
  exact hk
 have b2:(decide (b<0))=false:=zQ c1
 refine bG [(2,vi b),(3,vi R),(9,vq xA),(19,vF)] (by rw[b2]) ?_
 refine T_nd 4 [19] [(23,.bool (decide (b>=4)))] ?_
 by_cases c3:b>=4
 ·have b4:(decide (b>=4))=true:=zX c3
  refine N_bd 23 b4<|T_nd 8 [23] [(16,vT)] ?_
  refine zq<|S_bd 16 (b:=true) (v:=((((decide (b<0)) || (decide (b>=4))) || (decide (R<0))) || (decide (R>5)))) (by simp only[b2,b4,BL]) ?_
  exact hk
 have b4:(decide (b>=4))=false:=zQ c3
 refine N_bd 23 b4<|T_nd 4 [23] [(27,.bool (decide (R<0)))] ?_
 by_cases c5:R<0
 ·have b6:(decide (R<0))=true:=zX c5
  refine N_bd 27 b6<|T_nd 4 [27] [(16,vT)] ?_
  refine zq<|S_bd 16 (b:=true) (v:=((((decide (b<0)) || (decide (b>=4))) || (decide (R<0))) || (decide (R>5)))) (by simp only[b2,b4,b6,BL]) ?_
  exact hk
 have b6:(decide (R<0))=false:=zQ c5
 refine N_bd 27 b6<|T_nd 4 [27] [(16,.bool (decide (R>5)))] ?_
 refine zq<|S_bd 16 (b:=(decide (R>5))) (v:=((((decide (b<0)) || (decide (b>=4))) || (decide (R<0))) || (decide (R>5)))) (by simp only[b2,b4,b6,BL]) ?_
 exact hk
end fJ
/-! moraine/seg.New -/
namespace jp
def K0:=Func.code f125
end jp
def jp.pt(a:Int)(H:zV)(R:zk):Prop:=
 if((decide (a<8)) || (decide (a>1024)))=true then(
 R (.tuple #[vp none,vi 1]) H)
 else
 0<=a/\a<=a/\576*a<=2 ^ 48/\a<=9223372036854775807/\
 ∀b H1,b=H.size->H1=H.push (.cells (Builtin.zeroCells (List.replicate 8 (vi 0)++List.replicate 64 (vu 0):List Value).toArray (Int.toNat a)) 161)->
 ∀d H2,d=H1.size->H2=H1.push (.cells #[vs (some (ad b)) (Int.toNat a) (Int.toNat a),vi 0,vi a] 157)->
 R (.tuple #[vq (ad d),vi 0]) H2
namespace jp
theorem link(h:pt i H d):C i H d:=by
 refine T_en K0 15 func125 ?_
 intro w0 Q hQ
 unfold pt at h
 refine T_su [(0,vi i)]<|aA 0<|T_ed 2 [] []<|T_sz<|aA 1 ?_
 refine gz [(0,vi i),(9,.bool ((decide (i<8)) || (decide (i>1024))))] ?_ ?_
 ·refine aD ?_
  revert h;refine iO_ (λc3 h=>?_) (λc3 h=>?_)
  ·exact aI 9 c3<|aA 2<|T_nr 2 [2,3] [vp none,vi 1] hQ h
  refine aJ 9 (zZ c3)<|T_kt<|aA 3<|T_n 1 [(0,vi i),(10,vi i)] ?_
  obtain⟨q5,q6,q7,q8,h⟩:=h
  refine N_op (some 11) (j3 155 (vi i) (vi i)) (λv Hz=>v=Value.slice (some (Addr.mk H.size 0 none)) (Int.toNat i) (Int.toNat i)/\Hz=H.push (.cells (Builtin.zeroCells (List.replicate 8 (vi 0)++List.replicate 64 (vu 0):List Value).toArray (Int.toNat i)) 161)) (λ_=>by kernel_rfl) (qU (T:=161) (zero:=.agg (List.replicate 8 (vi 0)++List.replicate 64 (vu 0):List Value).toArray) underlying155 (show prog.info? 161=some t161 from by kernel_rfl) (by kernel_rfl) q5 q6 q7 q8 (by kernel_rfl) (by decide)) ?_
  rintro _ H1 ⟨rfl,e10⟩
  obtain⟨b,e9⟩: ∃b,b=H.size:=⟨_,rfl⟩
  replace h:=h b H1 e9 e10
  rw[<-e9]
  refine T_pd [10] [(11,vs (pa b) (Int.toNat i) (Int.toNat i))]<|T_n 2 [(13,.agg #[vs (pa b) (Int.toNat i) (Int.toNat i),vi 0,vi i])]<|T_nw (some 14) (λb=>vp (pa b)) (.cells #[vs (pa b) (Int.toNat i) (Int.toNat i),vi 0,vi i] 157) ?_
  intro R H2 e11 e12
  replace h:=h R H2 e11 e12
  refine⟨[(14,vp (pa R))],pk,?_⟩
  exact T_nr 2 [2,3] [vp (pa R),vi 0] hQ h
 intro hk
 refine T_n 3 [(0,vi i),(6,.bool (decide (i<8)))] ?_
 by_cases c1:i<8
 ·have b2:(decide (i<8))=true:=zX c1
  refine bG [(0,vi i),(6,vT)] (by rw[b2]) ?_
  refine T_nd 3 [6] [(9,vT)]<|zq<|S_bd 9 (b:=true) (v:=((decide (i<8)) || (decide (i>1024)))) (by simp only[b2,BL]) ?_
  exact hk
 have b2:(decide (i<8))=false:=zQ c1
 refine bG [(0,vi i),(6,vF)] (by rw[b2]) ?_
 refine T_nd 3 [6] [(9,.bool (decide (i>1024)))]<|zq<|S_bd 9 (b:=(decide (i>1024))) (v:=((decide (i<8)) || (decide (i>1024)))) (by simp only[b2,BL]) ?_
 exact hk
end jp
variable{H:zV}{d:zk}{i:Int}
/-! moraine/word.Header -/
namespace gm
def K0:=Func.code f42
end gm
def gm.pt(a nv b:Int)(H:zV)(R:zk):Prop:=
 if(((((decide (a<1)) || (decide (a>13))) || (decide (nv<0))) || (decide (nv>62))) || (decide (b>=281474976710656)))=true then(
 R (.tuple #[vu 0,vi 1]) H)
 else
 R (.tuple #[vu (ior .u64 (ior .u64 (ior .u64 (ishl .u64 b 16) (ishl .u64 (IntKind.wrap .u64 nv) 8)) (ishl .u64 (IntKind.wrap .u64 a) 3)) 5),vi 0]) H
namespace gm
theorem link{a nv b:Int}(h:pt a nv b H d):C a nv b H d:=by
 refine T_en K0 37 func42 ?_
 intro w0 Q hQ
 unfold pt at h
 refine T_su [(0,vi a),(1,vi nv),(2,vu b)]<|aA 0<|T_ed 2 [] []<|T_sz<|aA 1 ?_
 refine gz [(0,vi a),(1,vi nv),(2,vu b),(25,.bool (((((decide (a<1)) || (decide (a>13))) || (decide (nv<0))) || (decide (nv>62))) || (decide (b>=281474976710656))))] ?_ ?_
 ·refine aD ?_
  revert h;refine iO_ (λc9 h=>?_) (λc9 h=>?_)
  ·exact aI 25 c9<|aA 2<|T_nr 2 [6,7] [vu 0,vi 1] hQ h
  exact aJ 25 (zZ c9)<|T_kt<|aA 3<|T_nr 13 [6,7] [vu (ior .u64 (ior .u64 (ior .u64 (ishl .u64 b 16) (ishl .u64 (IntKind.wrap .u64 nv) 8)) (ishl .u64 (IntKind.wrap .u64 a) 3)) 5),vi 0] hQ h
 intro hk
 refine T_n 3 [(0,vi a),(1,vi nv),(2,vu b),(10,.bool (decide (a<1)))] ?_
 by_cases c1:a<1
 ·have b2:(decide (a<1))=true:=zX c1
  refine bG [(0,vi a),(1,vi nv),(2,vu b),(10,vT)] (by rw[b2]) ?_
  refine T_nd 15 [10] [(25,vT)]<|zq<|S_bd 25 (b:=true) (v:=(((((decide (a<1)) || (decide (a>13))) || (decide (nv<0))) || (decide (nv>62))) || (decide (b>=281474976710656)))) (by simp only[b2,BL]) ?_
  exact hk
 have b2:(decide (a<1))=false:=zQ c1
 refine bG [(0,vi a),(1,vi nv),(2,vu b),(10,vF)] (by rw[b2]) ?_
 refine T_nd 4 [10] [(14,.bool (decide (a>13)))] ?_
 by_cases c3:a>13
 ·have b4:(decide (a>13))=true:=zX c3
  refine N_bd 14 b4<|T_nd 11 [14] [(25,vT)] ?_
  refine zq<|S_bd 25 (b:=true) (v:=(((((decide (a<1)) || (decide (a>13))) || (decide (nv<0))) || (decide (nv>62))) || (decide (b>=281474976710656)))) (by simp only[b2,b4,BL]) ?_
  exact hk
 have b4:(decide (a>13))=false:=zQ c3
 refine N_bd 14 b4<|T_nd 4 [14] [(18,.bool (decide (nv<0)))] ?_
 by_cases c5:nv<0
 ·have b6:(decide (nv<0))=true:=zX c5
  refine N_bd 18 b6<|T_nd 7 [18] [(25,vT)] ?_
  refine zq<|S_bd 25 (b:=true) (v:=(((((decide (a<1)) || (decide (a>13))) || (decide (nv<0))) || (decide (nv>62))) || (decide (b>=281474976710656)))) (by simp only[b2,b4,b6,BL]) ?_
  exact hk
 have b6:(decide (nv<0))=false:=zQ c5
 refine N_bd 18 b6<|T_nd 4 [18] [(22,.bool (decide (nv>62)))] ?_
 by_cases c7:nv>62
 ·have b8:(decide (nv>62))=true:=zX c7
  refine N_bd 22 b8<|T_nd 3 [22] [(25,vT)] ?_
  refine zq<|S_bd 25 (b:=true) (v:=(((((decide (a<1)) || (decide (a>13))) || (decide (nv<0))) || (decide (nv>62))) || (decide (b>=281474976710656)))) (by simp only[b2,b4,b6,b8,BL]) ?_
  exact hk
 have b8:(decide (nv>62))=false:=zQ c7
 refine N_bd 22 b8<|T_nd 3 [22] [(25,.bool (decide (b>=281474976710656)))] ?_
 refine zq<|S_bd 25 (b:=(decide (b>=281474976710656))) (v:=(((((decide (a<1)) || (decide (a>13))) || (decide (nv<0))) || (decide (nv>62))) || (decide (b>=281474976710656)))) (by simp only[b2,b4,b6,b8,BL]) ?_
 exact hk
end gm
/-! moraine/word.Addr -/
namespace fS
def K0:=Func.code f52
end fS
def fS.pt(wv:Int)(H:zV)(R:zk):Prop:=
 fM.C wv H (λv H1=> ∃x,v=vi x/\
 hC.C x H1 (λd H2=> ∃a,d=.bool a/\
 if a=true then(
 iz.C wv H2 (λe H3=> ∃b,e=.bool b/\
 if b=true then(
 R (.tuple #[vi (zY (ishr .u64 wv 3)),vT]) H3)
 else
 R (.tuple #[vi 0,vF]) H3))
 else
 R (.tuple #[vi 0,vF]) H2))
namespace fS
theorem link(h:pt i H d):C i H d:=by
 refine T_en K0 16 func52 ?_
 intro w0 Q hQ
 unfold pt zY at h
 refine T_su [(0,vu i)]<|aA 0<|T_ed 2 [] []<|T_sz<|aA 1<|T_nd 1 [] [(4,vu i)]<|T_c (some 5) h ?_;clear h
 rintro v H1 ⟨x,rfl,h⟩
 refine T_pd [4] [(5,vi x)]<|T_c (some 6) h ?_;clear h
 rintro R H2 ⟨a,rfl,h⟩
 refine T_pd [5] [(6,.bool a)]<|T_nd 2 [6] [(8,.bool (!a))] ?_
 revert h;refine iO_ (λc1 h=>?_) (λc1 h=>?_)
 ·have b2:(!a)=false:=congrArg Bool.not (c1)
  have b22:a=true:=c1
  refine N_bd 8 (b:=(!a)) (v:=false) (by simp only[b2,b22,Bool.not_true,Bool.not_false]) ?_
  clear b2 b22
  refine T_nd 1 [] [(9,vu i)]<|T_c (some 10) h ?_;clear h
  rintro e H3 ⟨b,rfl,h⟩
  refine T_pd [9] [(10,.bool b)]<|T_ed 2 [8,10] [(12,.bool (!b))] ?_
  revert h;refine iO_ (λc3 h=>?_) (λc3 h=>?_)
  ·exact aJ 12 (congrArg Bool.not (c3))<|T_kt<|aA 3<|T_nr 5 [2,3] [vi (zY (ishr .u64 i 3)),vT] hQ h
  exact aI 12 (congrArg Bool.not (zZ c3))<|aA 2<|T_nr 2 [2,3] [vi 0,vF] hQ h
 have b2:(!a)=true:=congrArg Bool.not (zZ c1)
 have b22:a=false:=zZ c1
 refine N_bd 8 (b:=(!a)) (v:=true) (by simp only[b2,b22,Bool.not_true,Bool.not_false]) ?_
 clear b2 b22
 exact T_ed 4 [8] [(12,vT)]<|T_tz 12<|aA 2<|T_nr 2 [2,3] [vi 0,vF] hQ h
end fS
/-! moraine/word.At -/
namespace il
def K0:=Func.code f55
end il
def il.pt(b a:Int)(H:zV)(R:zk):Prop:=
 hC.C b H (λv H1=> ∃x,v=.bool x/\
 if x=true then(
 if((decide (a<0)) || (decide (a>=65536)))=true then(
 R (.tuple #[vu 0,vi 18]) H1)
 else
 R (.tuple #[vu (ior .u64 (ishl .u64 (IntKind.wrap .u64 a) 3) (IntKind.wrap .u64 b)),vi 0]) H1)
 else
 R (.tuple #[vu 0,vi 1]) H1)
namespace il
theorem link{b a:Int}(h:pt b a H d):C b a H d:=by
 refine T_en K0 23 func55 ?_
 intro w0 Q hQ
 unfold pt at h
 refine T_su [(0,vi b),(1,vi a)]<|aA 0<|T_ed 2 [] []<|T_sz<|T_bz 0<|aA 1<|T_nd 1 [] [(7,vi b)]<|T_c (some 8) h ?_;clear h
 rintro v H1 ⟨x,rfl,h⟩
 refine T_pd [7] [(8,.bool x)]<|T_ed 2 [8] [(6,.bool (!x))] ?_
 revert h;refine iO_ (λc1 h=>?_) (λc1 h=>?_)
 ·refine aJ 6 (congrArg Bool.not (c1))<|aA 3 ?_
  refine gz [(0,vi b),(1,vi a),(10,.bool ((decide (a<0)) || (decide (a>=65536))))] ?_ ?_
  ·refine aD ?_
   revert h;refine iO_ (λc5 h=>?_) (λc5 h=>?_)
   ·exact aI 10 c5<|aA 4<|T_nr 2 [4,5] [vu 0,vi 18] hQ h
   exact aJ 10 (zZ c5)<|T_k<|aE<|aD<|aA 5<|T_nr 8 [4,5] [vu (ior .u64 (ishl .u64 (IntKind.wrap .u64 a) 3) (IntKind.wrap .u64 b)),vi 0] hQ h
  intro hk
  refine T_n 3 [(0,vi b),(1,vi a),(13,.bool (decide (a<0)))] ?_
  by_cases c3:a<0
  ·have b4:(decide (a<0))=true:=zX c3
   refine bG [(0,vi b),(1,vi a),(13,vT)] (by rw[b4]) ?_
   refine T_nd 4 [13] [(10,vT)]<|zq<|S_bd 10 (b:=true) (v:=((decide (a<0)) || (decide (a>=65536)))) (by simp only[b4,BL]) ?_
   exact hk
  have b4:(decide (a<0))=false:=zQ c3
  refine bG [(0,vi b),(1,vi a),(13,vF)] (by rw[b4]) ?_
  refine T_nd 4 [13] [(10,.bool (decide (a>=65536)))]<|zq<|S_bd 10 (b:=(decide (a>=65536))) (v:=((decide (a<0)) || (decide (a>=65536)))) (by simp only[b4,BL]) ?_
  exact hk
 exact aI 6 (congrArg Bool.not (zZ c1))<|aA 2<|T_nr 2 [4,5] [vu 0,vi 1] hQ h
end il
/-! moraine/word.Tag -/
namespace fM
def K0:=Func.code f56
end fM
def fM.pt(wv:Int)(H:zV)(R:zk):Prop:=
 R (vi (zY (iand .u64 wv 7))) H
namespace fM
theorem link(h:pt i H d):C i H d:=by
 refine T_en K0 6 func56 ?_
 intro w0 Q hQ
 unfold pt zY at h
 exact T_su [(0,vu i)]<|aA 0<|T_ed 1 [] []<|aA 1<|T_nr 4 [2] [vi (zY (iand .u64 i 7))] hQ h
end fM
/-! moraine/word.place -/
namespace hC
def K0:=Func.code f94
end hC
def hC.pt(a:Int)(H:zV)(R:zk):Prop:=
 R (.bool (((decide (a>=1)) && (decide (a<=3))) || (a==6))) H
namespace hC
theorem link(h:pt i H d):C i H d:=by
 refine T_en K0 13 func94 ?_
 intro w0 Q hQ
 unfold pt at h
 refine T_su [(0,vi i)]<|aA 0<|T_ed 1 [] []<|aA 1 ?_
 refine gz [(2,.bool (((decide (i>=1)) && (decide (i<=3))) || (i==6)))] ?_ ?_
 ·exact aD<|ia [2] [.bool (((decide (i>=1)) && (decide (i<=3))) || (i==6))] hQ h
 intro hk
 refine T_n 3 [(0,vi i),(5,.bool (decide (i>=1)))] ?_
 by_cases c1:i>=1
 ·have b2:(decide (i>=1))=true:=zX c1
  refine bG [(0,vi i),(5,vT)] (by rw[b2]) ?_
  refine T_nd 4 [5] [(9,.bool (decide (i<=3)))] ?_
  by_cases c3:i<=3
  ·have b4:(decide (i<=3))=true:=zX c3
   refine N_bd 9 b4<|T_n 4 [(2,vT)] ?_
   refine zq<|gD [(2,.bool (((decide (i>=1)) && (decide (i<=3))) || (i==6)))] (by simp only[b2,b4,BL]) ?_
   exact hk
  have b4:(decide (i<=3))=false:=zQ c3
  refine N_bd 9 b4<|T_n 4 [(2,.bool (i==6))] ?_
  refine zq<|gD [(2,.bool (((decide (i>=1)) && (decide (i<=3))) || (i==6)))] (by simp only[b2,b4,BL]) ?_
  exact hk
 have b2:(decide (i>=1))=false:=zQ c1
 refine bG [(0,vi i),(5,vF)] (by rw[b2]) ?_
 refine T_n 8 [(2,.bool (i==6))]<|zq<|gD [(2,.bool (((decide (i>=1)) && (decide (i<=3))) || (i==6)))] (by simp only[b2,BL]) ?_
 exact hk
end hC
/-! moraine/word.May -/
namespace iz
def K0:=Func.code f95
end iz
def iz.pt(wv:Int)(H:zV)(R:zk):Prop:=
 gQ.C wv H (λv H1=> ∃ra rb rc,v=.tuple #[vi ra,vi rb,vu rc]/\
 fM.C wv H1 (λb H2=> ∃x,b=vi x/\
 if x=0 then(
 R vT H2)
 else
 if x=1 then(
 R (.bool (decide ((ishr .u64 wv 3)<65536))) H2)
 else
 if x=2 then(
 R (.bool (decide ((ishr .u64 wv 3)<65536))) H2)
 else
 if x=3 then(
 R (.bool (decide ((ishr .u64 wv 3)<65536))) H2)
 else
 if x=6 then(
 R (.bool (decide ((ishr .u64 wv 3)<65536))) H2)
 else
 if x=4 then(
 if ra=7 then(
 gX.C (ishr .u64 wv 8) H2 (λd H3=> ∃a,d=.bool a/\
 R (.bool a) H3))
 else
 R (.bool (decide ((ishr .u64 wv 3)<=6))) H2)
 else
 if x=5 then(
 R (.bool (((decide (ra>=1)) && (decide (ra<=13))) && (decide (rb<=62)))) H2)
 else
 R vF H2))
namespace iz
theorem link(h:pt i H d):C i H d:=by
 refine T_en K0 49 func95 ?_
 intro w0 Q hQ
 unfold pt at h
 refine T_su [(0,vu i)]<|aA 0<|T_ed 1 [] []<|aA 1<|T_nd 1 [] [(7,vu i)]<|T_c (some 8) h ?_;clear h
 rintro v H1 ⟨ra,rb,rc,rfl,h⟩
 refine T_pd [7] [(8,.tuple #[vi ra,vi rb,vu rc])]<|T_ed 7 [8] [(3,vi ra),(4,vi rb)]<|T_sz<|aA 2<|T_nd 1 [] [(12,vu i)]<|T_c (some 13) h ?_;clear h
 rintro b H2 ⟨x,rfl,h⟩
 refine T_pd [12] [(13,vi x)]<|T_e<|T_bz 0<|T_sz<|T_bz 7<|T_sz<|T_bz 6<|T_sz<|T_bz 5<|T_bz 4<|T_bz 3<|T_bz 2<|T_sz<|T_bz 1<|T_sz<|T_sz<|aA 3<|T_ed 2 [] [(14,.bool (x==0))] ?_
 revert h;refine iO_ (λc1 h=>?_) (λc1 h=>?_)
 ·exact aI 14 (zK c1)<|zj 1<|aB<|aB<|aM<|aD<|T_sz<|aA 10<|T_nr 1 [2] [vT] hQ h
 refine aJ 14 (zJ c1)<|T_kt<|T_sz<|aA 4<|T_ed 2 [14] [(16,.bool (x==1))] ?_
 revert h;refine iO_ (λc3 h=>?_) (λc3 h=>?_)
 ·exact aI 16 (zK c3)<|zj 2<|aB<|aB<|zz<|aB<|aM<|aE<|aE<|aE<|aD<|T_sz<|aA 11<|T_nr 4 [2] [.bool (decide ((ishr .u64 i 3)<65536))] hQ h
 refine aJ 16 (zJ c3)<|T_kt<|T_sz<|aA 5<|T_ed 2 [16] [(18,.bool (x==2))] ?_
 revert h;refine iO_ (λc5 h=>?_) (λc5 h=>?_)
 ·exact aI 18 (zK c5)<|zj 3<|aB<|aB<|zz<|aB<|zz<|aM<|aE<|aE<|aD<|T_sz<|aA 11<|T_nr 4 [2] [.bool (decide ((ishr .u64 i 3)<65536))] hQ h
 refine aJ 18 (zJ c5)<|T_kt<|T_sz<|aA 6<|T_ed 2 [18] [(20,.bool (x==3))] ?_
 revert h;refine iO_ (λc7 h=>?_) (λc7 h=>?_)
 ·exact aI 20 (zK c7)<|zj 4<|aB<|aB<|zz<|aB<|zz<|zz<|aM<|aE<|aD<|T_sz<|aA 11<|T_nr 4 [2] [.bool (decide ((ishr .u64 i 3)<65536))] hQ h
 refine aJ 20 (zJ c7)<|T_kt<|T_sz<|aA 7<|T_ed 2 [20] [(22,.bool (x==6))] ?_
 revert h;refine iO_ (λc9 h=>?_) (λc9 h=>?_)
 ·exact aI 22 (zK c9)<|zj 5<|aB<|aB<|zz<|aB<|zz<|zz<|zz<|aM<|aD<|T_sz<|aA 11<|T_nr 4 [2] [.bool (decide ((ishr .u64 i 3)<65536))] hQ h
 refine aJ 22 (zJ c9)<|T_kt<|T_sz<|aA 8<|T_ed 2 [22] [(24,.bool (x==4))] ?_
 revert h;refine iO_ (λc11 h=>?_) (λc11 h=>?_)
 ·refine aI 24 (zK c11)<|zj 6<|aB<|aB<|zz<|aB<|zz<|zz<|zz<|zz<|aB<|aM<|aD<|T_sz<|T_sz<|aA 12<|T_ne 2 [(0,vu i),(32,.bool (ra==7))] ?_
  revert h;refine iO_ (λc13 h=>?_) (λc13 h=>?_)
  ·refine aI 32 (zK c13)<|aA 13<|T_n 2 [(34,vu (ishr .u64 i 8))]<|T_c (some 35) h ?_;clear h
   rintro R H3 ⟨a,rfl,h⟩
   refine⟨[(35,.bool a)],pk,?_⟩
   exact T_nr 1 [2] [.bool a] hQ h
  exact aJ 32 (zJ c13)<|T_kt<|aA 14<|T_nr 4 [2] [.bool (decide ((ishr .u64 i 3)<=6))] hQ h
 refine aJ 24 (zJ c11)<|T_kt<|aA 9<|T_ed 2 [0,13,24] [(26,.bool (x==5))] ?_
 revert h;refine iO_ (λc15 h=>?_) (λc15 h=>?_)
 ·refine aI 26 (zK c15)<|zj 7<|aB<|zz<|aB<|zz<|zz<|zz<|zz<|aB<|zz<|aB<|aM<|aD<|T_sz<|aA 15 ?_
  refine gz [(2,.bool (((decide (ra>=1)) && (decide (ra<=13))) && (decide (rb<=62))))] ?_ ?_
  ·exact aD<|ia [2] [.bool (((decide (ra>=1)) && (decide (ra<=13))) && (decide (rb<=62)))] hQ h
  intro hk
  refine T_n 3 [(3,vi ra),(4,vi rb),(41,.bool (decide (ra>=1)))] ?_
  by_cases c17:ra>=1
  ·have b18:(decide (ra>=1))=true:=zX c17
   refine bG [(3,vi ra),(4,vi rb),(41,vT)] (by rw[b18]) ?_
   refine T_nd 4 [3,41] [(45,.bool (decide (ra<=13)))] ?_
   by_cases c19:ra<=13
   ·have b20:(decide (ra<=13))=true:=zX c19
    refine N_bd 45 b20<|T_n 4 [(2,.bool (decide (rb<=62)))] ?_
    refine zq<|gD [(2,.bool (((decide (ra>=1)) && (decide (ra<=13))) && (decide (rb<=62))))] (by simp only[b18,b20,BL]) ?_
    exact hk
   have b20:(decide (ra<=13))=false:=zQ c19
   refine N_bd 45 b20<|T_n 4 [(2,vF)] ?_
   refine zq<|gD [(2,.bool (((decide (ra>=1)) && (decide (ra<=13))) && (decide (rb<=62))))] (by simp only[b18,b20,BL]) ?_
   exact hk
  have b18:(decide (ra>=1))=false:=zQ c17
  refine bG [(3,vi ra),(4,vi rb),(41,vF)] (by rw[b18]) ?_
  refine T_n 8 [(2,vF)]<|zq<|gD [(2,.bool (((decide (ra>=1)) && (decide (ra<=13))) && (decide (rb<=62))))] (by simp only[b18,BL]) ?_
  exact hk
 exact aJ 26 (zJ c15)<|T_kt<|zj 0<|zz<|aB<|zz<|zz<|zz<|zz<|aB<|zz<|aB<|zz<|aB<|aM<|aD<|aA 16<|T_nr 1 [2] [vF] hQ h
end iz
/-! moraine/word.Head -/
namespace ir
def K0:=Func.code f114
end ir
def ir.pt(wv:Int)(H:zV)(R:zk):Prop:=
 fM.C wv H (λv H1=> ∃x,v=vi x/\
 if x=5 then(
 iz.C wv H1 (λb H2=> ∃a,b=.bool a/\
 if a=true then(
 gQ.C wv H2 (λd H3=> ∃ra rb rc,d=.tuple #[vi ra,vi rb,vu rc]/\
 R (.tuple #[vi ra,vi rb,vu rc,vT]) H3))
 else
 R (.tuple #[vi 0,vi 0,vu 0,vF]) H2))
 else
 R (.tuple #[vi 0,vi 0,vu 0,vF]) H1)
namespace ir
theorem link(h:pt i H d):C i H d:=by
 refine T_en K0 23 func114 ?_
 intro w0 Q hQ
 unfold pt at h
 refine T_su [(0,vu i)]<|aA 0<|T_ed 4 [] []<|T_sz<|aA 1<|T_nd 1 [] [(6,vu i)]<|T_c (some 7) h ?_;clear h
 rintro v H1 ⟨x,rfl,h⟩
 refine T_pd [6] [(7,vi x)]<|T_nd 2 [7] [(9,.bool (x !=5))] ?_
 revert h;refine iO_ (λc1 h=>?_) (λc1 h=>?_)
 ·refine N_bd 9 (bne_eq_false_iff_eq.mpr c1)<|T_nd 1 [] [(10,vu i)] ?_
  refine T_c (some 11) h ?_;clear h
  rintro b H2 ⟨a,rfl,h⟩
  refine T_pd [10] [(11,.bool a)]<|T_ed 2 [9,11] [(13,.bool (!a))] ?_
  revert h;refine iO_ (λc3 h=>?_) (λc3 h=>?_)
  ·refine aJ 13 (congrArg Bool.not (c3))<|T_kt<|aA 3<|T_n 1 [(15,vu i)]<|T_c (some 16) h ?_;clear h
   rintro R H3 ⟨ra,rb,rc,rfl,h⟩
   refine⟨[(16,.tuple #[vi ra,vi rb,vu rc])],pk,?_⟩
   exact T_ne 7 [(2,vi ra),(3,vi rb),(4,vu rc)]<|aA 4<|T_nr 7 [2,3,4,5] [vi ra,vi rb,vu rc,vT] hQ h
  exact aI 13 (congrArg Bool.not (zZ c3))<|aA 2<|T_nr 4 [2,3,4,5] [vi 0,vi 0,vu 0,vF] hQ h
 exact N_bd 9 (bne_iff_ne.mpr c1)<|T_ed 4 [9] [(13,vT)]<|T_tz 13<|aA 2<|T_nr 4 [2,3,4,5] [vi 0,vi 0,vu 0,vF] hQ h
end ir
/-! moraine/word.parts -/
namespace gQ
def K0:=Func.code f130
end gQ
def gQ.pt(wv:Int)(H:zV)(R:zk):Prop:=
 ∀b H1,b=H.size->H1=H.push (.cells #[vu wv] 28)->
 fo.C 3 5 (some (ad b)) H1 (λv H2=> ∃x,v=vu x/\
 fo.C 8 8 (some (ad b)) H2 (λe H3=> ∃a,e=vu a/\
 fo.C 16 48 (some (ad b)) H3 (λf H4=> ∃d,f=vu d/\
 R (.tuple #[vi (zY x),vi (zY a),vu d]) H4)))
namespace gQ
theorem link(h:pt i H d):C i H d:=by
 refine T_en K0 15 func130 ?_
 intro w0 Q hQ
 unfold pt zY at h
 refine T_su [(0,vu i)]<|aA 0<|T_nw (some 1) (λb=>vp (pa b)) (.cells #[vu i] 28) ?_
 intro b H1 e1 e2
 replace h:=h b H1 e1 e2
 refine⟨[(1,vp (pa b))],pk,?_⟩
 refine T_ed 3 [] []<|aA 1<|T_ne 2 [(5,.func (.func 150) #[] #[vp (pa b)])]<|aA 2<|T_nd 1 [] [(7,.func (.func 150) #[] #[vp (pa b)])]<|T_c (some 8) h ?_;clear h
 rintro v H2 ⟨x,rfl,h⟩
 refine T_pd [7] [(8,vu x)]<|T_nd 2 [8] [(9,vi (zY x)),(10,.func (.func 150) #[] #[vp (pa b)])]<|T_c (some 11) h ?_;clear h
 rintro e H3 ⟨a,rfl,h⟩
 refine T_pd [10] [(11,vu a)]<|T_nd 2 [5,11] [(12,vi (zY a)),(13,.func (.func 150) #[] #[vp (pa b)])]<|T_c (some 14) h ?_;clear h
 rintro f H4 ⟨R,rfl,h⟩
 exact T_pd [13] [(14,vu R)]<|T_nr 3 [2,3,4] [vi (zY x),vi (zY a),vu R] hQ h
end gQ
/-! moraine/word.letter -/
namespace gX
def K0:=Func.code f131
end gX
def gX.pt(c:Int)(H:zV)(R:zk):Prop:=
 R (.bool ((decide (c<=1114111)) && ((decide (c<55296)) || (decide (c>57343))))) H
namespace gX
theorem link(h:pt i H d):C i H d:=by
 refine T_en K0 13 func131 ?_
 intro w0 Q hQ
 unfold pt at h
 refine T_su [(0,vu i)]<|aA 0<|T_ed 1 [] []<|aA 1 ?_
 refine gz [(2,.bool ((decide (i<=1114111)) && ((decide (i<55296)) || (decide (i>57343)))))] ?_ ?_
 ·exact aD<|ia [2] [.bool ((decide (i<=1114111)) && ((decide (i<55296)) || (decide (i>57343))))] hQ h
 intro hk
 refine T_n 3 [(0,vu i),(5,.bool (decide (i<=1114111)))] ?_
 by_cases c1:i<=1114111
 ·have b2:(decide (i<=1114111))=true:=zX c1
  refine bG [(0,vu i),(5,vT)] (by rw[b2]) ?_
  refine T_nd 3 [] [(8,.bool (decide (i<55296)))] ?_
  by_cases c3:i<55296
  ·have b4:(decide (i<55296))=true:=zX c3
   refine N_bd 8 b4<|T_n 5 [(2,vT)] ?_
   refine zq<|gD [(2,.bool ((decide (i<=1114111)) && ((decide (i<55296)) || (decide (i>57343)))))] (by simp only[b2,b4,BL]) ?_
   exact hk
  have b4:(decide (i<55296))=false:=zQ c3
  refine N_bd 8 b4<|T_n 5 [(2,.bool (decide (i>57343)))] ?_
  refine zq<|gD [(2,.bool ((decide (i<=1114111)) && ((decide (i<55296)) || (decide (i>57343)))))] (by simp only[b2,b4,BL]) ?_
  exact hk
 have b2:(decide (i<=1114111))=false:=zQ c1
 refine bG [(0,vu i),(5,vF)] (by rw[b2]) ?_
 refine T_n 8 [(2,vF)]<|zq<|gD [(2,.bool ((decide (i<=1114111)) && ((decide (i<55296)) || (decide (i>57343)))))] (by simp only[b2,BL]) ?_
 exact hk
end gX
/-! moraine/word.parts.1 -/
namespace fo
def K0:=Func.code f150
end fo
def fo.pt(a b:Int)(d:zW)(H:zV)(R:zk):Prop:=
 ∃e,d=some e/\
 ∃x,hat H e=some (vu x)/\
 (0<=a)/\
 (0<=b)/\
 R (vu (iand .u64 (ishr .u64 x a) (IntKind.wrap .u64 ((ishl .u64 1 b)-1)))) H
namespace fo
theorem link{b:Int}{R:zW}(h:pt i b R H d):C i b R H d:=by
 refine T_en K0 13 func150 ?_
 intro w0 Q hQ
 unfold pt at h
 refine T_su [(0,vi i),(1,vi b),(2,vp R)]<|aA 0<|T_ed 1 [] []<|T_sz<|qZ 1 ?_
 obtain⟨e,rfl,x,q1,h⟩:=h
 refine mX (some 6) 28 q1 [2] [(6,vu x)]<|T_q1 7 (vi i) [0] ?_
 obtain⟨q2,h⟩:=h
 refine Q_op (some 8) (binN .shr 22 (vu x) (vi i)) (vu (ishr .u64 x i)) (λ_=>by kernel_rfl) (λw _=>qR (P:=prog) (t:=22) (k:=.u64) (k':=.i64) (x:=x) (y:=i) q2 w) [(1,vi b),(8,vu (ishr .u64 x i))] pk ?_
 refine T_q (some 9) (vi b) [(8,vu (ishr .u64 x i)),(9,vi b)] ?_
 obtain⟨q3,h⟩:=h
 refine Q_op (some 10) (binN .shl 22 (vu 1) (vi b)) (vu (ishl .u64 1 b)) (λ_=>by kernel_rfl) (λw _=>tC (P:=prog) (t:=22) (k:=.u64) (k':=.i64) (x:=1) (y:=b) q3 w) [(8,vu (ishr .u64 x i)),(10,vu (ishl .u64 1 b))] pk ?_
 exact T_q (some 11) (vu (IntKind.wrap .u64 ((ishl .u64 1 b)-1))) [(8,vu (ishr .u64 x i)),(11,vu (IntKind.wrap .u64 ((ishl .u64 1 b)-1)))]<|T_q1 12 (vu (iand .u64 (ishr .u64 x i) (IntKind.wrap .u64 ((ishl .u64 1 b)-1)))) [8,11]<|T_q1 5 (vu (iand .u64 (ishr .u64 x i) (IntKind.wrap .u64 ((ishl .u64 1 b)-1)))) [12]<|me [(5,vu (iand .u64 (ishr .u64 x i) (IntKind.wrap .u64 ((ishl .u64 1 b)-1))))] sk<|T_qe<|ia [5] [vu (iand .u64 (ishr .u64 x i) (IntKind.wrap .u64 ((ishl .u64 1 b)-1)))] hQ h
end fo
