/- Printed: what each function asks, and that it is sound. -/
import Derived.Test.YtfhbhckhmnleoaaGreatFnsC
set_option linter.unusedSimpArgs false
set_option linter.unusedVariables false
set_option maxRecDepth 100000
set_option maxHeartbeats 1000000
noncomputable section
namespace Go.Proofs.YtfhbhckhmnleoaaGreat
open Go Go.Proofs.Tryz
variable{H:zV}{a:zW}{b:zj}
/-! moraine/trace.Start -/
namespace eI
def K0:=Func.code f12
def K2:=cb K0
def K4:=cb K2
def K12:=cb K4
def K13:=ca K12
def K14:=cb K12
def K16:=cb K13
def K17:=ca K16
def K18:=ca K17
def K31:=cb K14
def K33:=cb K31
def K41:=cb K33
def K42:=ca K41
def K43:=cb K41
def K45:=cb K42
def K46:=ca K45
def K47:=ca K46
def K59:=ca K43
def K62:=cb K59
def K63:=ca K62
def K64:=ca K63
def K66:=cb K64
def K68:=cb K66
def K71:=ca K68
def K73:=ca K71
def K75:=cb K73
def K77:=cb K75
end eI
def eI.pt(hv:zW)(g d o:Int)(H:zV)(R:zj):Prop:=
 eM hv (
 R (.tuple #[vp none,vi 1]) H) (λf=>
 ∃x,hat H f=some (vp x)/\
 eM x (
 R (.tuple #[vp none,vi 1]) H) (λxA=>
 if(((((decide (g<0)) || (decide (g>=4))) || (decide (d<g))) || (decide (d>(zY (g+1))))) || (decide (o<0)))=true then(
 R (.tuple #[vp none,vi 1]) H)
 else
 ∃(bz:zW->Nat->Nat->zk) (m19:zW->Nat->Nat->Int->zV->Nat),bz none 0 0 0 H/\ ∀e gensN gensC s54 H1,bz e gensN gensC s54 H1->
 if s54< (zY (g+1))then(
 ∀b H2,b=H1.size->H2=H1.push (.cells #[vi s54] 3)->
 fy 1 3 8 [vi 0] e gensN gensC (some (ad b)) 1 H2 (λap bb H3=>
 (bz ap (gensN+1) bb (zY (s54+1)) H3/\m19 ap (gensN+1) bb (zY (s54+1)) H3<m19 e gensN gensC s54 H1)))
 else
 ∃b4,hat H1 f=some (vp b4)/\
 ∃b1,b4=some b1/\
 ∃bt,hat H1 b1=some (vp bt)/\
 ∃br,bt=some br/\
 ∃be,hat H1 br=some (vp be)/\
 cz.C be e gensN gensC H1 (λv H4=> ∃xB xN xC,v=vs xB xN xC/\
 ∃bx,hat H4 f=some (vp bx)/\
 ∃bu,bx=some bu/\
 ∃bw,hat H4 bu=some (vp bw)/\
 ∃b2,bw=some b2/\
 ∃bo,hat H4 b2=some (vp bo)/\
 ej.C bo H4 (λci H5=> ∃a5,ci=vi a5/\
 if(zY ((zY (a5-(zY (2*(xN:Int)))))-8))<o then(
 R (.tuple #[vp none,vi 2]) H5)
 else
 ∀a6 H6,a6=H5.size->H6=H5.push (.map #[] 0)->
 ∀bf H7,bf=H6.size->H7=H6.push (.map #[] 0)->
 ∀m H8,m=H7.size->H8=H7.push (.cells ([vq f,vi d]++List.replicate 1024 (vi 0)++[.map (some a6),.map (some bf),vN,vi 0]:List Value).toArray 106)->
 ∃(bs:zk) (m48:Int->zV->Nat),bs 0 H8/\ ∀y H9,bs y H9->
 if y< (xN:Int)then(
 ∃ao,xB=some ao/\
 zv y xN/\
 ∃am,hat H9 (ao.add (Int.toNat y*1))=some (vi am)/\
 zv am 1024/\
 (aM H9 (((ad m).add 2).add (Int.toNat am*1)) 0 1)/\ ∀b0,b0=aP H9 (((ad m).add 2).add (Int.toNat am*1)) [vi 1] 0->
 (bs (zY (y+1)) b0/\m48 (zY (y+1)) b0<m48 y H9))
 else
 ∃bm,hat H9 f=some (vp bm)/\
 ∃bl,bm=some bl/\
 ∃bi,hat H9 bl=some (vp bi)/\
 ∃a7,bi=some a7/\
 ∃aw,hat H9 a7=some (vp aw)/\
 ∀bp H11,bp=H9.size->H11=H9.push (.cells #[vi d] 3)->
 cz.C aw (some (ad bp)) 1 1 H11 (λcj cg=> ∃aq j r,cj=vs aq j r/\
 ∃(b6:zk) (m65:Int->zV->Nat),b6 0 cg/\ ∀p H13,b6 p H13->
 if p< (j:Int)then(
 ∃s,aq=some s/\
 zv p j/\
 ∃q,hat H13 (s.add (Int.toNat p*1))=some (vi q)/\
 ∃bc,hat H13 f=some (vp bc)/\
 ∃a9,bc=some a9/\
 ∃bj,hat H13 a9=some (vp bj)/\
 ∃bg,bj=some bg/\
 ∃a1,hat H13 bg=some (vp a1)/\
 bA.C a1 q H13 (λch cd=> ∃an ai a2 ac af ae ab rb,ch=.tuple #[.agg #[vi an,vi ai,vi a2,vi ac,vi af,vi ae,vi ab],.bool rb]/\
 ∀aa H15,aa=cd.size->H15=cd.push (.cells #[vi 0,vi 0,vi 0,vi 0,vi 0,vi 0,vi 0] 108)->
 (aM H15 (ad aa) 0 7)/\ ∀ay,ay=aP H15 (ad aa) [vi an,vi ai,vi a2,vi ac,vi af,vi ae,vi ab] 0->
 ∃ah,hat ay ((ad m).add 1026)=some (.map ah)/\
 ∃aj,hat ay ((ad m).add 1027)=some (.map aj)/\
 ∃ak,hat ay ((ad aa).add 2)=some (vi ak)/\
 ∃ag,hat ay ((ad aa).add 2)=some (vi ag)/\
 ∃mr,ah=some mr/\
 ∃es cl ks,ay[mr]?=some (.map es cl)/\Ents (cU .i64) es.toList ks/\Born es cl/\
 ∀a4 cl_2 stamp x_21 H17,H17=bH ay mr (.map a4 cl_2)->Ents (cU .i64) a4.toList (mput ks q x_21)->Born a4 cl_2->ij a4 (vi q) stamp->
 aU H17 ((ad aa).add 2) 0 [vi ak]/\aU H17 ((ad aa).add 2) 0 [vi ag]/\ ∃a8 cl_3 ks_2 k,H17[mr]?=some (.map a8 cl_3)/\Ents (cU .i64) a8.toList ks_2/\Born a8 cl_3/\ij a8 (vi k) stamp/\
 ∀bk H18,H18=bH H17 mr (.map bk cl_3)->Ents (cU .i64) bk.toList (mput ks_2 k (vi ak))->Born bk cl_3->
 aU H18 ((ad aa).add 2) 0 [vi ag]/\ ∃al,aj=some al/\
 ∃bq cl_4 ks_3,H18[al]?=some (.map bq cl_4)/\Ents (cU .i64) bq.toList ks_3/\Born bq cl_4/\
 ∀a3 cl_5 stamp_2 x_22 H19,H19=bH H18 al (.map a3 cl_5)->Ents (cU .i64) a3.toList (mput ks_3 q x_22)->Born a3 cl_5->ij a3 (vi q) stamp_2->
 aU H19 ((ad aa).add 2) 0 [vi ag]/\ ∃bd cl_6 ks_4 k_2,H19[al]?=some (.map bd cl_6)/\Ents (cU .i64) bd.toList ks_4/\Born bd cl_6/\ij bd (vi k_2) stamp_2/\
 ∀bh H20,H20=bH H19 al (.map bh cl_6)->Ents (cU .i64) bh.toList (mput ks_4 k_2 (vi ag))->Born bh cl_6->
 (b6 (zY (p+1)) H20/\m65 (zY (p+1)) H20<m65 p H13)))
 else
 ∃bn,hat H13 f=some (vp bn)/\
 ∃ba,bn=some ba/\
 ∃az,hat H13 ba=some (vp az)/\
 cG.C az e gensN gensC H13 (λ_ ce=>
 ∃a0,hat ce f=some (vp a0)/\
 cP.C a0 g ce (λck cc=> ∃ax au av,ck=vs ax au av/\
 (aM cc ((ad m).add 1028) 0 1)/\ ∀b8,b8=aP cc ((ad m).add 1028) [vs ax au av] 0->
 R (.tuple #[vq (ad m),vi 0]) b8)))))))
namespace eI
theorem link{g d o:Int}(h:pt a g d o H b):C a g d o H b:=by
 refine T_en K0 181 func12 ?_
 intro w0 Q hQ
 unfold pt zY at h
 refine T_su [(0,vp a),(1,vi g),(2,vi d),(3,vi o)]<|aA 0<|T_ed 2 [] []<|T_sz<|aA 1<|T_nd 1 [] [(20,vp a)] ?_
 rcases a with _ | f
 ·rw[onPtr_none]at h
  exact T_ed 31 [0,20] [(0,vp none),(51,vT)]<|T_tz 51<|aA 2<|T_nr 2 [8,9] [vp none,vi 1] hQ h
 rw[onPtr_some]at h
 refine T_nd 5 [0,20] [(0,vq f),(22,vF),(25,vq f)] ?_
 obtain⟨x,q1,h⟩:=h
 refine T_l1 26 49 q1 [25] ?_
 rcases x with _ | xA
 ·rw[onPtr_none]at h
  exact T_ed 25 [22,26] [(51,vT)]<|T_tz 51<|aA 2<|T_nr 2 [8,9] [vp none,vi 1] hQ h
 rw[onPtr_some]at h
 refine T_nd 7 [22,26] [(33,.bool (decide (g<0)))] ?_
 refine fx [(0,vq f),(1,vi g),(2,vi d),(3,vi o),(51,.bool (((((decide (g<0)) || (decide (g>=4))) || (decide (d<g))) || (decide (d>(zY (g+1))))) || (decide (o<0))))] ?_ ?_
 ·refine aE ?_
  revert h;refine iO_ (λc10 h=>?_) (λc10 h=>?_)
  ·exact aJ 51 c10<|aA 2<|T_nr 2 [8,9] [vp none,vi 1] hQ h
  refine aK 51 (zZ c10)<|T_kt<|aA 3<|T_ne 1 [(0,vq f),(1,vi g),(2,vi d),(3,vi o),(10,vN)]<|T_sz<|aA 4<|T_ed 3 [] [(53,vi (zY (g+1))),(54,vi 0)]<|T_bz 0 ?_
  obtain⟨bz,m19,i12,i13⟩:=h
  refine cX (x:=K18) (σ:=zW×Nat×Nat×Int) (λs_=> [(0,vq f),(1,vi g),(2,vi d),(3,vi o),(10,vs s_.1 s_.2.1 s_.2.2.1),(53,vi (zY (g+1))),(54,vi s_.2.2.2)]) (λs_ H=>bz s_.1 s_.2.1 s_.2.2.1 s_.2.2.2 H) (λs_ H=>m19 s_.1 s_.2.1 s_.2.2.1 s_.2.2.2 H) ((none,0,0,0):zW×Nat×Nat×Int) (by kernel_rfl) i12 sk ?_
  rintro⟨e,gensN,gensC,s54⟩ H1 i14
  have h:=i13 e gensN gensC s54 H1 i14
  refine T_su [(0,vq f),(1,vi g),(2,vi d),(3,vi o),(10,vs e gensN gensC),(53,vi (zY (g+1))),(54,vi s54)]<|aA 5<|T_ed 1 [] [(55,.bool (decide (s54< (zY (g+1)))))]<|T_sz ?_
  revert h;refine iO_ (λc15 h=>?_) (λc15 h=>?_)
  ·refine aJ 55 (zX c15)<|T_kt<|T_sz<|T_bz 1<|aA 6<|T_ed 2 [55] [(11,vi s54)]<|T_rz 7<|T_nd 2 [10,11] [(57,vs e gensN gensC),(58,vi s54)]<|T_nw (some 59) (λhv=>vs (pa hv) 1 1) (.cells #[vi s54] 3) ?_
   intro hv H2 e17 e18
   replace h:=h hv H2 e17 e18
   refine T_pd [58] [(59,vs (pa hv) 1 1)]<|N_op (some 60) (fl #[75,75] 75 #[vs e gensN gensC,vs (pa hv) 1 1]) _ (λ_=>by kernel_rfl) (fd (T:=3) (sz:=1) (bytes:=8) (zero:=(vi 0:Value)) underlying75 underlying75 rfl (show prog.info? 3=some t3 from by kernel_rfl) (by kernel_rfl) (by kernel_rfl) (by decide) (by kernel_rfl) (by first | exact h | (simpa only[Value.cells,List.toList_toArray]using h))) ?_;clear h
   rintro _ H3 ⟨ap,bb,rfl,h⟩
   exact T_pd [57,59] [(60,vs ap (gensN+1) bb)]<|T_nd 1 [60] [(10,vs ap (gensN+1) bb)]<|zq<|aD<|aE<|T_rz 8<|T_ed 2 [54] [(54,vi (zY (s54+1)))]<|aT ((ap,(gensN+1),bb,(zY (s54+1))):zW×Nat×Nat×Int) sk h
  refine aK 55 (zQ c15)<|zz 0<|aB<|aB<|aN<|aE<|aA 9<|T_nd 3 [53,54,55] [(64,vq f)] ?_
  obtain⟨b4,q19,h⟩:=h
  refine T_l1 65 49 q19 [64] ?_
  obtain⟨b1,rfl,h⟩:=h
  refine T_nd 2 [65] [(67,vq b1)] ?_
  obtain⟨bt,q20,h⟩:=h
  refine T_l1 68 52 q20 [67] ?_
  obtain⟨br,rfl,h⟩:=h
  refine T_nd 2 [68] [(70,vq br)] ?_
  obtain⟨be,q21,h⟩:=h
  refine T_l1 71 78 q21 [70]<|T_nd 1 [] [(72,vs e gensN gensC)]<|T_c (some 73) h ?_;clear h
  rintro v H4 ⟨xB,xN,xC,rfl,h⟩
  refine T_pd [71,72] [(73,vs xB xN xC)]<|T_ed 1 [73] [(12,vs xB xN xC)]<|T_sz<|aA 10<|T_nd 3 [] [(76,vq f)] ?_
  obtain⟨bx,q22,h⟩:=h
  refine T_l1 77 49 q22 [76] ?_
  obtain⟨bu,rfl,h⟩:=h
  refine T_nd 2 [77] [(79,vq bu)] ?_
  obtain⟨bw,q23,h⟩:=h
  refine T_l1 80 52 q23 [79] ?_
  obtain⟨b2,rfl,h⟩:=h
  refine T_nd 2 [80] [(82,vq b2)] ?_
  obtain⟨bo,q24,h⟩:=h
  refine T_l1 83 78 q24 [82]<|T_c (some 84) h ?_;clear h
  rintro ci H5 ⟨a5,rfl,h⟩
  refine T_pd [83] [(84,vi a5)]<|T_ed 7 [3,84] [(91,.bool (decide ((zY ((zY (a5-(zY (2*(xN:Int)))))-8))<o)))] ?_
  revert h;refine iO_ (λc25 h=>?_) (λc25 h=>?_)
  ·exact aJ 91 (zX c25)<|aA 11<|T_nr 2 [8,9] [vp none,vi 2] hQ h
  refine aK 91 (zQ c25)<|T_kt<|aA 12<|T_nd 2 [91] [(92,vq f),(93,vi d)]<|T_nw (some 94) (λhv=> .map (some hv)) (.map #[] 0) ?_
  intro a6 H6 e27 e28
  replace h:=h a6 H6 e27 e28
  refine T_pd [] [(94,.map (some a6))]<|T_nw (some 95) (λhv=> .map (some hv)) (.map #[] 0) ?_
  intro bf H7 e29 e30
  replace h:=h bf H7 e29 e30
  refine T_pd [] [(95,.map (some bf))]<|T_nd 1 [92,93,94,95] [(96,.agg ([vq f,vi d]++List.replicate 1024 (vi 0)++[.map (some a6),.map (some bf),vN,vi 0]:List Value).toArray)]<|T_nw (some 97) (λhv=>vp (pa hv)) (.cells ([vq f,vi d]++List.replicate 1024 (vi 0)++[.map (some a6),.map (some bf),vN,vi 0]:List Value).toArray 106) ?_
  intro m H8 e31 e32
  replace h:=h m H8 e31 e32
  refine T_pd [96] [(97,vp (pa m))]<|T_ed 1 [97] [(13,vp (pa m))]<|T_sz<|aA 13<|T_ed 3 [12] [(98,vs xB xN xC),(99,vi xN),(100,vi 0)]<|T_bz 2 ?_
  obtain⟨bs,m48,i33,i34⟩:=h
  refine cX (x:=K47) (σ:=Int) (λs_=> [(0,vq f),(1,vi g),(2,vi d),(10,vs e gensN gensC),(13,vp (pa m)),(98,vs xB xN xC),(99,vi xN),(100,vi s_)]) (λs_ H=>bs s_ H) (λs_ H=>m48 s_ H) (0:Int) (by kernel_rfl) i33 sk ?_
  rintro y H9 i35
  have h:=i34 y H9 i35
  refine T_su [(0,vq f),(1,vi g),(2,vi d),(10,vs e gensN gensC),(13,vp (pa m)),(98,vs xB xN xC),(99,vi xN),(100,vi y)]<|aA 14<|T_ed 1 [] [(101,.bool (decide (y< (xN:Int))))]<|T_sz ?_
  revert h;refine iO_ (λc36 h=>?_) (λc36 h=>?_)
  ·refine aJ 101 (zX c36)<|T_kt<|T_sz<|T_bz 3<|aA 15<|T_ud [101] [] ?_
   obtain⟨ao,rfl,q38,h⟩:=h
   refine T_xd (some 102) 75 3 1 ao xN xC .i64 y underlying75 q38.1 q38.2 [98] [(98,vs (some ao) xN xC),(102,vq (ao.add (Int.toNat y*1)))] ?_
   obtain⟨am,q39,h⟩:=h
   refine T_l1 103 3 q39 [102]<|T_ed 1 [103] [(15,vi am)]<|T_rz 16<|T_nd 4 [15] [(105,vi am),(107,vq ((ad m).add 2))] ?_
   obtain⟨q40,h⟩:=h
   refine T_v1 108 (bE 103 (vq ((ad m).add 2)) (vi am)) (vq (((ad m).add 2).add (Int.toNat am*1))) (λw _=>bF (P:=prog) (t:=103) (elem:=3) (sz:=1) (n:=1024) (a:=((ad m).add 2)) (k:=.i64) (i:=am) underlying103 (λ_=>by kernel_rfl) q40.1 q40.2 w) [105,107] ?_
   obtain⟨q42,h⟩:=h
   refine gL 3 (vi 1) q42 ?_
   intro b0 e41
   replace h:=h b0 e41
   exact T_pd [108] []<|zq<|aD<|aE<|T_rz 17<|T_ed 2 [100] [(100,vi (zY (y+1)))]<|aT ((zY (y+1)):Int) sk h
  refine aK 101 (zQ c36)<|zz 2<|aB<|aB<|aN<|aE<|T_sz<|aA 18<|T_nd 3 [98,99,100,101] [(112,vq f)] ?_
  obtain⟨bm,q43,h⟩:=h
  refine T_l1 113 49 q43 [112] ?_
  obtain⟨bl,rfl,h⟩:=h
  refine T_nd 2 [113] [(115,vq bl)] ?_
  obtain⟨bi,q44,h⟩:=h
  refine T_l1 116 52 q44 [115] ?_
  obtain⟨a7,rfl,h⟩:=h
  refine T_nd 2 [116] [(118,vq a7)] ?_
  obtain⟨aw,q45,h⟩:=h
  refine T_l1 119 78 q45 [118]<|T_nd 1 [2] [(120,vi d)]<|T_nw (some 121) (λhv=>vs (pa hv) 1 1) (.cells #[vi d] 3) ?_
  intro bp H11 e46 e47
  replace h:=h bp H11 e46 e47
  refine T_pd [120] [(121,vs (pa bp) 1 1)]<|T_c (some 122) h ?_;clear h
  rintro cj cg ⟨aq,j,r,rfl,h⟩
  refine T_pd [119,121] [(122,vs aq j r)]<|T_ed 2 [] [(123,vi j),(124,vi 0)]<|T_bz 4 ?_
  obtain⟨b6,m65,i48,i49⟩:=h
  refine cX (x:=K64) (σ:=Int) (λs_=> [(0,vq f),(1,vi g),(10,vs e gensN gensC),(13,vp (pa m)),(122,vs aq j r),(123,vi j),(124,vi s_)]) (λs_ H=>b6 s_ H) (λs_ H=>m65 s_ H) (0:Int) (by kernel_rfl) i48 sk ?_
  rintro p H13 i50
  have h:=i49 p H13 i50
  refine T_su [(0,vq f),(1,vi g),(10,vs e gensN gensC),(13,vp (pa m)),(122,vs aq j r),(123,vi j),(124,vi p)]<|aA 19<|T_ed 1 [] [(125,.bool (decide (p< (j:Int))))]<|T_sz ?_
  revert h;refine iO_ (λc51 h=>?_) (λc51 h=>?_)
  ·refine aJ 125 (zX c51)<|T_kt<|T_sz<|T_bz 5<|aA 20<|T_ud [125] [] ?_
   obtain⟨s,rfl,q53,h⟩:=h
   refine T_xd (some 126) 75 3 1 s j r .i64 p underlying75 q53.1 q53.2 [122] [(122,vs (some s) j r),(126,vq (s.add (Int.toNat p*1)))] ?_
   obtain⟨q,q54,h⟩:=h
   refine T_l1 127 3 q54 [126]<|T_ed 1 [127] [(17,vi q)]<|aA 21<|T_nd 3 [] [(131,vq f)] ?_
   obtain⟨bc,q55,h⟩:=h
   refine T_l1 132 49 q55 [131] ?_
   obtain⟨a9,rfl,h⟩:=h
   refine T_nd 2 [132] [(134,vq a9)] ?_
   obtain⟨bj,q56,h⟩:=h
   refine T_l1 135 52 q56 [134] ?_
   obtain⟨bg,rfl,h⟩:=h
   refine T_nd 2 [135] [(137,vq bg)] ?_
   obtain⟨a1,q57,h⟩:=h
   refine T_l1 138 78 q57 [137]<|T_nd 1 [] [(139,vi q)]<|T_c (some 140) h ?_;clear h
   rintro ch cd ⟨an,ai,a2,ac,af,ae,ab,rb,rfl,h⟩
   refine T_pd [138,139] [(140,.tuple #[.agg #[vi an,vi ai,vi a2,vi ac,vi af,vi ae,vi ab],.bool rb])]<|T_nd 3 [140] [(141,.agg #[vi an,vi ai,vi a2,vi ac,vi af,vi ae,vi ab]),(142,.bool rb)]<|T_nw (some 18) (λhv=>vp (pa hv)) (.cells #[vi 0,vi 0,vi 0,vi 0,vi 0,vi 0,vi 0] 108) ?_
   intro aa H15 e58 e59
   replace h:=h aa H15 e58 e59
   refine T_pd [] [(18,vp (pa aa))] ?_
   obtain⟨q61,h⟩:=h
   refine fT 108 [vi an,vi ai,vi a2,vi ac,vi af,vi ae,vi ab] q61 ?_
   intro ay e60
   replace h:=h ay e60
   refine T_pd [141] []<|T_ed 1 [142] [] ?_
   obtain⟨ah,q62,aj,q63,ak,q64,ag,q65,h⟩:=h
   refine yW 22 (Code.ops K77) [(14,((ad m).add 1026),[.map ah]),(14,((ad m).add 1027),[.map aj]),(16,((ad aa).add 2),[vi ak]),(19,((ad aa).add 2),[vi ag])] 20 (bv 20 0) (show aI _ _ _ from⟨⟨q62,trivial⟩,⟨q63,trivial⟩,⟨q64,trivial⟩,⟨q65,trivial⟩,trivial⟩)<|T_gp 0 (some 143) (vp (pa m)) (bv 20 1) [(0,vq f),(1,vi g),(10,vs e gensN gensC),(13,vp (pa m)),(17,vi q),(18,vp (pa aa)),(122,vs (some s) j r),(123,vi j),(124,vi p),(143,vp (pa m))]<|aG 1 144 (vp (pa m)) (bv 20 3) [143]<|aG 2 145 (vq ((ad m).add 1026)) (bv 20 7) [144]<|T_g1 3 146 (.map ah) (bv 20 15) [145] (aQ 102 (vq ((ad m).add 1026))) (yV 14 zw)<|aG 4 147 (vi q) (bv 20 31) []<|aG 5 148 (vp (pa m)) (bv 20 63) []<|aG 6 149 (vp (pa m)) (bv 20 127) [148]<|aG 7 150 (vq ((ad m).add 1027)) (bv 20 255) [149]<|T_g1 8 151 (.map aj) (bv 20 511) [150] (aQ 102 (vq ((ad m).add 1027))) (yV 14 yZ)<|aG 9 152 (vi q) (bv 20 1023) [17]<|aG 10 153 (vq ((ad aa).add 2)) (bv 20 2047) []<|T_g1 11 154 (vi ak) (bv 20 4095) [153] (aQ 3 (vq ((ad aa).add 2))) (yV 16 yX)<|aG 12 155 (vq ((ad aa).add 2)) (bv 20 8191) [18]<|T_g1 13 156 (vi ag) (bv 20 16383) [155] (aQ 3 (vq ((ad aa).add 2))) (yV 19 yQ) ?_
   obtain⟨mr,rfl,es,cl,ks,q68,q69,q73,h⟩:=h
   refine mp 14 (some 157) (bv 20 32767) (jx 102 (.map (some mr)) (vi q)) (λu Hz=> ∃es2 cl2 sp v0,Hz=bH ay mr (.map es2 cl2)/\Ents (cU .i64) es2.toList (mput ks q v0)/\Born es2 cl2/\ij es2 (vi q) sp/\u=.tuple #[v0,vi sp]) (by kernel_rfl) (λ_=>by kernel_rfl) (kJ (kk:=(cU .i64)) (z:=vi 0) underlying102 underlying3 (λ_=>by kernel_rfl) q68 q69 q73) (by kernel_rfl) ?_
   rintro _ H17 ⟨a4,cl_2,stamp,x_21,e71,e72,e74,e75,rfl⟩
   replace h:=h a4 cl_2 stamp x_21 H17 e71 e72 e74 e75
   obtain⟨f66,f67,h⟩:=h
   refine⟨[(0,vq f),(1,vi g),(10,vs e gensN gensC),(13,vp (pa m)),(122,vs (some s) j r),(123,vi j),(124,vi p),(146,.map (some mr)),(151,.map aj),(152,vi q),(154,vi ak),(156,vi ag),(157,.tuple #[x_21,vi stamp])],pk,(show aI _ _ _ from⟨trivial,trivial,f66,f67,trivial⟩),?_⟩
   refine T_g 15 (some 158) (vi stamp) (bv 20 65535) [(0,vq f),(1,vi g),(10,vs e gensN gensC),(13,vp (pa m)),(122,vs (some s) j r),(123,vi j),(124,vi p),(146,.map (some mr)),(151,.map aj),(152,vi q),(154,vi ak),(156,vi ag),(158,vi stamp)] (pure (.value (vi stamp)):Sem Next) (λ_ _ _ _ _=>rfl) ?_
   obtain⟨a8,cl_3,ks_2,k,q77,q78,q79,q80,h⟩:=h
   refine fX 16 none (bv 20 131071) (kv 102 (.map (some mr)) (vi stamp) (vi ak)) (λHz=> ∃es2,Hz=bH H17 mr (.map es2 cl_3)/\Ents (cU .i64) es2.toList (mput ks_2 k (vi ak))/\Born es2 cl_3) (by kernel_rfl) (λ_=>by kernel_rfl) (kK (kk:=(cU .i64)) q77 q78 q79 q80) (by kernel_rfl) ?_
   rintro H18 ⟨bk,e81,e82,e83⟩
   replace h:=h bk H18 e81 e82 e83
   obtain⟨f76,h⟩:=h
   refine⟨[(0,vq f),(1,vi g),(10,vs e gensN gensC),(13,vp (pa m)),(122,vs (some s) j r),(123,vi j),(124,vi p),(151,.map aj),(152,vi q),(156,vi ag)],pk,(show aI _ _ _ from⟨trivial,trivial,trivial,f76,trivial⟩),?_⟩
   obtain⟨al,rfl,bq,cl_4,ks_3,q85,q86,q90,h⟩:=h
   refine mp 17 (some 159) (bv 20 262143) (jx 102 (.map (some al)) (vi q)) (λu Hz=> ∃es2 cl2 sp v0,Hz=bH H18 al (.map es2 cl2)/\Ents (cU .i64) es2.toList (mput ks_3 q v0)/\Born es2 cl2/\ij es2 (vi q) sp/\u=.tuple #[v0,vi sp]) (by kernel_rfl) (λ_=>by kernel_rfl) (kJ (kk:=(cU .i64)) (z:=vi 0) underlying102 underlying3 (λ_=>by kernel_rfl) q85 q86 q90) (by kernel_rfl) ?_
   rintro _ H19 ⟨a3,cl_5,stamp_2,x_22,e88,e89,e91,e92,rfl⟩
   replace h:=h a3 cl_5 stamp_2 x_22 H19 e88 e89 e91 e92
   obtain⟨f84,h⟩:=h
   refine⟨[(0,vq f),(1,vi g),(10,vs e gensN gensC),(13,vp (pa m)),(122,vs (some s) j r),(123,vi j),(124,vi p),(151,.map (some al)),(156,vi ag),(159,.tuple #[x_22,vi stamp_2])],pk,(show aI _ _ _ from⟨trivial,trivial,trivial,f84,trivial⟩),?_⟩
   refine T_g 18 (some 160) (vi stamp_2) (bv 20 524287) [(0,vq f),(1,vi g),(10,vs e gensN gensC),(13,vp (pa m)),(122,vs (some s) j r),(123,vi j),(124,vi p),(151,.map (some al)),(156,vi ag),(160,vi stamp_2)] (pure (.value (vi stamp_2)):Sem Next) (λ_ _ _ _ _=>rfl) ?_
   obtain⟨bd,cl_6,ks_4,k_2,q93,q94,q95,q96,h⟩:=h
   refine fX 19 none (bv 20 1048575) (kv 102 (.map (some al)) (vi stamp_2) (vi ag)) (λHz=> ∃es2,Hz=bH H19 al (.map es2 cl_6)/\Ents (cU .i64) es2.toList (mput ks_4 k_2 (vi ag))/\Born es2 cl_6) (by kernel_rfl) (λ_=>by kernel_rfl) (kK (kk:=(cU .i64)) q93 q94 q95 q96) (by kernel_rfl) ?_
   rintro H20 ⟨bh,e97,e98,e99⟩
   replace h:=h bh H20 e97 e98 e99
   refine⟨[(0,vq f),(1,vi g),(10,vs e gensN gensC),(13,vp (pa m)),(122,vs (some s) j r),(123,vi j),(124,vi p)],pk,(show aI _ _ _ from⟨trivial,trivial,trivial,trivial,trivial⟩),?_⟩
   refine fE [(0,vq f),(1,vi g),(10,vs e gensN gensC),(13,vp (pa m)),(122,vs (some s) j r),(123,vi j),(124,vi p)] sk ?_
   exact yq<|aD<|aE<|T_rz 23<|T_ne 2 [(0,vq f),(1,vi g),(10,vs e gensN gensC),(13,vp (pa m)),(122,vs (some s) j r),(123,vi j),(124,vi (zY (p+1)))]<|aT ((zY (p+1)):Int) sk h
  refine aK 125 (zQ c51)<|zz 4<|aB<|aB<|aN<|aE<|aA 24<|T_nd 3 [122,123,124,125] [(164,vq f)] ?_
  obtain⟨bn,q100,h⟩:=h
  refine T_l1 165 49 q100 [164] ?_
  obtain⟨ba,rfl,h⟩:=h
  refine T_nd 2 [165] [(167,vq ba)] ?_
  obtain⟨az,q101,h⟩:=h
  refine T_l1 168 52 q101 [167]<|T_nd 1 [10] [(169,vs e gensN gensC)]<|T_c (some 170) h ?_;clear h
  intro v_5 ce h
  refine T_pd [168,169] []<|T_e<|aA 25<|T_nd 4 [0] [(171,vp (pa m)),(174,vq f)] ?_
  obtain⟨a0,q102,h⟩:=h
  refine T_l1 175 49 q102 [174]<|T_nd 1 [1] [(176,vi g)]<|T_c (some 177) h ?_;clear h
  rintro ck cc ⟨ax,au,av,rfl,h⟩
  refine T_pd [175,176] [(177,vs ax au av)]<|T_nd 2 [171] [(179,vq ((ad m).add 1028))] ?_
  obtain⟨q104,h⟩:=h
  refine gL 104 (vs ax au av) q104 ?_
  intro b8 e103
  replace h:=h b8 e103
  exact T_pd [177,179] []<|T_e<|aA 26<|T_nr 3 [8,9] [vp (pa m),vi 0] hQ h
 intro hk
 refine T_nu [(0,vq f),(1,vi g),(2,vi d),(3,vi o),(33,.bool (decide (g<0)))] ?_
 by_cases c2:g<0
 ·have b3:(decide (g<0))=true:=zX c2
  refine bT [(0,vq f),(1,vi g),(2,vi d),(3,vi o),(33,vT)] (by rw[b3]) ?_
  refine T_nd 18 [33] [(51,vT)]<|zq<|S_bd 51 (b:=true) (v:=(((((decide (g<0)) || (decide (g>=4))) || (decide (d<g))) || (decide (d>(zY (g+1))))) || (decide (o<0)))) (by simp only[b3,BL]) ?_
  exact hk
 have b3:(decide (g<0))=false:=zQ c2
 refine bT [(0,vq f),(1,vi g),(2,vi d),(3,vi o),(33,vF)] (by rw[b3]) ?_
 refine T_nd 4 [33] [(37,.bool (decide (g>=4)))] ?_
 by_cases c4:g>=4
 ·have b5:(decide (g>=4))=true:=zX c4
  refine N_bd 37 b5<|T_nd 14 [37] [(51,vT)] ?_
  refine zq<|S_bd 51 (b:=true) (v:=(((((decide (g<0)) || (decide (g>=4))) || (decide (d<g))) || (decide (d>(zY (g+1))))) || (decide (o<0)))) (by simp only[b3,b5,BL]) ?_
  exact hk
 have b5:(decide (g>=4))=false:=zQ c4
 refine N_bd 37 b5<|T_nd 5 [37] [(42,.bool (decide (d<g)))] ?_
 by_cases c6:d<g
 ·have b7:(decide (d<g))=true:=zX c6
  refine N_bd 42 b7<|T_nd 9 [42] [(51,vT)] ?_
  refine zq<|S_bd 51 (b:=true) (v:=(((((decide (g<0)) || (decide (g>=4))) || (decide (d<g))) || (decide (d>(zY (g+1))))) || (decide (o<0)))) (by simp only[b3,b5,b7,BL]) ?_
  exact hk
 have b7:(decide (d<g))=false:=zQ c6
 refine N_bd 42 b7<|T_nd 6 [42] [(48,.bool (decide (d>(zY (g+1)))))] ?_
 by_cases c8:d>(zY (g+1))
 ·have b9:(decide (d>(zY (g+1))))=true:=zX c8
  refine N_bd 48 b9<|T_nd 3 [48] [(51,vT)] ?_
  refine zq<|S_bd 51 (b:=true) (v:=(((((decide (g<0)) || (decide (g>=4))) || (decide (d<g))) || (decide (d>(zY (g+1))))) || (decide (o<0)))) (by simp only[b3,b5,b7,b9,BL]) ?_
  exact hk
 have b9:(decide (d>(zY (g+1))))=false:=zQ c8
 refine N_bd 48 b9<|T_nd 3 [48] [(51,.bool (decide (o<0)))] ?_
 refine zq<|S_bd 51 (b:=(decide (o<0))) (v:=(((((decide (g<0)) || (decide (g>=4))) || (decide (d<g))) || (decide (d>(zY (g+1))))) || (decide (o<0)))) (by simp only[b3,b5,b7,b9,BL]) ?_
 exact hk
end eI
/-! (*moraine/trace.Trace).Visit -/
namespace aR
def K0:=Func.code f13
def K2:=cb K0
def K4:=cb K2
def K10:=cb K4
def K20:=cb K10
def K22:=cb K20
def K30:=cb K22
def K32:=cb K30
def K33:=ca K32
def K34:=cb K32
def K36:=cb K34
def K41:=ca K36
def K44:=cb K41
def K45:=ca K44
def K46:=ca K45
end aR
def aR.pt(tv:zW)(wv:Int)(H:zV)(R:zj):Prop:=
 cy.C tv wv H (λv H1=> ∃x,v=.bool x/\
 if x=true then(
 bU.C tv wv H1 (λbw H2=> ∃ra rb,bw=.tuple #[vu ra,.bool rb]/\
 if rb=true then(
 R (vu ra) H2)
 else
 ∃d,tv=some d/\
 ∃a2,hat H2 d=some (vp a2)/\
 dK.C a2 wv H2 (λbz H3=> ∃f,bz=vi f/\
 if f=0 then(
 R (vu wv) H3)
 else
 dZ.C wv H3 (λbu H4=> ∃a be,bu=.tuple #[vi a,.bool be]/\
 ∃ba,hat H4 d=some (vp ba)/\
 ∃bd,ba=some bd/\
 ∃a9,hat H4 bd=some (vp a9)/\
 ∃a7,a9=some a7/\
 ∃a8,hat H4 a7=some (vp a8)/\
 ∃bb,a8=some bb/\
 ∃ax,hat H4 bb=some (vp ax)/\
 bA.C ax (zY (Int.tdiv a 64)) H4 (λbx H5=> ∃s q af j m k i ag,bx=.tuple #[.agg #[vi s,vi q,vi af,vi j,vi m,vi k,vi i],.bool ag]/\
 ∀b H6,b=H5.size->H6=H5.push (.cells #[vi 0,vi 0,vi 0,vi 0,vi 0,vi 0,vi 0] 108)->
 (aM H6 (ad b) 0 7)/\ ∀H7,H7=aP H6 (ad b) [vi s,vi q,vi af,vi j,vi m,vi k,vi i] 0->
 ∃bk,hat H7 d=some (vp bk)/\
 ∃u,bk=some u/\
 ∃bj,hat H7 u=some (vp bj)/\
 ∃t,bj=some t/\
 ∃r,hat H7 t=some (vp r)/\
 ∃y,hat H7 (d.add 1)=some (vi y)/\
 ∃z,hat H7 ((ad b).add 1)=some (vi z)/\
 bO.C r y z f H7 (λb0 H8=> ∃e n,b0=.tuple #[vi e,vi n]/\
 if n=0 then(
 ∃(bc:zk) (m47:Int->zV->Nat),bc 0 H8/\ ∀g H9,bc g H9->
 if g<f then(
 ∃ap,hat H9 d=some (vp ap)/\
 ∃az,ap=some az/\
 ∃aw,hat H9 az=some (vp aw)/\
 ∃aq,aw=some aq/\
 ∃a1,hat H9 aq=some (vp a1)/\
 ∃ay,a1=some ay/\
 ∃ab,hat H9 ay=some (vp ab)/\
 bN.C ab (zY (a+g)) H9 (λbt a5=> ∃p bg,bt=.tuple #[vu p,vi bg]/\
 ∃a0,hat a5 d=some (vp a0)/\
 ∃an,a0=some an/\
 ∃a3,hat a5 an=some (vp a3)/\
 ∃ai,a3=some ai/\
 ∃au,hat a5 ai=some (vp au)/\
 ∃am,au=some am/\
 ∃ae,hat a5 am=some (vp ae)/\
 bG.C ae (zY (e+g)) p a5 (λb1 bl=> ∃bp,b1=vi bp/\
 (bc (zY (g+1)) bl/\m47 (zY (g+1)) bl<m47 g H9))))
 else
 fK.C 6 e H9 (λbs a6=> ∃o bf,bs=.tuple #[vu o,vi bf]/\
 ∃al,hat a6 d=some (vp al)/\
 ∃aj,al=some aj/\
 ∃a4,hat a6 aj=some (vp a4)/\
 ∃av,a4=some av/\
 ∃ak,hat a6 av=some (vp ak)/\
 ∃ao,ak=some ao/\
 ∃aa,hat a6 ao=some (vp aa)/\
 bG.C aa a o a6 (λbi br=> ∃bo,bi=vi bo/\
 dU.C wv br (λbm b3=> ∃ah,bm=vi ah/\
 fK.C ah e b3 (λbn bq=> ∃ac bh,bn=.tuple #[vu ac,vi bh]/\
 R (vu ac) bq)))))
 else
 R (vu wv) H8))))))
 else
 R (vu wv) H1)
namespace aR
theorem link{wv:Int}(h:pt a wv H b):C a wv H b:=by
 refine T_en K0 163 func13 ?_
 intro w0 Q hQ
 unfold pt zY at h
 refine T_su [(0,vp a),(1,vu wv)]<|aA 0<|T_ed 1 [] []<|T_sz<|aA 1<|T_nd 2 [] [(21,vp a),(22,vu wv)]<|T_c (some 23) h ?_;clear h
 rintro v H1 ⟨x,rfl,h⟩
 refine T_pd [21,22] [(23,.bool x)]<|T_ed 1 [23] [(24,.bool (!x))] ?_
 revert h;refine iO_ (λc1 h=>?_) (λc1 h=>?_)
 ·refine aK 24 (congrArg Bool.not (c1))<|T_kt<|T_sz<|aA 3<|T_nd 2 [24] [(27,vp a),(28,vu wv)]<|T_c (some 29) h ?_;clear h
  rintro bw H2 ⟨ra,rb,rfl,h⟩
  refine T_pd [27,28] [(29,.tuple #[vu ra,.bool rb])]<|T_ed 5 [29] [(5,vu ra),(6,.bool rb)]<|aA 4<|T_ed 1 [6] [(32,.bool rb)] ?_
  revert h;refine iO_ (λc3 h=>?_) (λc3 h=>?_)
  ·exact aJ 32 c3<|aA 5<|T_nr 2 [4] [vu ra] hQ h
  refine aK 32 (zZ c3)<|T_kt<|aA 6<|T_nd 1 [5,32] [(34,vp a)] ?_
  obtain⟨d,rfl,h⟩:=h
  refine T_nd 2 [0,34] [(0,vq d),(36,vq d)] ?_
  obtain⟨a2,q5,h⟩:=h
  refine T_l1 37 23 q5 [36]<|T_nd 1 [] [(38,vu wv)]<|T_c (some 39) h ?_;clear h
  rintro bz H3 ⟨f,rfl,h⟩
  refine T_pd [37,38] [(39,vi f)]<|T_ed 1 [39] [(7,vi f)]<|T_sz<|aA 7<|T_ed 2 [] [(41,.bool (f==0))] ?_
  revert h;refine iO_ (λc6 h=>?_) (λc6 h=>?_)
  ·exact aJ 41 (zK c6)<|aA 8<|T_nr 2 [4] [vu wv] hQ h
  refine aK 41 (zJ c6)<|T_kt<|aA 9<|T_nd 1 [41] [(44,vu wv)]<|T_c (some 45) h ?_;clear h
  rintro bu H4 ⟨R,be,rfl,h⟩
  refine T_pd [44] [(45,.tuple #[vi R,.bool be])]<|T_ed 5 [45] [(8,vi R)]<|aA 10<|T_nd 3 [] [(51,vq d)] ?_
  obtain⟨ba,q8,h⟩:=h
  refine T_l1 52 23 q8 [51] ?_
  obtain⟨bd,rfl,h⟩:=h
  refine T_nd 2 [52] [(54,vq bd)] ?_
  obtain⟨a9,q9,h⟩:=h
  refine T_l1 55 49 q9 [54] ?_
  obtain⟨a7,rfl,h⟩:=h
  refine T_nd 2 [55] [(57,vq a7)] ?_
  obtain⟨a8,q10,h⟩:=h
  refine T_l1 58 52 q10 [57] ?_
  obtain⟨bb,rfl,h⟩:=h
  refine T_nd 2 [58] [(60,vq bb)] ?_
  obtain⟨ax,q11,h⟩:=h
  refine T_l1 61 78 q11 [60]<|T_nd 2 [] [(63,vi (zY (Int.tdiv R 64)))]<|T_c (some 64) h ?_;clear h
  rintro bx H5 ⟨s,q,af,j,m,k,i,ag,rfl,h⟩
  refine T_pd [61,63] [(64,.tuple #[.agg #[vi s,vi q,vi af,vi j,vi m,vi k,vi i],.bool ag])]<|T_nd 3 [64] [(65,.agg #[vi s,vi q,vi af,vi j,vi m,vi k,vi i]),(66,.bool ag)]<|T_nw (some 10) (λtv=>vp (pa tv)) (.cells #[vi 0,vi 0,vi 0,vi 0,vi 0,vi 0,vi 0] 108) ?_
  intro tv H6 e12 e13
  replace h:=h tv H6 e12 e13
  refine T_pd [] [(10,vp (pa tv))] ?_
  obtain⟨q15,h⟩:=h
  refine fT 108 [vi s,vi q,vi af,vi j,vi m,vi k,vi i] q15 ?_
  intro H7 e14
  replace h:=h H7 e14
  refine T_pd [65] []<|T_ed 1 [66] []<|T_sz ?_
  obtain⟨bk,q16,u,rfl,bj,q17,t,rfl,r,q18,y,q19,z,q20,h⟩:=h
  refine yW 11 (Code.ops K33) [(17,d,[vq u]),(17,u,[vq t]),(17,t,[vp r]),(17,(d.add 1),[vi y]),(17,((ad tv).add 1),[vi z])] 23 (bv 23 0) (show aI _ _ _ from⟨⟨q16,trivial⟩,⟨q17,trivial⟩,⟨q18,trivial⟩,⟨q19,trivial⟩,⟨q20,trivial⟩,trivial⟩)<|T_gp 0 (some 68) (vq d) (bv 23 1) [(0,vq d),(1,vu wv),(7,vi f),(8,vi R),(10,vp (pa tv)),(68,vq d)]<|aG 1 69 (vq d) (bv 23 3) [68]<|aG 2 70 (vq d) (bv 23 7) [69]<|T_g1 3 71 (vq u) (bv 23 15) [70] (aQ 23 (vq d)) (yV 17 zw)<|aG 4 72 (vq u) (bv 23 31) [71]<|aG 5 73 (vq u) (bv 23 63) [72]<|T_g1 6 74 (vq t) (bv 23 127) [73] (aQ 49 (vq u)) (yV 17 yZ)<|aG 7 75 (vq t) (bv 23 255) [74]<|aG 8 76 (vq t) (bv 23 511) [75]<|T_g1 9 77 (vp r) (bv 23 1023) [76] (aQ 52 (vq t)) (yV 17 yX)<|aG 10 78 (vq d) (bv 23 2047) []<|aG 11 79 (vq d) (bv 23 4095) [78]<|aG 12 80 (vq (d.add 1)) (bv 23 8191) [79]<|T_g1 13 81 (vi y) (bv 23 16383) [80] (aQ 3 (vq (d.add 1))) (yV 17 yQ)<|aG 14 82 (vq ((ad tv).add 1)) (bv 23 32767) [10]<|T_g1 15 83 (vi z) (bv 23 65535) [82] (aQ 3 (vq ((ad tv).add 1))) (yV 17 yJ)<|aG 16 84 (vi f) (bv 23 131071) []<|yY 17 (some 85) (bv 23 262143) 53 #[vp r,vi y,vi z,vi f] h ?_;clear h
  rintro b0 H8 ⟨e,n,rfl,h⟩
  refine⟨[(0,vq d),(1,vu wv),(7,vi f),(8,vi R),(85,.tuple #[vi e,vi n])],pk,(show aI _ _ _ from⟨trivial,trivial,trivial,trivial,trivial,trivial⟩),?_⟩
  refine T_g 18 (some 67) (.tuple #[vi e,vi n]) (bv 23 524287) [(0,vq d),(1,vu wv),(7,vi f),(8,vi R),(67,.tuple #[vi e,vi n])] (pure (.value (.tuple #[vi e,vi n])):Sem Next) (λ_ _ _ _ _=>rfl)<|T_g1 19 86 (vi e) (bv 23 1048575) [] (pure (.value (vi e)):Sem Next) (λ_ _ _ _ _=>rfl)<|T_g1 20 87 (vi n) (bv 23 2097151) [67] (pure (.value (vi n)):Sem Next) (λ_ _ _ _ _=>rfl)<|T_g1 21 12 (vi e) (bv 23 4194303) [86] (pure (.value (vi e)):Sem Next) (λ_ _ _ _ _=>rfl)<|T_g1 22 13 (vi n) (bv 23 8388607) [87] (pure (.value (vi n)):Sem Next) (λ_ _ _ _ _=>rfl)<|fE [(0,vq d),(1,vu wv),(7,vi f),(8,vi R),(12,vi e),(13,vi n)] sk<|yq<|aE<|T_sz<|aA 12<|T_ne 2 [(0,vq d),(1,vu wv),(7,vi f),(8,vi R),(12,vi e),(89,.bool (n !=0))] ?_
  revert h;refine iO_ (λc21 h=>?_) (λc21 h=>?_)
  ·refine aK 89 (bne_eq_false_iff_eq.mpr c21)<|T_kt<|T_sz<|aA 14<|T_ed 2 [7,89] [(91,vi f),(92,vi 0)]<|T_bz 0 ?_
   obtain⟨bc,m47,i23,i24⟩:=h
   refine cX (x:=K46) (σ:=Int) (λs_=> [(0,vq d),(1,vu wv),(8,vi R),(12,vi e),(91,vi f),(92,vi s_)]) (λs_ H=>bc s_ H) (λs_ H=>m47 s_ H) (0:Int) (by kernel_rfl) i23 sk ?_
   rintro g H9 i25
   have h:=i24 g H9 i25
   refine T_su [(0,vq d),(1,vu wv),(8,vi R),(12,vi e),(91,vi f),(92,vi g)]<|aA 15<|T_ed 1 [] [(93,.bool (decide (g<f)))]<|T_sz ?_
   revert h;refine iO_ (λc26 h=>?_) (λc26 h=>?_)
   ·refine aJ 93 (zX c26)<|T_kt<|T_sz<|T_bz 1<|aA 16<|T_ed 2 [93] [(14,vi g)]<|aA 17<|T_nd 3 [] [(98,vq d)] ?_
    obtain⟨ap,q28,h⟩:=h
    refine T_l1 99 23 q28 [98] ?_
    obtain⟨az,rfl,h⟩:=h
    refine T_nd 2 [99] [(101,vq az)] ?_
    obtain⟨aw,q29,h⟩:=h
    refine T_l1 102 49 q29 [101] ?_
    obtain⟨aq,rfl,h⟩:=h
    refine T_nd 2 [102] [(104,vq aq)] ?_
    obtain⟨a1,q30,h⟩:=h
    refine T_l1 105 52 q30 [104] ?_
    obtain⟨ay,rfl,h⟩:=h
    refine T_nd 2 [105] [(107,vq ay)] ?_
    obtain⟨ab,q31,h⟩:=h
    refine T_l1 108 78 q31 [107]<|T_nd 3 [] [(111,vi (zY (R+g)))]<|T_c (some 112) h ?_;clear h
    rintro bt a5 ⟨p,bg,rfl,h⟩
    refine T_pd [108,111] [(112,.tuple #[vu p,vi bg])]<|T_ed 5 [112] [(15,vu p)]<|T_rz 18<|T_nd 3 [] [(117,vq d)] ?_
    obtain⟨a0,q32,h⟩:=h
    refine T_l1 118 23 q32 [117] ?_
    obtain⟨an,rfl,h⟩:=h
    refine T_nd 2 [118] [(120,vq an)] ?_
    obtain⟨a3,q33,h⟩:=h
    refine T_l1 121 49 q33 [120] ?_
    obtain⟨ai,rfl,h⟩:=h
    refine T_nd 2 [121] [(123,vq ai)] ?_
    obtain⟨au,q34,h⟩:=h
    refine T_l1 124 52 q34 [123] ?_
    obtain⟨am,rfl,h⟩:=h
    refine T_nd 2 [124] [(126,vq am)] ?_
    obtain⟨ae,q35,h⟩:=h
    refine T_l1 127 78 q35 [126]<|T_nd 4 [14,15] [(130,vi (zY (e+g))),(131,vu p)]<|T_c (some 132) h ?_;clear h
    rintro b1 bl ⟨bp,rfl,h⟩
    exact T_pd [127,130,131] []<|zq<|aD<|aE<|T_rz 19<|T_ed 2 [92] [(92,vi (zY (g+1)))]<|aT ((zY (g+1)):Int) sk h
   refine aK 93 (zQ c26)<|zz 0<|aB<|aB<|aN<|aE<|aA 20<|T_nd 1 [91,92,93] [(135,vi e)]<|T_c (some 136) h ?_;clear h
   rintro bs a6 ⟨o,bf,rfl,h⟩
   refine T_pd [135] [(136,.tuple #[vu o,vi bf])]<|T_ed 5 [136] [(17,vu o)]<|aA 21<|T_nd 3 [0] [(141,vq d)] ?_
   obtain⟨al,q36,h⟩:=h
   refine T_l1 142 23 q36 [141] ?_
   obtain⟨aj,rfl,h⟩:=h
   refine T_nd 2 [142] [(144,vq aj)] ?_
   obtain⟨a4,q37,h⟩:=h
   refine T_l1 145 49 q37 [144] ?_
   obtain⟨av,rfl,h⟩:=h
   refine T_nd 2 [145] [(147,vq av)] ?_
   obtain⟨ak,q38,h⟩:=h
   refine T_l1 148 52 q38 [147] ?_
   obtain⟨ao,rfl,h⟩:=h
   refine T_nd 2 [148] [(150,vq ao)] ?_
   obtain⟨aa,q39,h⟩:=h
   refine T_l1 151 78 q39 [150]<|T_nd 2 [8,17] [(152,vi R),(153,vu o)]<|T_c (some 154) h ?_;clear h
   rintro bi br ⟨bo,rfl,h⟩
   refine T_pd [151,152,153] []<|T_e<|aA 22<|T_nd 1 [1] [(156,vu wv)]<|T_c (some 157) h ?_;clear h
   rintro bm b3 ⟨ah,rfl,h⟩
   refine T_pd [156] [(157,vi ah)]<|T_nd 1 [12] [(158,vi e)]<|T_c (some 159) h ?_;clear h
   rintro bn bq ⟨ac,bh,rfl,h⟩
   refine⟨[(159,.tuple #[vu ac,vi bh])],pk,?_⟩
   exact T_ne 5 [(19,vu ac)]<|aA 23<|T_nr 2 [4] [vu ac] hQ h
  exact aJ 89 (bne_iff_ne.mpr c21)<|aA 13<|T_nr 2 [4] [vu wv] hQ h
 exact aJ 24 (congrArg Bool.not (zZ c1))<|aA 2<|T_nr 2 [4] [vu wv] hQ h
end aR
/-! (*moraine/trace.Trace).Drain -/
namespace bM
def K0:=Func.code f14
def K1:=ca K0
def K2:=ca K1
end bM
def bM.pt(tv:zW)(H:zV)(R:zj):Prop:=
 ∃(I3:zV->Prop) (m3:zV->Nat),I3 H/\ ∀H1,I3 H1->
 bC.C tv H1 (λv H2=> ∃x,v=.bool x/\
 if x=true then(
 R (.tuple #[]) H2)
 else
 cH.C tv H2 (λb H3=> ∃a,b=.bool a/\
 if a=true then(
 (I3 H3/\m3 H3<m3 H1))
 else
 R (.tuple #[]) H3))
namespace bM
theorem link(h:pt a H b):C a H b:=by
 refine T_en K0 9 func14 ?_
 intro w0 Q hQ
 unfold pt at h
 refine T_su [(0,vp a)]<|T_bz 0 ?_
 obtain⟨I3,m3,i1,i2⟩:=h
 refine cX (x:=K2) (σ:=Unit) (λs_=> [(0,vp a)]) (λs_ H=>I3 H) (λs_ H=>m3 H) (():Unit) (by kernel_rfl) i1 sk ?_
 rintro _ H1 i3
 have h:=i2 H1 i3
 refine T_su [(0,vp a)]<|T_sz<|aA 0<|T_nd 1 [] [(2,vp a)]<|T_c (some 3) h ?_;clear h
 rintro v H2 ⟨x,rfl,h⟩
 refine T_pd [2] [(3,.bool x)]<|T_nd 2 [3] [(5,.bool (!x))] ?_
 revert h;refine iO_ (λc4 h=>?_) (λc4 h=>?_)
 ·have b5:(!x)=false:=congrArg Bool.not (c4)
  have b52:x=true:=c4
  refine N_bd 5 (b:=(!x)) (v:=false) (by simp only[b5,b52,Bool.not_true,Bool.not_false]) ?_
  clear b5 b52
  exact T_ed 3 [5] [(8,vF)]<|T_fz 8<|zz 0<|aB<|aB<|aN<|fI (fn:=f14) [] hQ (show dY _ _ _ [] _ from .nil) h
 have b5:(!x)=true:=congrArg Bool.not (zZ c4)
 have b52:x=false:=zZ c4
 refine N_bd 5 (b:=(!x)) (v:=true) (by simp only[b5,b52,Bool.not_true,Bool.not_false]) ?_
 clear b5 b52
 refine T_nd 1 [] [(6,vp a)]<|T_c (some 7) h ?_;clear h
 rintro tv H3 ⟨R,rfl,h⟩
 refine T_pd [6] [(7,.bool R)]<|T_ed 1 [5,7] [(8,.bool R)] ?_
 revert h;refine iO_ (λc6 h=>?_) (λc6 h=>?_)
 ·exact aJ 8 c6<|T_kt<|T_bz 1<|T_k<|aD<|aE<|aT (s:=()) (():Unit) sk h
 exact aK 8 (zZ c6)<|zz 0<|aB<|aB<|aN<|fI (fn:=f14) [] hQ (show dY _ _ _ [] _ from .nil) h
end bM
/-! (*moraine/trace.Trace).End -/
namespace cx
def K0:=Func.code f16
def K2:=cb K0
def K7:=ca K2
def K8:=cb K2
def K10:=cb K7
def K11:=ca K10
def K12:=ca K11
def K28:=ca K8
def K31:=cb K28
def K32:=ca K31
def K33:=ca K32
def K35:=cb K33
def K37:=cb K35
def K40:=ca K37
def K42:=ca K40
def K44:=cb K42
end cx
def cx.pt(tv:zW)(H:zV)(R:zj):Prop:=
 bC.C tv H (λv H1=> ∃x,v=.bool x/\
 if x=true then(
 R (.tuple #[]) H1)
 else
 ∃d,tv=some d/\
 ∃g:List Value,g.length=1024/\aU H1 (d.add 2) 0 g/\
 ∃(aa:zk) (m13:Int->zV->Nat),aa 0 H1/\ ∀e H2,aa e H2->
 if e<1024 then(
 ∃s,((0<=e/\e< (1024:Int))/\((g:List Value).toArray)[Int.toNat e]?=some (vi s))/\
 if s=1 then(
 ∃ag,hat H2 d=some (vp ag)/\
 ∃ae,ag=some ae/\
 ∃ac,hat H2 ae=some (vp ac)/\
 ∃af,ac=some af/\
 ∃z,hat H2 af=some (vp z)/\
 cQ.C z e H2 (λaj H3=> ∃ak,aj=vi ak/\
 (aa (zY (e+1)) H3/\m13 (zY (e+1)) H3<m13 e H2)))
 else
 (aa (zY (e+1)) H2/\m13 (zY (e+1)) H2<m13 e H2))
 else
 ∃xB xN xC,hat H2 (d.add 1028)=some (vs xB xN xC)/\
 ∃(ab:zk) (m34:Int->zV->Nat),ab 0 H2/\ ∀f H4,ab f H4->
 if f< (xN:Int)then(
 ∃j,xB=some j/\
 zv f xN/\
 ∃p m,aU H4 (j.add (Int.toNat f*2)) 0 [vi p,vi m]/\
 ∀b H5,b=H4.size->H5=H4.push (.cells #[vi 0,vi 0] 127)->
 (aM H5 (ad b) 0 2)/\ ∀H6,H6=aP H5 (ad b) [vi p,vi m] 0->
 ∃ai,hat H6 d=some (vp ai)/\
 ∃o,ai=some o/\
 ∃r,hat H6 o=some (vp r)/\
 ∃q,hat H6 (ad b)=some (vi q)/\
 ∃u,hat H6 ((ad b).add 1)=some (vi u)/\
 cR.C r q u H6 (λal H7=> ∃ah,al=vi ah/\
 (ab (zY (f+1)) H7/\m34 (zY (f+1)) H7<m34 f H4)))
 else
 ∃y,hat H4 d=some (vp y)/\
 dM.C y H4 (λ_ H8=>
 (aM H8 (d.add 1029) 0 1)/\ ∀H9,H9=aP H8 (d.add 1029) [vi 1] 0->
 R (.tuple #[]) H9))
namespace cx
theorem link(h:pt a H b):C a H b:=by
 refine T_en K0 61 func16 ?_
 intro w0 Q hQ
 unfold pt zY at h
 refine T_su [(0,vp a)]<|T_sz<|aA 0<|T_nd 1 [] [(6,vp a)]<|T_c (some 7) h ?_;clear h
 rintro v H1 ⟨x,rfl,h⟩
 refine T_pd [6] [(7,.bool x)]<|T_e ?_
 revert h;refine iO_ (λc1 h=>?_) (λc1 h=>?_)
 ·exact aJ 7 c1<|fB [] [] hQ h
 refine aK 7 (zZ c1)<|T_kt<|T_sz<|aA 1<|T_nd 1 [7] [(8,vp a)] ?_
 obtain⟨d,rfl,h⟩:=h
 refine T_n 2 [(0,vq d),(10,vq (d.add 2))] ?_
 obtain⟨g,l4,q3,h⟩:=h
 refine T_v1 11 (aQ 103 (vq (d.add 2))) (.agg (g).toArray) (fZ (gX (λ_=>by kernel_rfl) (λw=>by rw[l4];kernel_rfl) q3)) [10]<|T_ed 1 [] [(12,vi 0)]<|T_bz 0 ?_
 obtain⟨aa,m13,i5,i6⟩:=h
 refine cX (x:=K12) (σ:=Int) (λs_=> [(0,vq d),(11,.agg (g).toArray),(12,vi s_)]) (λs_ H=>aa s_ H) (λs_ H=>m13 s_ H) (0:Int) (by kernel_rfl) i5 sk ?_
 rintro e H2 i7
 have h:=i6 e H2 i7
 refine T_su [(0,vq d),(11,.agg (g).toArray),(12,vi e)]<|aA 2<|T_ed 1 [] [(13,.bool (decide (e<1024)))]<|T_sz ?_
 revert h;refine iO_ (λc8 h=>?_) (λc8 h=>?_)
 ·refine aJ 13 (zX c8)<|T_kt<|T_sz<|T_bz 1<|aA 3<|T_nd 1 [13] [(14,vi e)] ?_
  obtain⟨s,q10,h⟩:=h
  refine T_v1 15 (kG 103 (.agg (g).toArray) (vi e)) (vi s) (λw _=>iB (P:=prog) (t:=103) (elem:=3) (n:=1024) underlying103 (λ_=>by kernel_rfl) (λ_=>by kernel_rfl) q10.1.1 q10.1.2 q10.2 w) []<|T_ed 2 [14,15] [(2,vi e),(3,vi s)]<|aA 4<|T_ed 2 [3] [(17,.bool (s==1))] ?_
  revert h;refine iO_ (λc11 h=>?_) (λc11 h=>?_)
  ·refine aJ 17 (zK c11)<|T_rz 5<|T_nd 3 [17] [(20,vq d)] ?_
   obtain⟨ag,q13,h⟩:=h
   refine T_l1 21 23 q13 [20] ?_
   obtain⟨ae,rfl,h⟩:=h
   refine T_nd 2 [21] [(23,vq ae)] ?_
   obtain⟨ac,q14,h⟩:=h
   refine T_l1 24 49 q14 [23] ?_
   obtain⟨af,rfl,h⟩:=h
   refine T_nd 2 [24] [(26,vq af)] ?_
   obtain⟨z,q15,h⟩:=h
   refine T_l1 27 52 q15 [26]<|T_nd 1 [2] [(28,vi e)]<|T_c (some 29) h ?_;clear h
   rintro aj H3 ⟨ak,rfl,h⟩
   exact T_pd [27,28] []<|zq<|aD<|aE<|T_rz 6<|T_ed 2 [12] [(12,vi (zY (e+1)))]<|aT ((zY (e+1)):Int) sk h
  exact aK 17 (zJ c11)<|T_k<|aD<|aE<|T_rz 6<|T_ed 2 [2,12,17] [(12,vi (zY (e+1)))]<|aT ((zY (e+1)):Int) sk h
 refine aK 13 (zQ c8)<|zz 0<|aB<|aB<|aN<|aE<|T_sz<|aA 7<|T_nd 3 [11,12,13] [(33,vq (d.add 1028))] ?_
 obtain⟨xB,xN,xC,q16,h⟩:=h
 refine T_l1 34 104 q16 [33]<|T_ed 2 [] [(35,vi xN),(36,vi 0)]<|T_bz 2 ?_
 obtain⟨ab,m34,i17,i18⟩:=h
 refine cX (x:=K33) (σ:=Int) (λs_=> [(0,vq d),(34,vs xB xN xC),(35,vi xN),(36,vi s_)]) (λs_ H=>ab s_ H) (λs_ H=>m34 s_ H) (0:Int) (by kernel_rfl) i17 sk ?_
 rintro f H4 i19
 have h:=i18 f H4 i19
 refine T_su [(0,vq d),(34,vs xB xN xC),(35,vi xN),(36,vi f)]<|aA 8<|T_ed 1 [] [(37,.bool (decide (f< (xN:Int))))]<|T_sz ?_
 revert h;refine iO_ (λc20 h=>?_) (λc20 h=>?_)
 ·refine aJ 37 (zX c20)<|T_kt<|T_sz<|T_bz 3<|aA 9<|T_ud [37] [] ?_
  obtain⟨j,rfl,q22,h⟩:=h
  refine T_xd (some 38) 104 127 2 j xN xC .i64 f underlying104 q22.1 q22.2 [34] [(34,vs (some j) xN xC),(38,vq (j.add (Int.toNat f*2)))] ?_
  obtain⟨p,m,q23,h⟩:=h
  refine T_lr 39 127 q23 [38]<|T_nw (some 5) (λR=>vp (pa R)) (.cells #[vi 0,vi 0] 127) ?_
  intro R H5 e24 e25
  replace h:=h R H5 e24 e25
  refine T_pd [] [(5,vp (pa R))] ?_
  obtain⟨q27,h⟩:=h
  refine fT 127 [vi p,vi m] q27 ?_
  intro H6 e26
  replace h:=h H6 e26
  refine T_pd [39] []<|T_e ?_
  obtain⟨ai,q28,o,rfl,r,q29,q,q30,u,q31,h⟩:=h
  refine yW 10 (Code.ops K44) [(11,d,[vq o]),(11,o,[vp r]),(11,(ad R),[vi q]),(11,((ad R).add 1),[vi u])] 12 (bv 12 0) (show aI _ _ _ from⟨⟨q28,trivial⟩,⟨q29,trivial⟩,⟨q30,trivial⟩,⟨q31,trivial⟩,trivial⟩)<|T_gp 0 (some 40) (vq d) (bv 12 1) [(0,vq d),(5,vp (pa R)),(34,vs (some j) xN xC),(35,vi xN),(36,vi f),(40,vq d)]<|aG 1 41 (vq d) (bv 12 3) [40]<|aG 2 42 (vq d) (bv 12 7) [41]<|T_g1 3 43 (vq o) (bv 12 15) [42] (aQ 23 (vq d)) (yV 11 zw)<|aG 4 44 (vq o) (bv 12 31) [43]<|aG 5 45 (vq o) (bv 12 63) [44]<|T_g1 6 46 (vp r) (bv 12 127) [45] (aQ 49 (vq o)) (yV 11 yZ)<|aG 7 47 (vp (pa R)) (bv 12 255) []<|T_g1 8 48 (vi q) (bv 12 511) [47] (aQ 3 (vp (pa R))) (yV 11 yX)<|aG 9 49 (vq ((ad R).add 1)) (bv 12 1023) [5]<|T_g1 10 50 (vi u) (bv 12 2047) [49] (aQ 3 (vq ((ad R).add 1))) (yV 11 yQ)<|yY 11 (some 51) (bv 12 4095) 64 #[vp r,vi q,vi u] h ?_;clear h
  rintro al H7 ⟨ah,rfl,h⟩
  refine⟨[(0,vq d),(34,vs (some j) xN xC),(35,vi xN),(36,vi f)],pk,(show aI _ _ _ from⟨trivial,trivial,trivial,trivial,trivial⟩),?_⟩
  refine fE [(0,vq d),(34,vs (some j) xN xC),(35,vi xN),(36,vi f)] sk ?_
  exact yq<|aD<|aE<|T_rz 11<|T_ne 2 [(0,vq d),(34,vs (some j) xN xC),(35,vi xN),(36,vi (zY (f+1)))]<|aT ((zY (f+1)):Int) sk h
 refine aK 37 (zQ c20)<|zz 2<|aB<|aB<|aN<|aE<|aA 12<|T_n 3 [(0,vq d),(55,vq d)] ?_
 obtain⟨y,q32,h⟩:=h
 refine T_l1 56 23 q32 [55]<|T_c (some 57) h ?_;clear h
 intro v_4 H8 h
 refine T_pd [56] []<|T_e<|T_rz 13<|T_n 3 [(60,vq (d.add 1029))] ?_
 obtain⟨q34,h⟩:=h
 refine gL 3 (vi 1) q34 ?_
 intro H9 e33
 replace h:=h H9 e33
 refine⟨[],pk,?_⟩
 exact zq<|fI (fn:=f16) [] hQ (show dY _ _ _ [] _ from .nil) h
end cx
variable{H:zV}{a:zW}{b:zj}{d:Int}
/-! (*moraine/trace.Trace).Cards -/
namespace aX
def K0:=Func.code f28
end aX
def aX.pt(tv:zW)(wv:Int)(H:zV)(R:zj):Prop:=
 cy.C tv wv H (λv H1=> ∃x,v=.bool x/\
 if x=true then(
 bU.C tv wv H1 (λa H2=> ∃ra rb,a=.tuple #[vu ra,.bool rb]/\
 R (.bool rb) H2))
 else
 R vT H1)
namespace aX
theorem link(h:pt a d H b):C a d H b:=by
 refine T_en K0 18 func28 ?_
 intro w0 Q hQ
 unfold pt at h
 refine T_su [(0,vp a),(1,vu d)]<|aA 0<|T_ed 1 [] []<|T_sz<|aA 1<|T_nd 2 [] [(7,vp a),(8,vu d)]<|T_c (some 9) h ?_;clear h
 rintro v H1 ⟨x,rfl,h⟩
 refine T_pd [7,8] [(9,.bool x)]<|T_ed 1 [9] [(10,.bool (!x))] ?_
 revert h;refine iO_ (λc1 h=>?_) (λc1 h=>?_)
 ·refine aK 10 (congrArg Bool.not (c1))<|T_kt<|aA 3<|T_n 2 [(12,vp a),(13,vu d)]<|T_c (some 14) h ?_;clear h
  rintro R H2 ⟨ra,rb,rfl,h⟩
  refine⟨[(14,.tuple #[vu ra,.bool rb])],pk,?_⟩
  exact T_ne 5 [(6,.bool rb)]<|aA 4<|T_nr 2 [4] [.bool rb] hQ h
 exact aJ 10 (congrArg Bool.not (zZ c1))<|aA 2<|T_nr 1 [4] [vT] hQ h
end aX
/-! (*moraine/trace.Trace).Old -/
namespace cy
def K0:=Func.code f29
end cy
def cy.pt(tv:zW)(wv:Int)(H:zV)(R:zj):Prop:=
 dZ.C wv H (λv H1=> ∃ra rb,v=.tuple #[vi ra,.bool rb]/\
 bC.C tv H1 (λf H2=> ∃x,f=.bool x/\
 if x=true then(
 R vF H2)
 else
 if rb=true then(
 dU.C wv H2 (λg H3=> ∃d,g=vi d/\
 if d=6 then(
 R vF H3)
 else
 ∃b,tv=some b/\
 ((0:Int)<=(zY (Int.tdiv ra 64))/\(zY (Int.tdiv ra 64))< (1024:Int))/\
 ∃e,hat H3 ((b.add 2).add (Int.toNat (zY (Int.tdiv ra 64))*1))=some (vi e)/\
 R (.bool (e==1)) H3))
 else
 R vF H2))
namespace cy
theorem link(h:pt a d H b):C a d H b:=by
 refine T_en K0 33 func29 ?_
 intro w0 Q hQ
 unfold pt zY at h
 refine T_su [(0,vp a),(1,vu d)]<|aA 0<|T_ed 1 [] []<|aA 1<|T_nd 1 [] [(8,vu d)]<|T_c (some 9) h ?_;clear h
 rintro v H1 ⟨ra,rb,rfl,h⟩
 refine T_pd [8] [(9,.tuple #[vi ra,.bool rb])]<|T_ed 5 [9] [(5,vi ra),(6,.bool rb)]<|aA 2<|T_nd 1 [] [(12,vp a)]<|T_c (some 13) h ?_;clear h
 rintro f H2 ⟨x,rfl,h⟩
 refine T_pd [12] [(13,.bool x)]<|T_nd 2 [13] [(15,.bool (!x))] ?_
 revert h;refine iO_ (λc1 h=>?_) (λc1 h=>?_)
 ·have b2:(!x)=false:=congrArg Bool.not (c1)
  have b22:x=true:=c1
  refine N_bd 15 (b:=(!x)) (v:=false) (by simp only[b2,b22,Bool.not_true,Bool.not_false]) ?_
  clear b2 b22
  exact T_nr 18 [4] [vF] hQ h
 have b2:(!x)=true:=congrArg Bool.not (zZ c1)
 have b22:x=false:=zZ c1
 refine N_bd 15 (b:=(!x)) (v:=true) (by simp only[b2,b22,Bool.not_true,Bool.not_false]) ?_
 clear b2 b22
 refine T_nd 3 [6,15] [(18,.bool rb)] ?_
 revert h;refine iO_ (λc3 h=>?_) (λc3 h=>?_)
 ·refine N_bd 18 c3<|T_nd 1 [1] [(19,vu d)] ?_
  refine T_c (some 20) h ?_;clear h
  rintro g H3 ⟨tv,rfl,h⟩
  refine T_pd [19] [(20,vi tv)]<|T_nd 3 [18,20] [(23,.bool (tv !=6))] ?_
  revert h;refine iO_ (λc5 h=>?_) (λc5 h=>?_)
  ·exact N_bd 23 (bne_eq_false_iff_eq.mpr c5)<|T_nr 10 [4] [vF] hQ h
  refine N_bd 23 (bne_iff_ne.mpr c5)<|T_nd 3 [0,5] [(24,vp a),(26,vi (zY (Int.tdiv ra 64)))] ?_
  obtain⟨wv,rfl,h⟩:=h
  refine T_nd 2 [24] [(28,vq (wv.add 2))] ?_
  obtain⟨q7,h⟩:=h
  refine T_v1 29 (bE 103 (vq (wv.add 2)) (vi (zY (Int.tdiv ra 64)))) (vp (some ((wv.add 2).add (Int.toNat (zY (Int.tdiv ra 64))*1)))) (λw _=>bF (P:=prog) (t:=103) (elem:=3) (sz:=1) (n:=1024) (a:=(wv.add 2)) (k:=.i64) (i:=(zY (Int.tdiv ra 64))) underlying103 (λ_=>by kernel_rfl) q7.1 q7.2 w) [26,28] ?_
  obtain⟨e,q8,h⟩:=h
  exact T_l1 30 3 q8 [29]<|T_nr 3 [4] [.bool (e==1)] hQ h
 exact N_bd 18 (zZ c3)<|T_nr 15 [4] [vF] hQ h
end cy
/-! (*moraine/trace.Trace).Weaks -/
namespace cF
def K0:=Func.code f32
def K2:=cb K0
def K4:=cb K2
def K12:=cb K4
def K14:=cb K12
def K15:=ca K14
def K16:=cb K14
def K17:=ca K15
def K18:=cb K15
def K19:=ca K18
def K20:=ca K19
def K22:=cb K20
def K24:=cb K22
def K27:=ca K24
def K29:=ca K27
def K31:=cb K29
def K33:=cb K31
def K35:=cb K33
def K36:=ca K35
def K38:=ca K16
def K41:=cb K38
def K42:=ca K41
def K43:=ca K42
def K45:=cb K43
def K47:=cb K45
def K50:=ca K47
def K52:=ca K50
def K54:=cb K52
def K55:=ca K54
end cF
def cF.pt(tv:zW)(H:zV)(R:zj):Prop:=
 bC.C tv H (λv H1=> ∃x,v=.bool x/\
 if x=true then(
 R vN H1)
 else
 ∀b H2,b=H1.size->H2=H1.push (.cells #[vN] 75)->
 ∃e,tv=some e/\
 ∃cp,hat H2 e=some (vp cp)/\
 ∃a9,cp=some a9/\
 ∃cj,hat H2 a9=some (vp cj)/\
 ∃a8,cj=some a8/\
 ∃cm,hat H2 a8=some (vp cm)/\
 ∃ba,cm=some ba/\
 ∃bg,hat H2 ba=some (vp bg)/\
 ∃b1,hat H2 (e.add 1)=some (vi b1)/\
 ∀b7 H3,b7=H2.size->H3=H2.push (.cells #[vi b1] 3)->aU H3 e 0 [vq a9]/\aU H3 a9 0 [vq a8]/\aU H3 a8 0 [vq ba]/\aU H3 ba 0 [vp bg]/\
 cz.C bg (some (ad b7)) 1 1 H3 (λcr H4=> ∃xB xN xC,cr=vs xB xN xC/\
 ∃(b4:zk) (m21:Int->zV->Nat),b4 0 H4/\ ∀o H5,b4 o H5->
 if o< (xN:Int)then(
 ∃af,xB=some af/\
 zv o xN/\
 ∃p,hat H5 (af.add (Int.toNat o*1))=some (vi p)/\
 ∃b9,hat H5 e=some (vp b9)/\
 ∃cd,b9=some cd/\
 ∃b8,hat H5 cd=some (vp b8)/\
 ∃cc,b8=some cc/\
 ∃b6,hat H5 cc=some (vp b6)/\
 ∃b5,b6=some b5/\
 ∃bw,hat H5 b5=some (vp bw)/\
 bA.C bw p H5 (λct H6=> ∃bb a0 bz an ap ao am rb,ct=.tuple #[.agg #[vi bb,vi a0,vi bz,vi an,vi ap,vi ao,vi am],.bool rb]/\
 ∀ai H7,ai=H6.size->H7=H6.push (.cells #[vi 0,vi 0,vi 0,vi 0,vi 0,vi 0,vi 0] 108)->
 (aM H7 (ad ai) 0 7)/\ ∀H8,H8=aP H7 (ad ai) [vi bb,vi a0,vi bz,vi an,vi ap,vi ao,vi am] 0->
 ∃bm,hat H8 ((ad ai).add 1)=some (vi bm)/\
 if bm=1 then(
 zv p 1024/\
 ∃bl,hat H8 ((e.add 2).add (Int.toNat p*1))=some (vi bl)/\
 if bl=0 then(
 ∃bn,hat H8 (e.add 1026)=some (.map bn)/\
 ∃bo,hat H8 ((ad ai).add 2)=some (vi bo)/\
 ∃mr,bn=some mr/\
 ∃es cl ks,H8[mr]?=some (.map es cl)/\Ents (cU .i64) es.toList ks/\
 ∃b0,(mget ks p).getD (vi 0)=vi b0/\
 aU H8 ((ad ai).add 2) 0 [vi bo]/\aY.C p b0 bo (some (ad b)) H8 (λ_ H9=>
 (b4 (zY (o+1)) H9/\m21 (zY (o+1)) H9<m21 o H5)))
 else
 (b4 (zY (o+1)) H8/\m21 (zY (o+1)) H8<m21 o H5))
 else
 (b4 (zY (o+1)) H8/\m21 (zY (o+1)) H8<m21 o H5)))
 else
 ∃a7 d f,hat H5 (e.add 1028)=some (vs a7 d f)/\
 ∃(b3:zk) (m44:Int->zV->Nat),b3 0 H5/\ ∀g H10,b3 g H10->
 if g< (d:Int)then(
 ∃j,a7=some j/\
 zv g d/\
 ∃bj bc,aU H10 (j.add (Int.toNat g*2)) 0 [vi bj,vi bc]/\
 ∀m H11,m=H10.size->H11=H10.push (.cells #[vi 0,vi 0] 127)->
 (aM H11 (ad m) 0 2)/\ ∀br,br=aP H11 (ad m) [vi bj,vi bc] 0->
 ∃cg,hat br e=some (vp cg)/\
 ∃ay,cg=some ay/\
 ∃ch,hat br ay=some (vp ch)/\
 ∃aw,ch=some aw/\
 ∃ce,hat br aw=some (vp ce)/\
 ∃ax,ce=some ax/\
 ∃a3,hat br ax=some (vp a3)/\
 ∃bf,hat br (ad m)=some (vi bf)/\
 (
 bA.C a3 bf br (λcs ck=> ∃aj ag aq s r q y az,cs=.tuple #[.agg #[vi aj,vi ag,vi aq,vi s,vi r,vi q,vi y],.bool az]/\
 ∀au H14,au=ck.size->H14=ck.push (.cells #[vi 0,vi 0,vi 0,vi 0,vi 0,vi 0,vi 0] 108)->
 (aM H14 (ad au) 0 7)/\ ∀bq,bq=aP H14 (ad au) [vi aj,vi ag,vi aq,vi s,vi r,vi q,vi y] 0->
 ∃bk,hat bq ((ad au).add 1)=some (vi bk)/\
 if bk=1 then(
 ∃a4,hat bq (ad m)=some (vi a4)/\
 ∃bd,hat bq ((ad m).add 1)=some (vi bd)/\
 ∃a6,hat bq ((ad au).add 2)=some (vi a6)/\
 ∃bi,hat bq ((ad m).add 1)=some (vi bi)/\
 aY.C a4 (zY (bd*16)) (if(zY ((zY (bi+1))*16))<a6 then(zY ((zY (bi+1))*16))else a6) (some (ad b)) bq (λ_ cn=>
 (b3 (zY (g+1)) cn/\m44 (zY (g+1)) cn<m44 g H10)))
 else
 (b3 (zY (g+1)) bq/\m44 (zY (g+1)) bq<m44 g H10)))/\(
 ∀al H17,al=br.size->H17=br.push (.cells #[vi 0,vi 0,vi 0,vi 0,vi 0,vi 0,vi 0] 108)->aU H17 e 0 [vq ay]/\aU H17 ay 0 [vq aw]/\aU H17 aw 0 [vq ax]/\aU H17 ax 0 [vp a3]/\aU H17 (ad m) 0 [vi bf]/\
 bA.C a3 bf H17 (λcq ci=> ∃ak ah av ab ae aa ac a1,cq=.tuple #[.agg #[vi ak,vi ah,vi av,vi ab,vi ae,vi aa,vi ac],.bool a1]/\
 (aM ci (ad al) 0 7)/\ ∀bs,bs=aP ci (ad al) [vi ak,vi ah,vi av,vi ab,vi ae,vi aa,vi ac] 0->
 ∃bp,hat bs ((ad al).add 1)=some (vi bp)/\
 if bp=1 then(
 ∃a2,hat bs (ad m)=some (vi a2)/\
 ∃be,hat bs ((ad m).add 1)=some (vi be)/\
 ∃a5,hat bs ((ad al).add 2)=some (vi a5)/\
 ∃bh,hat bs ((ad m).add 1)=some (vi bh)/\
 aY.C a2 (zY (be*16)) (if(zY ((zY (bh+1))*16))<a5 then(zY ((zY (bh+1))*16))else a5) (some (ad b)) bs (λ_ co=>
 (b3 (zY (g+1)) co/\m44 (zY (g+1)) co<m44 g H10)))
 else
 (b3 (zY (g+1)) bs/\m44 (zY (g+1)) bs<m44 g H10))))
 else
 ∃bx bt bu,hat H10 (ad b)=some (vs bx bt bu)/\
 R (vs bx bt bu) H10))
namespace cF
theorem link(h:pt a H b):C a H b:=by
 refine T_en K0 129 func32 ?_
 intro w0 Q hQ
 unfold pt zY at h
 refine T_su [(0,vp a)]<|aA 0<|T_ed 1 [] []<|T_sz<|aA 1<|T_nd 1 [] [(13,vp a)]<|T_c (some 14) h ?_;clear h
 rintro v H1 ⟨x,rfl,h⟩
 refine T_pd [13] [(14,.bool x)]<|T_e ?_
 revert h;refine iO_ (λc1 h=>?_) (λc1 h=>?_)
 ·exact aJ 14 c1<|aA 2<|T_nr 1 [2] [vN] hQ h
 refine aK 14 (zZ c1)<|T_kt<|aA 3<|T_ud [14] []<|T_nw (some 3) (λtv=>vp (pa tv)) (.cells #[vN] 75) ?_
 intro tv H2 e3 e4
 replace h:=h tv H2 e3 e4
 refine T_pd [] [(3,vp (pa tv))]<|T_e<|aA 4<|T_ed 2 [] [(4,.func (.func 74) #[] #[vp (pa tv)])]<|T_sz<|T_sz ?_
 obtain⟨e,rfl,cp,q5,a9,rfl,cj,q6,a8,rfl,cm,q7,ba,rfl,bg,q8,b1,q9,h⟩:=h
 refine yW 5 (Code.ops K17) [(18,e,[vq a9]),(18,a9,[vq a8]),(18,a8,[vq ba]),(18,ba,[vp bg]),(17,(e.add 1),[vi b1])] 21 (bv 21 0) (show aI _ _ _ from⟨⟨q5,trivial⟩,⟨q6,trivial⟩,⟨q7,trivial⟩,⟨q8,trivial⟩,⟨q9,trivial⟩,trivial⟩)<|T_gp 0 (some 16) (vq e) (bv 21 1) [(0,vq e),(3,vp (pa tv)),(4,.func (.func 74) #[] #[vp (pa tv)]),(16,vq e)]<|aG 1 17 (vq e) (bv 21 3) [16]<|aG 2 18 (vq e) (bv 21 7) [17]<|T_g1 3 19 (vq a9) (bv 21 15) [18] (aQ 23 (vq e)) (yV 18 zw)<|aG 4 20 (vq a9) (bv 21 31) [19]<|aG 5 21 (vq a9) (bv 21 63) [20]<|T_g1 6 22 (vq a8) (bv 21 127) [21] (aQ 49 (vq a9)) (yV 18 yZ)<|aG 7 23 (vq a8) (bv 21 255) [22]<|aG 8 24 (vq a8) (bv 21 511) [23]<|T_g1 9 25 (vq ba) (bv 21 1023) [24] (aQ 52 (vq a8)) (yV 18 yX)<|aG 10 26 (vq ba) (bv 21 2047) [25]<|aG 11 27 (vq ba) (bv 21 4095) [26]<|T_g1 12 28 (vp bg) (bv 21 8191) [27] (aQ 78 (vq ba)) (yV 18 yQ)<|aG 13 29 (vq e) (bv 21 16383) []<|aG 14 30 (vq e) (bv 21 32767) [29]<|aG 15 31 (vq (e.add 1)) (bv 21 65535) [30]<|T_g1 16 32 (vi b1) (bv 21 131071) [31] (aQ 3 (vq (e.add 1))) (yV 17 yJ)<|aG 20 36 (vi 0) (bv 21 1179647) []<|oy 17 (some 33) (bv 21 1310719) (λtv=>vs (pa tv) 1 1) (.cells #[vi b1] 3) (by kernel_rfl) (λ_=>by kernel_rfl) (by kernel_rfl) ?_
 intro b7 H3 e14 e15
 replace h:=h b7 H3 e14 e15
 obtain⟨f10,f11,f12,f13,h⟩:=h
 refine⟨[(0,vq e),(3,vp (pa tv)),(4,.func (.func 74) #[] #[vp (pa tv)]),(28,vp bg),(33,vs (pa b7) 1 1),(36,vi 0)],pk,(show aI _ _ _ from⟨f10,f11,f12,f13,trivial,trivial⟩),?_⟩
 refine yY 18 (some 34) (bv 21 1572863) 45 #[vp bg,vs (pa b7) 1 1] h ?_;clear h
 rintro cr H4 ⟨xB,xN,xC,rfl,h⟩
 refine⟨[(0,vq e),(3,vp (pa tv)),(4,.func (.func 74) #[] #[vp (pa tv)]),(34,vs xB xN xC),(36,vi 0)],pk,(show aI _ _ _ from⟨trivial,trivial,trivial,trivial,trivial,trivial⟩),?_⟩
 refine T_g 19 (some 35) (vi xN) (bv 21 2097151) [(0,vq e),(3,vp (pa tv)),(4,.func (.func 74) #[] #[vp (pa tv)]),(34,vs xB xN xC),(35,vi xN),(36,vi 0)] (pure (.value (vi xN)):Sem Next) (λ_ _ _ _ _=>rfl)<|fE [(0,vq e),(3,vp (pa tv)),(4,.func (.func 74) #[] #[vp (pa tv)]),(34,vs xB xN xC),(35,vi xN),(36,vi 0)] sk<|yq<|aE<|T_bz 0 ?_
 obtain⟨b4,m21,i16,i17⟩:=h
 refine cX (x:=K20) (σ:=Int) (λs_=> [(0,vq e),(3,vp (pa tv)),(4,.func (.func 74) #[] #[vp (pa tv)]),(34,vs xB xN xC),(35,vi xN),(36,vi s_)]) (λs_ H=>b4 s_ H) (λs_ H=>m21 s_ H) (0:Int) (by kernel_rfl) i16 sk ?_
 rintro o H5 i18
 have h:=i17 o H5 i18
 refine T_su [(0,vq e),(3,vp (pa tv)),(4,.func (.func 74) #[] #[vp (pa tv)]),(34,vs xB xN xC),(35,vi xN),(36,vi o)]<|aA 6<|T_ed 1 [] [(37,.bool (decide (o< (xN:Int))))]<|T_sz ?_
 revert h;refine iO_ (λc19 h=>?_) (λc19 h=>?_)
 ·refine aJ 37 (zX c19)<|T_kt<|T_sz<|T_bz 1<|aA 7<|T_ud [37] [] ?_
  obtain⟨af,rfl,q21,h⟩:=h
  refine T_xd (some 38) 75 3 1 af xN xC .i64 o underlying75 q21.1 q21.2 [34] [(34,vs (some af) xN xC),(38,vq (af.add (Int.toNat o*1)))] ?_
  obtain⟨p,q22,h⟩:=h
  refine T_l1 39 3 q22 [38]<|T_ed 1 [39] [(6,vi p)]<|aA 8<|T_nd 3 [] [(43,vq e)] ?_
  obtain⟨b9,q23,h⟩:=h
  refine T_l1 44 23 q23 [43] ?_
  obtain⟨cd,rfl,h⟩:=h
  refine T_nd 2 [44] [(46,vq cd)] ?_
  obtain⟨b8,q24,h⟩:=h
  refine T_l1 47 49 q24 [46] ?_
  obtain⟨cc,rfl,h⟩:=h
  refine T_nd 2 [47] [(49,vq cc)] ?_
  obtain⟨b6,q25,h⟩:=h
  refine T_l1 50 52 q25 [49] ?_
  obtain⟨b5,rfl,h⟩:=h
  refine T_nd 2 [50] [(52,vq b5)] ?_
  obtain⟨bw,q26,h⟩:=h
  refine T_l1 53 78 q26 [52]<|T_nd 1 [] [(54,vi p)]<|T_c (some 55) h ?_;clear h
  rintro ct H6 ⟨bb,a0,bz,an,ap,ao,am,rb,rfl,h⟩
  refine T_pd [53,54] [(55,.tuple #[.agg #[vi bb,vi a0,vi bz,vi an,vi ap,vi ao,vi am],.bool rb])]<|T_nd 3 [55] [(56,.agg #[vi bb,vi a0,vi bz,vi an,vi ap,vi ao,vi am]),(57,.bool rb)]<|T_nw (some 7) (λtv=>vp (pa tv)) (.cells #[vi 0,vi 0,vi 0,vi 0,vi 0,vi 0,vi 0] 108) ?_
  intro ai H7 e27 e28
  replace h:=h ai H7 e27 e28
  refine T_pd [] [(7,vp (pa ai))] ?_
  obtain⟨q30,h⟩:=h
  refine fT 108 [vi bb,vi a0,vi bz,vi an,vi ap,vi ao,vi am] q30 ?_
  intro H8 e29
  replace h:=h H8 e29
  refine T_pd [56] []<|T_ed 1 [57] []<|aA 9<|T_nd 1 [] [(58,vq ((ad ai).add 1))] ?_
  obtain⟨bm,q31,h⟩:=h
  refine T_l1 59 3 q31 [58]<|T_nd 2 [59] [(61,.bool (bm==1))] ?_
  revert h;refine iO_ (λc32 h=>?_) (λc32 h=>?_)
  ·refine N_bd 61 (zK c32)<|T_nd 4 [] [(63,vi p),(65,vq (e.add 2))] ?_
   obtain⟨q34,h⟩:=h
   refine T_v1 66 (bE 103 (vq (e.add 2)) (vi p)) (vq ((e.add 2).add (Int.toNat p*1))) (λw _=>bF (P:=prog) (t:=103) (elem:=3) (sz:=1) (n:=1024) (a:=(e.add 2)) (k:=.i64) (i:=p) underlying103 (λ_=>by kernel_rfl) q34.1 q34.2 w) [63,65] ?_
   obtain⟨bl,q35,h⟩:=h
   refine T_l1 67 3 q35 [66]<|T_ed 2 [61,67] [(69,.bool (bl==0))] ?_
   revert h;refine iO_ (λc36 h=>?_) (λc36 h=>?_)
   ·refine aJ 69 (zK c36) ?_
    obtain⟨bn,q38,bo,q39,h⟩:=h
    refine yW 10 (Code.ops K36) [(7,(e.add 1026),[.map bn]),(10,((ad ai).add 2),[vi bo])] 11 (bv 11 0) (show aI _ _ _ from⟨⟨q38,trivial⟩,⟨q39,trivial⟩,trivial⟩)<|T_gp 0 (some 70) (.func (.func 74) #[] #[vp (pa tv)]) (bv 11 1) [(0,vq e),(3,vp (pa tv)),(4,.func (.func 74) #[] #[vp (pa tv)]),(6,vi p),(7,vp (pa ai)),(34,vs (some af) xN xC),(35,vi xN),(36,vi o),(70,.func (.func 74) #[] #[vp (pa tv)])]<|aG 1 71 (vi p) (bv 11 3) []<|aG 2 72 (vq e) (bv 11 7) []<|aG 3 73 (vq e) (bv 11 15) [72]<|aG 4 74 (vq (e.add 1026)) (bv 11 31) [73]<|T_g1 5 75 (.map bn) (bv 11 63) [74] (aQ 102 (vq (e.add 1026))) (yV 7 zw)<|aG 6 76 (vi p) (bv 11 127) [6]<|aG 8 78 (vq ((ad ai).add 2)) (bv 11 383) [7]<|T_g1 9 79 (vi bo) (bv 11 895) [78] (aQ 3 (vq ((ad ai).add 2))) (yV 10 yZ) ?_
    obtain⟨mr,rfl,es,cl,ks,q41,q42,b0,e44,h⟩:=h
    refine mp 7 (some 77) (bv 11 1023) (jw 102 (.map (some mr)) (vi p) false) (λu H1=>u=vi b0/\H1=H8) (by kernel_rfl) (λ_=>by kernel_rfl) (λw hw=>⟨_,w,(ji (kk:=(cU .i64)) (z:=vi 0) underlying102 underlying3 (λ_=>by kernel_rfl) (by rw[hw];exact q41) q42 false),Same.refl w,by simp only[Bool.false_eq_true,if_false,e44],hw⟩) (by kernel_rfl) ?_
    rintro _ _ ⟨rfl,rfl⟩
    obtain⟨f40,h⟩:=h
    refine⟨[(0,vq e),(3,vp (pa tv)),(4,.func (.func 74) #[] #[vp (pa tv)]),(34,vs (some af) xN xC),(35,vi xN),(36,vi o),(70,.func (.func 74) #[] #[vp (pa tv)]),(71,vi p),(77,vi b0),(79,vi bo)],pk,(show aI _ _ _ from⟨trivial,f40,trivial⟩),?_⟩
    refine yY 10 (some 80) (bv 11 2047) 74 #[vi p,vi b0,vi bo,vp (pa tv)] h ?_;clear h
    intro v_4 H9 h
    refine⟨[(0,vq e),(3,vp (pa tv)),(4,.func (.func 74) #[] #[vp (pa tv)]),(34,vs (some af) xN xC),(35,vi xN),(36,vi o)],pk,(show aI _ _ _ from⟨trivial,trivial,trivial⟩),?_⟩
    refine fE [(0,vq e),(3,vp (pa tv)),(4,.func (.func 74) #[] #[vp (pa tv)]),(34,vs (some af) xN xC),(35,vi xN),(36,vi o)] sk ?_
    exact yq<|aD<|aE<|T_rz 11<|T_ne 2 [(0,vq e),(3,vp (pa tv)),(4,.func (.func 74) #[] #[vp (pa tv)]),(34,vs (some af) xN xC),(35,vi xN),(36,vi (zY (o+1)))]<|aT ((zY (o+1)):Int) sk h
   exact aK 69 (zJ c36)<|T_k<|aD<|aE<|T_rz 11<|T_ed 2 [6,7,36,69] [(36,vi (zY (o+1)))]<|aT ((zY (o+1)):Int) sk h
  refine N_bd 61 (zJ c32)<|T_ed 8 [61] [(69,vF)]<|T_fz 69<|T_k ?_
  exact aD<|aE<|T_rz 11<|T_ed 2 [6,7,36,69] [(36,vi (zY (o+1)))]<|aT ((zY (o+1)):Int) sk h
 refine aK 37 (zQ c19)<|zz 0<|aB<|aB<|aN<|aE<|T_sz<|aA 12<|T_nd 3 [34,35,36,37] [(84,vq (e.add 1028))] ?_
 obtain⟨a7,d,f,q45,h⟩:=h
 refine T_l1 85 104 q45 [84]<|T_ed 2 [] [(86,vi d),(87,vi 0)]<|T_bz 2 ?_
 obtain⟨b3,m44,i46,i47⟩:=h
 refine cX (x:=K43) (σ:=Int) (λs_=> [(0,vq e),(3,vp (pa tv)),(4,.func (.func 74) #[] #[vp (pa tv)]),(85,vs a7 d f),(86,vi d),(87,vi s_)]) (λs_ H=>b3 s_ H) (λs_ H=>m44 s_ H) (0:Int) (by kernel_rfl) i46 sk ?_
 rintro g H10 i48
 have h:=i47 g H10 i48
 refine T_su [(0,vq e),(3,vp (pa tv)),(4,.func (.func 74) #[] #[vp (pa tv)]),(85,vs a7 d f),(86,vi d),(87,vi g)]<|aA 13<|T_ed 1 [] [(88,.bool (decide (g< (d:Int))))]<|T_sz ?_
 revert h;refine iO_ (λc49 h=>?_) (λc49 h=>?_)
 ·refine aJ 88 (zX c49)<|T_kt<|T_sz<|T_bz 3<|aA 14<|T_ud [88] [] ?_
  obtain⟨j,rfl,q51,h⟩:=h
  refine T_xd (some 89) 104 127 2 j d f .i64 g underlying104 q51.1 q51.2 [85] [(85,vs (some j) d f),(89,vq (j.add (Int.toNat g*2)))] ?_
  obtain⟨bj,bc,q52,h⟩:=h
  refine T_lr 90 127 q52 [89]<|T_nw (some 10) (λtv=>vp (pa tv)) (.cells #[vi 0,vi 0] 127) ?_
  intro m H11 e53 e54
  replace h:=h m H11 e53 e54
  refine T_pd [] [(10,vp (pa m))] ?_
  obtain⟨q56,h⟩:=h
  refine fT 127 [vi bj,vi bc] q56 ?_
  intro br e55
  replace h:=h br e55
  refine T_pd [90] []<|T_e<|T_sz ?_
  obtain⟨cg,q57,ay,rfl,ch,q58,aw,rfl,ce,q59,ax,rfl,a3,q60,bf,q61,h⟩:=h
  refine yW 15 (Code.ops K55) [(15,e,[vq ay]),(15,ay,[vq aw]),(15,aw,[vq ax]),(15,ax,[vp a3]),(15,(ad m),[vi bf])] 22 (bv 22 0) (show aI _ _ _ from⟨⟨q57,trivial⟩,⟨q58,trivial⟩,⟨q59,trivial⟩,⟨q60,trivial⟩,⟨q61,trivial⟩,trivial⟩)<|T_gp 0 (some 92) (vq e) (bv 22 1) [(0,vq e),(3,vp (pa tv)),(4,.func (.func 74) #[] #[vp (pa tv)]),(10,vp (pa m)),(85,vs (some j) d f),(86,vi d),(87,vi g),(92,vq e)]<|aG 1 93 (vq e) (bv 22 3) [92]<|aG 2 94 (vq e) (bv 22 7) [93]<|T_g1 3 95 (vq ay) (bv 22 15) [94] (aQ 23 (vq e)) (yV 15 zw)<|aG 4 96 (vq ay) (bv 22 31) [95]<|aG 5 97 (vq ay) (bv 22 63) [96]<|T_g1 6 98 (vq aw) (bv 22 127) [97] (aQ 49 (vq ay)) (yV 15 yZ)<|aG 7 99 (vq aw) (bv 22 255) [98]<|aG 8 100 (vq aw) (bv 22 511) [99]<|T_g1 9 101 (vq ax) (bv 22 1023) [100] (aQ 52 (vq aw)) (yV 15 yX)<|aG 10 102 (vq ax) (bv 22 2047) [101]<|aG 11 103 (vq ax) (bv 22 4095) [102]<|T_g1 12 104 (vp a3) (bv 22 8191) [103] (aQ 78 (vq ax)) (yV 15 yQ)<|aG 13 105 (vp (pa m)) (bv 22 16383) []<|T_g1 14 106 (vi bf) (bv 22 32767) [105] (aQ 3 (vp (pa m))) (yV 15 yJ) ?_
  refine rk 15 19 (by kernel_rfl) ?fa1 ?fb1
  case' fa1=>
   replace h:=h.1
   refine rl 15 (some 107) (bv 22 65535) 47 #[vp a3,vi bf] (by kernel_rfl) (λ_=>by kernel_rfl) h (by kernel_rfl) ?_;clear h
   rintro cs ck ⟨aj,ag,aq,s,r,q,y,az,rfl,h⟩
   refine⟨[(0,vq e),(3,vp (pa tv)),(4,.func (.func 74) #[] #[vp (pa tv)]),(10,vp (pa m)),(85,vs (some j) d f),(86,vi d),(87,vi g),(107,.tuple #[.agg #[vi aj,vi ag,vi aq,vi s,vi r,vi q,vi y],.bool az])],pk,(show aI _ _ _ from⟨trivial,trivial,trivial,trivial,trivial,trivial⟩),?_⟩
   refine T_g 16 (some 91) (.tuple #[.agg #[vi aj,vi ag,vi aq,vi s,vi r,vi q,vi y],.bool az]) (bv 22 131071) [(0,vq e),(3,vp (pa tv)),(4,.func (.func 74) #[] #[vp (pa tv)]),(10,vp (pa m)),(85,vs (some j) d f),(86,vi d),(87,vi g),(91,.tuple #[.agg #[vi aj,vi ag,vi aq,vi s,vi r,vi q,vi y],.bool az])] (pure (.value (.tuple #[.agg #[vi aj,vi ag,vi aq,vi s,vi r,vi q,vi y],.bool az])):Sem Next) (λ_ _ _ _ _=>rfl)<|T_g1 17 108 (.agg #[vi aj,vi ag,vi aq,vi s,vi r,vi q,vi y]) (bv 22 262143) [] (pure (.value (.agg #[vi aj,vi ag,vi aq,vi s,vi r,vi q,vi y])):Sem Next) (λ_ _ _ _ _=>rfl)<|T_g1 18 109 (.bool az) (bv 22 524287) [91] (pure (.value (.bool az)):Sem Next) (λ_ _ _ _ _=>rfl)<|oy 19 (some 11) (bv 22 1048575) (λtv=>vp (pa tv)) (.cells #[vi 0,vi 0,vi 0,vi 0,vi 0,vi 0,vi 0] 108) (by kernel_rfl) (λ_=>by kernel_rfl) (by kernel_rfl) ?_
   intro au H14 e62 e63
   replace h:=h au H14 e62 e63
   refine⟨[(0,vq e),(3,vp (pa tv)),(4,.func (.func 74) #[] #[vp (pa tv)]),(10,vp (pa m)),(11,vp (pa au)),(85,vs (some j) d f),(86,vi d),(87,vi g),(108,.agg #[vi aj,vi ag,vi aq,vi s,vi r,vi q,vi y]),(109,.bool az)],pk,(show aI _ _ _ from⟨trivial,trivial,trivial,trivial,trivial,trivial⟩),?_⟩
  case' fb1=>
   replace h:=h.2
   refine rM 19 (some 11) (bv 22 557055) (λtv=>vp (pa tv)) (.cells #[vi 0,vi 0,vi 0,vi 0,vi 0,vi 0,vi 0] 108) (by kernel_rfl) (λ_=>by kernel_rfl) (by kernel_rfl) ?_
   intro au H17 e78 e79
   replace h:=h au H17 e78 e79
   obtain⟨f73,f74,f75,f76,f77,h⟩:=h
   refine⟨[(0,vq e),(3,vp (pa tv)),(4,.func (.func 74) #[] #[vp (pa tv)]),(10,vp (pa m)),(11,vp (pa au)),(85,vs (some j) d f),(86,vi d),(87,vi g),(104,vp a3),(106,vi bf)],pk,(show aI _ _ _ from⟨f73,f74,f75,f76,f77,trivial⟩),?_⟩
   refine yY 15 (some 107) (bv 22 589823) 47 #[vp a3,vi bf] h ?_;clear h
   rintro cq H14 ⟨aj,ag,aq,s,r,q,y,az,rfl,h⟩
   refine⟨[(0,vq e),(3,vp (pa tv)),(4,.func (.func 74) #[] #[vp (pa tv)]),(10,vp (pa m)),(11,vp (pa au)),(85,vs (some j) d f),(86,vi d),(87,vi g),(107,.tuple #[.agg #[vi aj,vi ag,vi aq,vi s,vi r,vi q,vi y],.bool az])],pk,(show aI _ _ _ from⟨trivial,trivial,trivial,trivial,trivial,trivial⟩),?_⟩
   refine T_g 16 (some 91) (.tuple #[.agg #[vi aj,vi ag,vi aq,vi s,vi r,vi q,vi y],.bool az]) (bv 22 655359) [(0,vq e),(3,vp (pa tv)),(4,.func (.func 74) #[] #[vp (pa tv)]),(10,vp (pa m)),(11,vp (pa au)),(85,vs (some j) d f),(86,vi d),(87,vi g),(91,.tuple #[.agg #[vi aj,vi ag,vi aq,vi s,vi r,vi q,vi y],.bool az])] (pure (.value (.tuple #[.agg #[vi aj,vi ag,vi aq,vi s,vi r,vi q,vi y],.bool az])):Sem Next) (λ_ _ _ _ _=>rfl)<|T_g1 17 108 (.agg #[vi aj,vi ag,vi aq,vi s,vi r,vi q,vi y]) (bv 22 786431) [] (pure (.value (.agg #[vi aj,vi ag,vi aq,vi s,vi r,vi q,vi y])):Sem Next) (λ_ _ _ _ _=>rfl)<|T_g1 18 109 (.bool az) (bv 22 1048575) [91] (pure (.value (.bool az)):Sem Next) (λ_ _ _ _ _=>rfl) ?_
  all_goals
   obtain⟨q65,h⟩:=h
   refine fX 20 none (bv 22 2097151) (gZ 108 (vp (pa au)) (.agg #[vi aj,vi ag,vi aq,vi s,vi r,vi q,vi y])) (λHz=>Hz=aP H14 (ad au) [vi aj,vi ag,vi aq,vi s,vi r,vi q,vi y] 0) (by kernel_rfl) (λ_=>by kernel_rfl) (hC [vi aj,vi ag,vi aq,vi s,vi r,vi q,vi y] 7 (by kernel_rfl) (by kernel_rfl) (λ_=>by kernel_rfl) (by kernel_rfl) q65) (by kernel_rfl) ?_
   intro bq e64
   replace h:=h bq e64
   refine⟨[(0,vq e),(3,vp (pa tv)),(4,.func (.func 74) #[] #[vp (pa tv)]),(10,vp (pa m)),(11,vp (pa au)),(85,vs (some j) d f),(86,vi d),(87,vi g),(109,.bool az)],pk,(show aI _ _ _ from⟨trivial,trivial,trivial,trivial,trivial,trivial⟩),?_⟩
   refine T_g 21 (some 12) (.bool az) (bv 22 4194303) [(0,vq e),(3,vp (pa tv)),(4,.func (.func 74) #[] #[vp (pa tv)]),(10,vp (pa m)),(11,vp (pa au)),(85,vs (some j) d f),(86,vi d),(87,vi g)] (pure (.value (.bool az)):Sem Next) (λ_ _ _ _ _=>rfl)<|fE [(0,vq e),(3,vp (pa tv)),(4,.func (.func 74) #[] #[vp (pa tv)]),(10,vp (pa m)),(11,vp (pa au)),(85,vs (some j) d f),(86,vi d),(87,vi g)] sk<|yq<|aE<|aA 16<|T_n 1 [(0,vq e),(3,vp (pa tv)),(4,.func (.func 74) #[] #[vp (pa tv)]),(10,vp (pa m)),(11,vp (pa au)),(85,vs (some j) d f),(86,vi d),(87,vi g),(110,vq ((ad au).add 1))] ?_
   obtain⟨bk,q66,h⟩:=h
   refine T_l1 111 3 q66 [110]<|T_ed 1 [111] [(112,.bool (bk==1))] ?_
   revert h;refine iO_ (λc67 h=>?_) (λc67 h=>?_)
   ·refine aJ 112 (zK c67)<|T_rz 17<|T_nd 2 [112] [(113,.func (.func 74) #[] #[vp (pa tv)]),(114,vp (pa m))] ?_
    obtain⟨a4,q69,h⟩:=h
    refine T_l1 115 3 q69 [114]<|T_nd 1 [] [(116,vq ((ad m).add 1))] ?_
    obtain⟨bd,q70,h⟩:=h
    refine T_l1 117 3 q70 [116]<|T_nd 2 [11,117] [(118,vi (zY (bd*16))),(119,vq ((ad au).add 2))] ?_
    obtain⟨a6,q71,h⟩:=h
    refine T_l1 120 3 q71 [119]<|T_nd 1 [10] [(121,vq ((ad m).add 1))] ?_
    obtain⟨bi,q72,h⟩:=h
    refine T_l1 122 3 q72 [121]<|T_nd 3 [120,122] [(125,vi (if(zY ((zY (bi+1))*16))<a6 then(zY ((zY (bi+1))*16))else a6))]<|T_c (some 126) h ?_;clear h
    intro v_6 cn h
    exact T_pd [113,115,118,125] []<|zq<|aD<|aE<|T_rz 18<|T_ed 2 [87] [(87,vi (zY (g+1)))]<|aT ((zY (g+1)):Int) sk h
   exact aK 112 (zJ c67)<|T_k<|aD<|aE<|T_rz 18<|T_ed 2 [10,11,87,112] [(87,vi (zY (g+1)))]<|aT ((zY (g+1)):Int) sk h
 refine aK 88 (zQ c49)<|zz 2<|aB<|aB<|aN<|aE<|aA 19<|T_nu [(3,vp (pa tv))] ?_
 obtain⟨bx,bt,bu,q89,h⟩:=h
 exact T_l1 128 75 q89 [3]<|T_nr 1 [2] [vs bx bt bu] hQ h
end cF
/-! (*moraine/trace.Trace).moved -/
namespace bU
def K0:=Func.code f50
end bU
def bU.pt(tv:zW)(wv:Int)(H:zV)(R:zj):Prop:=
 dZ.C wv H (λv H1=> ∃ra rb,v=.tuple #[vi ra,.bool rb]/\
 ∃m,tv=some m/\
 ∃x,hat H1 m=some (vp x)/\
 ∃xA,x=some xA/\
 ∃o,hat H1 xA=some (vp o)/\
 ∃n,o=some n/\
 ∃p,hat H1 n=some (vp p)/\
 ∃k,p=some k/\
 ∃i,hat H1 k=some (vp i)/\
 bN.C i ra H1 (λr H2=> ∃b e,r=.tuple #[vu b,vi e]/\
 dZ.C b H2 (λy H3=> ∃a d,y=.tuple #[vi a,.bool d]/\
 if e=0 then(
 if d=true then(
 dU.C b H3 (λu H4=> ∃g,u=vi g/\
 if g=6 then(
 dU.C wv H4 (λt H5=> ∃j,t=vi j/\
 fK.C j a H5 (λs H6=> ∃f q,s=.tuple #[vu f,vi q]/\
 R (.tuple #[vu f,vT]) H6)))
 else
 R (.tuple #[vu wv,vF]) H4))
 else
 R (.tuple #[vu wv,vF]) H3)
 else
 R (.tuple #[vu wv,vF]) H3)))
namespace bU
theorem link(h:pt a d H b):C a d H b:=by
 refine T_en K0 62 func50 ?_
 intro w0 Q hQ
 unfold pt at h
 refine T_su [(0,vp a),(1,vu d)]<|aA 0<|T_ed 2 [] []<|aA 1<|T_nd 1 [] [(15,vu d)]<|T_c (some 16) h ?_;clear h
 rintro v H1 ⟨ra,rb,rfl,h⟩
 refine T_pd [15] [(16,.tuple #[vi ra,.bool rb])]<|T_ed 5 [16] [(6,vi ra)]<|aA 2<|T_nd 1 [0] [(20,vp a)] ?_
 obtain⟨m,rfl,h⟩:=h
 refine T_nd 2 [20] [(22,vq m)] ?_
 obtain⟨x,q1,h⟩:=h
 refine T_l1 23 23 q1 [22] ?_
 obtain⟨xA,rfl,h⟩:=h
 refine T_nd 2 [23] [(25,vq xA)] ?_
 obtain⟨o,q2,h⟩:=h
 refine T_l1 26 49 q2 [25] ?_
 obtain⟨n,rfl,h⟩:=h
 refine T_nd 2 [26] [(28,vq n)] ?_
 obtain⟨p,q3,h⟩:=h
 refine T_l1 29 52 q3 [28] ?_
 obtain⟨k,rfl,h⟩:=h
 refine T_nd 2 [29] [(31,vq k)] ?_
 obtain⟨i,q4,h⟩:=h
 refine T_l1 32 78 q4 [31]<|T_nd 1 [6] [(33,vi ra)]<|T_c (some 34) h ?_;clear h
 rintro r H2 ⟨wv,e,rfl,h⟩
 refine T_pd [32,33] [(34,.tuple #[vu wv,vi e])]<|T_ed 5 [34] [(8,vu wv),(9,vi e)]<|aA 3<|T_nd 1 [] [(38,vu wv)]<|T_c (some 39) h ?_;clear h
 rintro y H3 ⟨R,tv,rfl,h⟩
 refine T_pd [38] [(39,.tuple #[vi R,.bool tv])]<|T_ed 5 [39] [(10,vi R),(11,.bool tv)]<|T_sz<|aA 4<|T_nd 3 [9] [(44,.bool (e !=0))] ?_
 revert h;refine iO_ (λc5 h=>?_) (λc5 h=>?_)
 ·refine N_bd 44 (bne_eq_false_iff_eq.mpr c5)<|T_nd 4 [11,44] [(48,.bool (!tv))] ?_
  revert h;refine iO_ (λc7 h=>?_) (λc7 h=>?_)
  ·have b8:(!tv)=false:=congrArg Bool.not (c7)
   have b82:tv=true:=c7
   refine N_bd 48 (b:=(!tv)) (v:=false) (by simp only[b8,b82,Bool.not_true,Bool.not_false]) ?_
   clear b8 b82
   refine T_nd 1 [8] [(49,vu wv)]<|T_c (some 50) h ?_;clear h
   rintro u H4 ⟨g,rfl,h⟩
   refine T_pd [49] [(50,vi g)]<|T_ed 2 [48,50] [(52,.bool (g !=6))] ?_
   revert h;refine iO_ (λc9 h=>?_) (λc9 h=>?_)
   ·refine aK 52 (bne_eq_false_iff_eq.mpr c9)<|T_kt<|aA 6<|T_nd 1 [1,52] [(55,vu d)]<|T_c (some 56) h ?_;clear h
    rintro t H5 ⟨j,rfl,h⟩
    refine T_pd [55] [(56,vi j)]<|T_nd 1 [10] [(57,vi R)]<|T_c (some 58) h ?_;clear h
    rintro s H6 ⟨f,q,rfl,h⟩
    refine⟨[(58,.tuple #[vu f,vi q])],pk,?_⟩
    exact T_ne 5 [(12,vu f)]<|aA 7<|T_nr 3 [4,5] [vu f,vT] hQ h
   exact aJ 52 (bne_iff_ne.mpr c9)<|aA 5<|T_nr 3 [4,5] [vu d,vF] hQ h
  have b8:(!tv)=true:=congrArg Bool.not (zZ c7)
  have b82:tv=false:=zZ c7
  refine N_bd 48 (b:=(!tv)) (v:=true) (by simp only[b8,b82,Bool.not_true,Bool.not_false]) ?_
  clear b8 b82
  exact T_ed 4 [8,48] [(52,vT)]<|T_tz 52<|aA 5<|T_nr 3 [4,5] [vu d,vF] hQ h
 exact N_bd 44 (bne_iff_ne.mpr c5)<|T_ed 8 [8,11,44] [(52,vT)]<|T_tz 52<|aA 5<|T_nr 3 [4,5] [vu d,vF] hQ h
end bU
/-! (*moraine/trace.Trace).none -/
namespace bC
def K0:=Func.code f57
end bC
def bC.pt(tv:zW)(H:zV)(R:zj):Prop:=
 eM tv (
 R vT H) (λa=>
 ∃x,hat H a=some (vp x)/\
 eM x (
 R vT H) (λxA=>
 ∃b,hat H (a.add 1029)=some (vi b)/\
 R (.bool (b==1)) H))
namespace bC
theorem link(h:pt a H b):C a H b:=by
 refine T_en K0 19 func57 ?_
 intro w0 Q hQ
 unfold pt at h
 refine T_su [(0,vp a)]<|aA 0<|T_ed 1 [] []<|aA 1<|T_nd 1 [] [(3,vp a)] ?_
 rcases a with _ | R
 ·rw[onPtr_none]at h
  exact T_nr 16 [2] [vT] hQ h
 rw[onPtr_some]at h
 refine T_n 5 [(0,vq R),(5,vF),(8,vq R)] ?_
 obtain⟨x,q1,h⟩:=h
 refine T_l1 9 23 q1 [8] ?_
 rcases x with _ | xA
 ·rw[onPtr_none]at h
  exact T_nr 10 [2] [vT] hQ h
 rw[onPtr_some]at h
 refine T_n 6 [(12,vF),(15,vq (R.add 1029))] ?_
 obtain⟨tv,q2,h⟩:=h
 exact T_l1 16 3 q2 [15]<|T_nr 3 [2] [.bool (tv==1)] hQ h
end bC
variable{H:zV}{a:zW}{b:zj}{d g:Int}
/-! (*moraine/trace.Trace).round -/
namespace cH
def K0:=Func.code f58
def K2:=cb K0
def K4:=cb K2
def K5:=ca K4
def K7:=ca K5
def K8:=cb K5
def K9:=ca K8
def K10:=ca K9
def K12:=cb K10
def K14:=cb K12
def K17:=ca K14
def K19:=ca K17
def K21:=cb K19
def K23:=cb K21
def K29:=cb K23
def K30:=ca K29
def K31:=ca K30
def K33:=cb K31
def K38:=ca K33
def K40:=ca K38
def K42:=cb K40
def K43:=ca K42
end cH
def cH.pt(tv:zW)(H:zV)(R:zj):Prop:=
 ∃d,tv=some d/\
 ∃x,hat H d=some (vp x)/\
 ∃xA,x=some xA/\
 ∃b0,hat H xA=some (vp b0)/\
 ∃an,b0=some an/\
 ∃bz,hat H an=some (vp bz)/\
 ∃am,bz=some am/\
 ∃av,hat H am=some (vp av)/\
 ∃ba,hat H (d.add 1)=some (vi ba)/\
 ∀b H1,b=H.size->H1=H.push (.cells #[vi ba] 3)->aU H1 d 0 [vq xA]/\aU H1 xA 0 [vq an]/\aU H1 an 0 [vq am]/\aU H1 am 0 [vp av]/\
 cz.C av (some (ad b)) 1 1 H1 (λv H2=> ∃xB xN xC,v=vs xB xN xC/\
 ∃(bk:Bool->zk) (m11:Bool->Int->zV->Nat),bk false 0 H2/\ ∀g s29 H3,bk g s29 H3->
 if s29< (xN:Int)then(
 ∃f,xB=some f/\
 zv s29 xN/\
 ∃e,hat H3 (f.add (Int.toNat s29*1))=some (vi e)/\
 zv e 1024/\
 ∃a4,hat H3 ((d.add 2).add (Int.toNat e*1))=some (vi a4)/\
 if a4=1 then(
 (bk g (zY (s29+1)) H3/\m11 g (zY (s29+1)) H3<m11 g s29 H3))
 else
 ∃bo,hat H3 d=some (vp bo)/\
 ∃bs,bo=some bs/\
 ∃bn,hat H3 bs=some (vp bn)/\
 ∃br,bn=some br/\
 ∃bg,hat H3 br=some (vp bg)/\
 ∃bf,bg=some bf/\
 ∃a3,hat H3 bf=some (vp a3)/\
 bA.C a3 e H3 (λb2 H4=> ∃ao ak a5 u aa y r rb,b2=.tuple #[.agg #[vi ao,vi ak,vi a5,vi u,vi aa,vi y,vi r],.bool rb]/\
 ∀a0 H5,a0=H4.size->H5=H4.push (.cells #[vi 0,vi 0,vi 0,vi 0,vi 0,vi 0,vi 0] 108)->
 (aM H5 (ad a0) 0 7)/\ ∀H6,H6=aP H5 (ad a0) [vi ao,vi ak,vi a5,vi u,vi aa,vi y,vi r] 0->
 ∃(bq:Bool->zW->zV->Prop) (m32:Bool->zW->zV->Nat),bq g (some (ad a0)) H6/\ ∀j s H7,bq j s H7->
 ∃a6,hat H7 (d.add 1027)=some (.map a6)/\
 ∃mr,a6=some mr/\
 ∃es cl ks,H7[mr]?=some (.map es cl)/\Ents (cU .i64) es.toList ks/\
 ∃al,(mget ks e).getD (vi 0)=vi al/\
 ∃sA,s=some sA/\
 ∃aq,hat H7 (sA.add 2)=some (vi aq)/\
 if al<aq then(
 ∃a8,hat H7 (d.add 1027)=some (.map a8)/\
 ∃bl,a8=some bl/\
 ∃bw cl_2 ks_2,H7[bl]?=some (.map bw cl_2)/\Ents (cU .i64) bw.toList ks_2/\
 ∃ac,(mget ks_2 e).getD (vi 0)=vi ac/\
 ∃ax,hat H7 (d.add 1027)=some (.map ax)/\
 ∃ay,hat H7 (sA.add 2)=some (vi ay)/\
 ∃a9,ax=some a9/\
 ∃bt cl_3 ks_3,H7[a9]?=some (.map bt cl_3)/\Ents (cU .i64) bt.toList ks_3/\
 ∀bm cl_4 H8,H8=bH H7 a9 (.map bm cl_4)->Ents (cU .i64) bm.toList (mput ks_3 e (vi ay))->
 ∃a1,hat H8 (sA.add 2)=some (vi a1)/\
 ∃a7,hat H8 (sA.add 1)=some (vi a7)/\
 cS.C (some d) e ac a1 a7 H8 (λ_ H9=>
 ∃aw ap az ae ah af ag,aU H9 sA 0 [vi aw,vi ap,vi az,vi ae,vi ah,vi af,vi ag]/\
 ∀ab H10,ab=H9.size->H10=H9.push (.cells #[vi 0,vi 0,vi 0,vi 0,vi 0,vi 0,vi 0] 108)->
 (aM H10 (ad ab) 0 7)/\ ∀bb,bb=aP H10 (ad ab) [vi aw,vi ap,vi az,vi ae,vi ah,vi af,vi ag] 0->
 ∃bi,hat bb d=some (vp bi)/\
 ∃bj,bi=some bj/\
 ∃bd,hat bb bj=some (vp bd)/\
 ∃bc,bd=some bc/\
 ∃bh,hat bb bc=some (vp bh)/\
 ∃be,bh=some be/\
 ∃a2,hat bb be=some (vp a2)/\
 bA.C a2 e bb (λb1 bx=> ∃aj ai au p o m q bu,b1=.tuple #[.agg #[vi aj,vi ai,vi au,vi p,vi o,vi m,vi q],.bool bu]/\
 (aM bx (ad ab) 0 7)/\ ∀bp,bp=aP bx (ad ab) [vi aj,vi ai,vi au,vi p,vi o,vi m,vi q] 0->
 (bq true (some (ad ab)) bp/\m32 true (some (ad ab)) bp<m32 j s H7))))
 else
 (bk j (zY (s29+1)) H7/\m11 j (zY (s29+1)) H7<m11 g s29 H3)))
 else
 R (.bool g) H3)
namespace cH
theorem link(h:pt a H b):C a H b:=by
 refine T_en K0 109 func58 ?_
 intro w0 Q hQ
 unfold pt zY at h
 refine T_su [(0,vp a)]<|aA 0<|T_ed 1 [] []<|aA 1<|T_ed 1 [] [(3,vF)]<|T_sz<|T_sz ?_
 obtain⟨d,rfl,x,q1,xA,rfl,b0,q2,an,rfl,bz,q3,am,rfl,av,q4,ba,q5,h⟩:=h
 refine yW 2 (Code.ops K7) [(18,d,[vq xA]),(18,xA,[vq an]),(18,an,[vq am]),(18,am,[vp av]),(17,(d.add 1),[vi ba])] 21 (bv 21 0) (show aI _ _ _ from⟨⟨q1,trivial⟩,⟨q2,trivial⟩,⟨q3,trivial⟩,⟨q4,trivial⟩,⟨q5,trivial⟩,trivial⟩)<|T_gp 0 (some 9) (vq d) (bv 21 1) [(0,vq d),(3,vF),(9,vq d)]<|aG 1 10 (vq d) (bv 21 3) [9]<|aG 2 11 (vq d) (bv 21 7) [10]<|T_g1 3 12 (vq xA) (bv 21 15) [11] (aQ 23 (vq d)) (yV 18 zw)<|aG 4 13 (vq xA) (bv 21 31) [12]<|aG 5 14 (vq xA) (bv 21 63) [13]<|T_g1 6 15 (vq an) (bv 21 127) [14] (aQ 49 (vq xA)) (yV 18 yZ)<|aG 7 16 (vq an) (bv 21 255) [15]<|aG 8 17 (vq an) (bv 21 511) [16]<|T_g1 9 18 (vq am) (bv 21 1023) [17] (aQ 52 (vq an)) (yV 18 yX)<|aG 10 19 (vq am) (bv 21 2047) [18]<|aG 11 20 (vq am) (bv 21 4095) [19]<|T_g1 12 21 (vp av) (bv 21 8191) [20] (aQ 78 (vq am)) (yV 18 yQ)<|aG 13 22 (vq d) (bv 21 16383) []<|aG 14 23 (vq d) (bv 21 32767) [22]<|aG 15 24 (vq (d.add 1)) (bv 21 65535) [23]<|T_g1 16 25 (vi ba) (bv 21 131071) [24] (aQ 3 (vq (d.add 1))) (yV 17 yJ)<|aG 20 29 (vi 0) (bv 21 1179647) []<|oy 17 (some 26) (bv 21 1310719) (λtv=>vs (pa tv) 1 1) (.cells #[vi ba] 3) (by kernel_rfl) (λ_=>by kernel_rfl) (by kernel_rfl) ?_
 intro tv H1 e10 e11
 replace h:=h tv H1 e10 e11
 obtain⟨f6,f7,f8,f9,h⟩:=h
 refine⟨[(0,vq d),(3,vF),(21,vp av),(26,vs (pa tv) 1 1),(29,vi 0)],pk,(show aI _ _ _ from⟨f6,f7,f8,f9,trivial,trivial⟩),?_⟩
 refine yY 18 (some 27) (bv 21 1572863) 45 #[vp av,vs (pa tv) 1 1] h ?_;clear h
 rintro v H2 ⟨xB,xN,xC,rfl,h⟩
 refine⟨[(0,vq d),(3,vF),(27,vs xB xN xC),(29,vi 0)],pk,(show aI _ _ _ from⟨trivial,trivial,trivial,trivial,trivial,trivial⟩),?_⟩
 refine T_g 19 (some 28) (vi xN) (bv 21 2097151) [(0,vq d),(3,vF),(27,vs xB xN xC),(28,vi xN),(29,vi 0)] (pure (.value (vi xN)):Sem Next) (λ_ _ _ _ _=>rfl)<|fE [(0,vq d),(3,vF),(27,vs xB xN xC),(28,vi xN),(29,vi 0)] sk<|yq<|aE<|T_bz 0 ?_
 obtain⟨bk,m11,i12,i13⟩:=h
 refine cX (x:=K10) (σ:=Bool×Int) (λs_=> [(0,vq d),(3,.bool s_.1),(27,vs xB xN xC),(28,vi xN),(29,vi s_.2)]) (λs_ H=>bk s_.1 s_.2 H) (λs_ H=>m11 s_.1 s_.2 H) ((false,0):Bool×Int) (by kernel_rfl) i12 sk ?_
 rintro⟨g,s29⟩ H3 i14
 have h:=i13 g s29 H3 i14
 refine T_su [(0,vq d),(3,.bool g),(27,vs xB xN xC),(28,vi xN),(29,vi s29)]<|aA 3<|T_ed 1 [] [(30,.bool (decide (s29< (xN:Int))))]<|T_sz ?_
 revert h;refine iO_ (λc15 h=>?_) (λc15 h=>?_)
 ·refine aJ 30 (zX c15)<|T_kt<|T_sz<|T_bz 1<|aA 4<|T_ud [30] [] ?_
  obtain⟨f,rfl,q17,h⟩:=h
  refine T_xd (some 31) 75 3 1 f xN xC .i64 s29 underlying75 q17.1 q17.2 [27] [(27,vs (some f) xN xC),(31,vq (f.add (Int.toNat s29*1)))] ?_
  obtain⟨e,q18,h⟩:=h
  refine T_l1 32 3 q18 [31]<|T_ed 1 [32] [(5,vi e)]<|T_sz<|aA 5<|T_nd 4 [] [(34,vi e),(36,vq (d.add 2))] ?_
  obtain⟨q19,h⟩:=h
  refine T_v1 37 (bE 103 (vq (d.add 2)) (vi e)) (vq ((d.add 2).add (Int.toNat e*1))) (λw _=>bF (P:=prog) (t:=103) (elem:=3) (sz:=1) (n:=1024) (a:=(d.add 2)) (k:=.i64) (i:=e) underlying103 (λ_=>by kernel_rfl) q19.1 q19.2 w) [34,36] ?_
  obtain⟨a4,q20,h⟩:=h
  refine T_l1 38 3 q20 [37]<|T_ed 1 [38] [(39,.bool (a4==1))] ?_
  revert h;refine iO_ (λc21 h=>?_) (λc21 h=>?_)
  ·exact aJ 39 (zK c21)<|zz 1<|aB<|aN<|aE<|T_rz 15<|T_ed 2 [5,29,39] [(29,vi (zY (s29+1)))]<|aT ((g,(zY (s29+1))):Bool×Int) sk h
  refine aK 39 (zJ c21)<|T_kt<|aA 6<|T_nd 3 [39] [(43,vq d)] ?_
  obtain⟨bo,q23,h⟩:=h
  refine T_l1 44 23 q23 [43] ?_
  obtain⟨bs,rfl,h⟩:=h
  refine T_nd 2 [44] [(46,vq bs)] ?_
  obtain⟨bn,q24,h⟩:=h
  refine T_l1 47 49 q24 [46] ?_
  obtain⟨br,rfl,h⟩:=h
  refine T_nd 2 [47] [(49,vq br)] ?_
  obtain⟨bg,q25,h⟩:=h
  refine T_l1 50 52 q25 [49] ?_
  obtain⟨bf,rfl,h⟩:=h
  refine T_nd 2 [50] [(52,vq bf)] ?_
  obtain⟨a3,q26,h⟩:=h
  refine T_l1 53 78 q26 [52]<|T_nd 1 [] [(54,vi e)]<|T_c (some 55) h ?_;clear h
  rintro b2 H4 ⟨ao,ak,a5,u,aa,y,r,rb,rfl,h⟩
  refine T_pd [53,54] [(55,.tuple #[.agg #[vi ao,vi ak,vi a5,vi u,vi aa,vi y,vi r],.bool rb])]<|T_nd 3 [55] [(56,.agg #[vi ao,vi ak,vi a5,vi u,vi aa,vi y,vi r]),(57,.bool rb)]<|T_nw (some 6) (λtv=>vp (pa tv)) (.cells #[vi 0,vi 0,vi 0,vi 0,vi 0,vi 0,vi 0] 108) ?_
  intro a0 H5 e27 e28
  replace h:=h a0 H5 e27 e28
  refine T_pd [] [(6,vp (pa a0))] ?_
  obtain⟨q30,h⟩:=h
  refine fT 108 [vi ao,vi ak,vi a5,vi u,vi aa,vi y,vi r] q30 ?_
  intro H6 e29
  replace h:=h H6 e29
  refine T_pd [56] []<|T_ed 1 [57] []<|T_bz 2 ?_
  obtain⟨bq,m32,i31,i32⟩:=h
  refine cX (x:=K31) (σ:=Bool×zW) (λs_=> [(0,vq d),(3,.bool s_.1),(5,vi e),(6,vp s_.2),(27,vs (some f) xN xC),(28,vi xN),(29,vi s29)]) (λs_ H=>bq s_.1 s_.2 H) (λs_ H=>m32 s_.1 s_.2 H) ((g,(pa a0)):Bool×zW) (by kernel_rfl) i31 sk ?_
  rintro⟨j,s⟩ H7 i33
  have h:=i32 j s H7 i33
  refine T_su [(0,vq d),(3,.bool j),(5,vi e),(6,vp s),(27,vs (some f) xN xC),(28,vi xN),(29,vi s29)]<|T_sz<|T_sz<|oG 7<|T_q1 58 (vq d) []<|T_q1 59 (vq d) [58]<|T_q1 60 (vq (d.add 1027)) [59] ?_
  obtain⟨a6,q34,h⟩:=h
  refine kL (some 61) 102 q34 [60] [(61,.map a6)]<|T_q (some 62) (vi e) [(0,vq d),(3,.bool j),(5,vi e),(6,vp s),(27,vs (some f) xN xC),(28,vi xN),(29,vi s29),(61,.map a6),(62,vi e)] ?_
  obtain⟨mr,rfl,es,cl,ks,q35,q36,al,e67,h⟩:=h
  refine Q_op (some 63) (jw 102 (.map (some mr)) (vi e) false) (vi al) (λ_=>by kernel_rfl) (λw hw=>(ji (kk:=(cU .i64)) (z:=vi 0) underlying102 underlying3 (λ_=>by kernel_rfl) (by rw[hw];exact q35) q36 false).trans (by simp only[if_true,Bool.false_eq_true,if_false,e67])) [(0,vp (some d)),(3,.bool j),(5,vi e),(6,vp s),(27,vs (some f) xN xC),(28,vi xN),(29,vi s29),(63,vi al)] pk ?_
  obtain⟨sA,rfl,h⟩:=h
  refine T_q (some 64) (vq (sA.add 2)) [(0,vq d),(3,.bool j),(5,vi e),(6,vq sA),(27,vs (some f) xN xC),(28,vi xN),(29,vi s29),(63,vi al),(64,vq (sA.add 2))] ?_
  obtain⟨aq,q38,h⟩:=h
  refine kL (some 65) 3 q38 [64] [(65,vi aq)]<|T_q1 66 (.bool (decide (al<aq))) [63,65]<|j4 [(0,vq d),(3,.bool j),(5,vi e),(6,vq sA),(27,vs (some f) xN xC),(28,vi xN),(29,vi s29),(66,.bool (decide (al<aq)))] sk<|T_qe ?_
  revert h;refine iO_ (λc39 h=>?_) (λc39 h=>?_)
  ·refine aJ 66 (zX c39)<|T_kt<|T_sz<|T_bz 3<|aA 9<|T_n 3 [(0,vq d),(5,vi e),(6,vq sA),(27,vs (some f) xN xC),(28,vi xN),(29,vi s29),(87,vq (d.add 1027))] ?_
   obtain⟨a8,q41,h⟩:=h
   refine T_l1 88 102 q41 [87]<|T_nd 1 [] [(89,vi e)] ?_
   obtain⟨bl,rfl,bw,cl_2,ks_2,q42,q43,ac,e65,h⟩:=h
   refine T_v1 90 (jw 102 (.map (some bl)) (vi e) false) (vi ac) (λw hw=>(ji (kk:=(cU .i64)) (z:=vi 0) underlying102 underlying3 (λ_=>by kernel_rfl) (by rw[hw];exact q42) q43 false).trans (by simp only[if_true,Bool.false_eq_true,if_false,e65])) [88,89]<|T_ed 1 [90] [(8,vi ac)]<|T_sz ?_
   obtain⟨ax,q45,ay,q46,h⟩:=h
   refine yW 10 (Code.ops K43) [(7,(d.add 1027),[.map ax]),(7,(sA.add 2),[vi ay])] 8 (bv 8 0) (show aI _ _ _ from⟨⟨q45,trivial⟩,⟨q46,trivial⟩,trivial⟩)<|T_gp 0 (some 91) (vq d) (bv 8 1) [(0,vq d),(5,vi e),(6,vq sA),(8,vi ac),(27,vs (some f) xN xC),(28,vi xN),(29,vi s29),(91,vq d)]<|aG 1 92 (vq d) (bv 8 3) [91]<|aG 2 93 (vq (d.add 1027)) (bv 8 7) [92]<|T_g1 3 94 (.map ax) (bv 8 15) [93] (aQ 102 (vq (d.add 1027))) (yV 7 zw)<|aG 4 95 (vi e) (bv 8 31) []<|aG 5 96 (vq (sA.add 2)) (bv 8 63) []<|T_g1 6 97 (vi ay) (bv 8 127) [96] (aQ 3 (vq (sA.add 2))) (yV 7 yZ) ?_
   obtain⟨a9,rfl,bt,cl_3,ks_3,q47,q48,h⟩:=h
   refine fX 7 none (bv 8 255) (ku 102 (.map (some a9)) (vi e) (vi ay)) (λHz=> ∃es2 cl2,Hz=bH H7 a9 (.map es2 cl2)/\Ents (cU .i64) es2.toList (mput ks_3 e (vi ay))) (by kernel_rfl) (λ_=>by kernel_rfl) (λw hw=>by obtain⟨es2,cl2,q1,q2⟩:=nH (kk:=(cU .i64)) (P:=prog) (w:=w) (k:=e) (v:=vi ay) underlying102 underlying3 (by rw[hw];exact q47) q48;exact⟨_,q1,⟨rfl,rfl,rfl,Nat.le_refl _⟩,es2,cl2,by rw[<-hw],q2⟩) (by kernel_rfl) ?_
   rintro H8 ⟨bm,cl_4,e50,e51⟩
   replace h:=h bm cl_4 H8 e50 e51
   refine⟨[(0,vq d),(5,vi e),(6,vq sA),(8,vi ac),(27,vs (some f) xN xC),(28,vi xN),(29,vi s29)],pk,(show aI _ _ _ from⟨trivial,trivial,trivial⟩),?_⟩
   refine fE [(0,vq d),(5,vi e),(6,vq sA),(8,vi ac),(27,vs (some f) xN xC),(28,vi xN),(29,vi s29)] sk ?_
   refine yq<|aE<|aA 11<|T_n 4 [(0,vq d),(5,vi e),(6,vq sA),(27,vs (some f) xN xC),(28,vi xN),(29,vi s29),(98,vq d),(99,vi e),(100,vi ac),(101,vq (sA.add 2))] ?_
   obtain⟨a1,q52,h⟩:=h
   refine T_l1 102 3 q52 [101]<|T_nd 1 [] [(103,vq (sA.add 1))] ?_
   obtain⟨a7,q53,h⟩:=h
   refine T_l1 104 3 q53 [103]<|T_c (some 105) h ?_;clear h
   intro v_3 H9 h
   refine T_pd [98,99,100,102,104] []<|T_e<|T_rz 12<|T_nd 1 [] [(3,vT)]<|zq<|aD<|aE<|T_sz<|aA 13 ?_
   obtain⟨aw,ap,az,ae,ah,af,ag,q54,h⟩:=h
   refine T_lr 106 108 q54 [6]<|T_e<|T_rz 14<|T_nw (some 6) (λtv=>vp (pa tv)) (.cells #[vi 0,vi 0,vi 0,vi 0,vi 0,vi 0,vi 0] 108) ?_
   intro ab H10 e55 e56
   replace h:=h ab H10 e55 e56
   refine T_pd [] [(6,vp (pa ab))] ?_
   obtain⟨q58,h⟩:=h
   refine fT 108 [vi aw,vi ap,vi az,vi ae,vi ah,vi af,vi ag] q58 ?_
   intro bb e57
   replace h:=h bb e57
   refine T_pd [106] []<|T_e<|T_rz 8<|T_nd 3 [] [(70,vq d)] ?_
   obtain⟨bi,q59,h⟩:=h
   refine T_l1 71 23 q59 [70] ?_
   obtain⟨bj,rfl,h⟩:=h
   refine T_nd 2 [71] [(73,vq bj)] ?_
   obtain⟨bd,q60,h⟩:=h
   refine T_l1 74 49 q60 [73] ?_
   obtain⟨bc,rfl,h⟩:=h
   refine T_nd 2 [74] [(76,vq bc)] ?_
   obtain⟨bh,q61,h⟩:=h
   refine T_l1 77 52 q61 [76] ?_
   obtain⟨be,rfl,h⟩:=h
   refine T_nd 2 [77] [(79,vq be)] ?_
   obtain⟨a2,q62,h⟩:=h
   refine T_l1 80 78 q62 [79]<|T_nd 1 [] [(81,vi e)]<|T_c (some 82) h ?_;clear h
   rintro b1 bx ⟨aj,ai,au,p,o,m,q,bu,rfl,h⟩
   refine T_pd [80,81] [(82,.tuple #[.agg #[vi aj,vi ai,vi au,vi p,vi o,vi m,vi q],.bool bu])]<|T_nd 3 [82] [(83,.agg #[vi aj,vi ai,vi au,vi p,vi o,vi m,vi q])] ?_
   obtain⟨q64,h⟩:=h
   refine fT 108 [vi aj,vi ai,vi au,vi p,vi o,vi m,vi q] q64 ?_
   intro bp e63
   replace h:=h bp e63
   exact T_pd [83] []<|T_e<|aT ((true,(pa ab)):Bool×zW) sk h
  exact aK 66 (zQ c39)<|zz 2<|aB<|aB<|aN<|aD<|aE<|T_rz 15<|T_ne 2 [(0,vq d),(3,.bool j),(27,vs (some f) xN xC),(28,vi xN),(29,vi (zY (s29+1)))]<|aT ((j,(zY (s29+1))):Bool×Int) sk h
 exact aK 30 (zQ c15)<|zz 0<|aB<|aB<|aN<|aE<|aA 16<|T_nr 2 [2] [.bool g] hQ h
end cH
/-! (*moraine/trace.Trace).look -/
namespace cS
def K0:=Func.code f72
def K2:=cb K0
def K4:=cb K2
def K6:=cb K4
def K7:=ca K6
def K8:=ca K7
end cS
def cS.pt(tv:zW)(d e to a:Int)(H:zV)(R:zj):Prop:=
 ∀b H1,b=H.size->H1=H.push (.cells #[vp tv] 37)->
 ∃(I9:zk) (m9:Int->zV->Nat),I9 e H1/\ ∀i H2,I9 i H2->
 if((decide (i<to)) && (a !=3))=true then(
 if((a !=1) || ((Int.tmod i 2)==1))=true then(
 bZ.C (zY ((zY (d*64))+i)) (some (ad b)) H2 (λ_ H3=>
 (I9 (zY (i+1)) H3/\m9 (zY (i+1)) H3<m9 i H2)))
 else
 (I9 (zY (i+1)) H2/\m9 (zY (i+1)) H2<m9 i H2))
 else
 R (.tuple #[]) H2
namespace cS
theorem link{to R:Int}(h:pt a d g to R H b):C a d g to R H b:=by
 refine T_en K0 36 func72 ?_
 intro w0 Q hQ
 unfold pt zY at h
 refine T_su [(0,vp a),(1,vi d),(2,vi g),(3,vi to),(4,vi R)]<|aA 0<|T_nw (some 5) (λe=>vp (pa e)) (.cells #[vp a] 37) ?_
 intro e H1 e1 e2
 replace h:=h e H1 e1 e2
 refine T_pd [0] [(5,vp (pa e))]<|T_e<|aA 1<|T_ed 2 [5] [(10,.func (.func 112) #[] #[vp (pa e)])]<|aA 2<|T_ed 2 [2] [(11,vi g)]<|T_bz 0 ?_
 obtain⟨I9,m9,i3,i4⟩:=h
 refine cX (x:=K8) (σ:=Int) (λs_=> [(1,vi d),(3,vi to),(4,vi R),(10,.func (.func 112) #[] #[vp (pa e)]),(11,vi s_)]) (λs_ H=>I9 s_ H) (λs_ H=>m9 s_ H) (g:Int) (by kernel_rfl) i3 sk ?_
 rintro i H2 i5
 have h:=i4 i H2 i5
 refine T_su [(1,vi d),(3,vi to),(4,vi R),(10,.func (.func 112) #[] #[vp (pa e)]),(11,vi i)]<|T_sz<|aA 3 ?_
 refine fx [(1,vi d),(3,vi to),(4,vi R),(10,.func (.func 112) #[] #[vp (pa e)]),(11,vi i),(20,.bool ((decide (i<to)) && (R !=3)))] ?_ ?_
 ·refine aE ?_
  revert h;refine iO_ (λc8 h=>?_) (λc8 h=>?_)
  ·refine aJ 20 c8<|T_kt<|T_sz<|T_bz 1<|aA 5 ?_
   refine fx [(1,vi d),(3,vi to),(4,vi R),(10,.func (.func 112) #[] #[vp (pa e)]),(11,vi i),(29,.bool ((R !=1) || ((Int.tmod i 2)==1)))] ?_ ?_
   ·refine aE ?_
    revert h;refine iO_ (λc12 h=>?_) (λc12 h=>?_)
    ·refine aJ 29 c12<|T_rz 6<|T_n 5 [(1,vi d),(3,vi to),(4,vi R),(10,.func (.func 112) #[] #[vp (pa e)]),(11,vi i),(30,.func (.func 112) #[] #[vp (pa e)]),(34,vi (zY ((zY (d*64))+i)))]<|T_c (some 35) h ?_;clear h
     intro v H3 h
     exact T_pd [30,34] []<|zq<|aD<|aE<|T_rz 4<|T_ed 3 [11] [(11,vi (zY (i+1)))]<|aT ((zY (i+1)):Int) sk h
    exact aK 29 (zZ c12)<|T_k<|aD<|aE<|T_rz 4<|T_ne 3 [(1,vi d),(3,vi to),(4,vi R),(10,.func (.func 112) #[] #[vp (pa e)]),(11,vi (zY (i+1)))]<|aT ((zY (i+1)):Int) sk h
   intro hk
   refine T_n 3 [(1,vi d),(3,vi to),(4,vi R),(10,.func (.func 112) #[] #[vp (pa e)]),(11,vi i),(25,.bool (R !=1))] ?_
   by_cases c10:R=1
   ·have b11:(R !=1)=false:=bne_eq_false_iff_eq.mpr c10
    refine bT [(1,vi d),(3,vi to),(4,vi R),(10,.func (.func 112) #[] #[vp (pa e)]),(11,vi i),(25,vF)] (by rw[b11]) ?_
    refine T_nd 4 [25] [(29,.bool ((Int.tmod i 2)==1))]<|zq<|S_bd 29 (b:=((Int.tmod i 2)==1)) (v:=((R !=1) || ((Int.tmod i 2)==1))) (by simp only[b11,BL]) ?_
    exact hk
   have b11:(R !=1)=true:=bne_iff_ne.mpr c10
   refine bT [(1,vi d),(3,vi to),(4,vi R),(10,.func (.func 112) #[] #[vp (pa e)]),(11,vi i),(25,vT)] (by rw[b11]) ?_
   refine T_nd 4 [25] [(29,vT)]<|zq<|S_bd 29 (b:=true) (v:=((R !=1) || ((Int.tmod i 2)==1))) (by simp only[b11,BL]) ?_
   exact hk
  exact aK 20 (zZ c8)<|zz 0<|aB<|aB<|aN<|fI (fn:=f72) [] hQ (show dY _ _ _ [] _ from .nil) h
 intro hk
 refine T_n 4 [(1,vi d),(3,vi to),(4,vi R),(10,.func (.func 112) #[] #[vp (pa e)]),(11,vi i),(17,.bool (decide (i<to)))] ?_
 by_cases c6:i<to
 ·have b7:(decide (i<to))=true:=zX c6
  refine bT [(1,vi d),(3,vi to),(4,vi R),(10,.func (.func 112) #[] #[vp (pa e)]),(11,vi i),(17,vT)] (by rw[b7]) ?_
  refine T_nd 3 [17] [(20,.bool (R !=3))]<|zq<|S_bd 20 (b:=(R !=3)) (v:=((decide (i<to)) && (R !=3))) (by simp only[b7,BL]) ?_
  exact hk
 have b7:(decide (i<to))=false:=zQ c6
 refine bT [(1,vi d),(3,vi to),(4,vi R),(10,.func (.func 112) #[] #[vp (pa e)]),(11,vi i),(17,vF)] (by rw[b7]) ?_
 refine T_nd 3 [17] [(20,vF)]<|zq<|S_bd 20 (b:=false) (v:=((decide (i<to)) && (R !=3))) (by simp only[b7,BL]) ?_
 exact hk
end cS
/-! (*moraine/trace.Trace).Weaks.1 -/
namespace aY
def K0:=Func.code f74
def K2:=cb K0
def K3:=ca K2
def K4:=ca K3
end aY
def aY.pt(d f to:Int)(e:zW)(H:zV)(R:zj):Prop:=
 ∃(I5:zk) (m5:Int->zV->Nat),I5 f H/\ ∀i H1,I5 i H1->
 if i<to then(
 ∃a,e=some a/\
 ∃xB xN xC,hat H1 a=some (vs xB xN xC)/\
 ∀b H2,b=H1.size->H2=H1.push (.cells #[vi (zY ((zY (d*64))+i))] 3)->
 fy 1 3 8 [vi 0] xB xN xC (some (ad b)) 1 H2 (λap g H3=>
 (aM H3 a 0 1)/\ ∀H4,H4=aP H3 a [vs ap (xN+1) g] 0->
 (I5 (zY (i+2)) H4/\m5 (zY (i+2)) H4<m5 i H1)))
 else
 R (.tuple #[]) H1
namespace aY
theorem link{to:Int}(h:pt d g to a H b):C d g to a H b:=by
 refine T_en K0 21 func74 ?_
 intro w0 Q hQ
 unfold pt zY at h
 refine T_su [(0,vi d),(1,vi g),(2,vi to),(3,vp a)]<|aA 0<|T_ed 2 [1] [(7,vi g)]<|T_bz 0 ?_
 obtain⟨I5,m5,i1,i2⟩:=h
 refine cX (x:=K4) (σ:=Int) (λs_=> [(0,vi d),(2,vi to),(3,vp a),(7,vi s_)]) (λs_ H=>I5 s_ H) (λs_ H=>m5 s_ H) (g:Int) (by kernel_rfl) i1 sk ?_
 rintro i H1 i3
 have h:=i2 i H1 i3
 refine T_su [(0,vi d),(2,vi to),(3,vp a),(7,vi i)]<|T_sz<|aA 1<|T_ed 3 [] [(11,.bool (decide (i<to)))] ?_
 revert h;refine iO_ (λc4 h=>?_) (λc4 h=>?_)
 ·refine aJ 11 (zX c4)<|T_kt<|T_sz<|T_bz 1<|T_rz 3<|T_ud [11] [] ?_
  obtain⟨R,rfl,xB,xN,xC,q6,h⟩:=h
  refine T_ld (some 14) 75 q6 [3] [(3,vq R),(14,vs xB xN xC)]<|T_nd 4 [] [(18,vi (zY ((zY (d*64))+i)))]<|T_nw (some 19) (λe=>vs (pa e) 1 1) (.cells #[vi (zY ((zY (d*64))+i))] 3) ?_
  intro e H2 e7 e8
  replace h:=h e H2 e7 e8
  refine T_pd [18] [(19,vs (pa e) 1 1)]<|N_op (some 20) (fl #[75,75] 75 #[vs xB xN xC,vs (pa e) 1 1]) _ (λ_=>by kernel_rfl) (fd (T:=3) (sz:=1) (bytes:=8) (zero:=(vi 0:Value)) underlying75 underlying75 rfl (show prog.info? 3=some t3 from by kernel_rfl) (by kernel_rfl) (by kernel_rfl) (by decide) (by kernel_rfl) (by first | exact h | (simpa only[Value.cells,List.toList_toArray]using h))) ?_;clear h
  rintro _ H3 ⟨ap,f,rfl,h⟩
  refine T_pd [14,19] [(20,vs ap (xN+1) f)] ?_
  obtain⟨q10,h⟩:=h
  refine gL 75 (vs ap (xN+1) f) q10 ?_
  intro H4 e9
  replace h:=h H4 e9
  exact T_pd [20] []<|zq<|aD<|aE<|T_rz 2<|T_ed 3 [7] [(7,vi (zY (i+2)))]<|aT ((zY (i+2)):Int) sk h
 exact aK 11 (zQ c4)<|zz 0<|aB<|aB<|aN<|fI (fn:=f74) [] hQ (show dY _ _ _ [] _ from .nil) h
end aY
/-! (*moraine/trace.Trace).Ended -/
namespace cI
def K0:=Func.code f100
end cI
def cI.pt(tv:zW)(H:zV)(R:zj):Prop:=
 bC.C tv H (λv H1=> ∃x,v=.bool x/\
 R (.bool x) H1)
namespace cI
theorem link(h:pt a H b):C a H b:=by
 refine T_en K0 5 func100 ?_
 intro w0 Q hQ
 unfold pt at h
 refine T_su [(0,vp a)]<|aA 0<|T_ed 1 [] []<|aA 1<|T_n 1 [(3,vp a)]<|T_c (some 4) h ?_;clear h
 rintro v H1 ⟨x,rfl,h⟩
 refine⟨[(4,.bool x)],pk,?_⟩
 exact T_nr 1 [2] [.bool x] hQ h
end cI
/-! (*moraine/trace.Trace).Put -/
namespace de
def K0:=Func.code f102
def K2:=cb K0
def K4:=cb K2
def K11:=ca K4
end de
def de.pt(tv:zW)(d b:Int)(H:zV)(R:zj):Prop:=
 bC.C tv H (λv H1=> ∃x,v=.bool x/\
 if x=true then(
 R (vu 20) H1)
 else
 ∃a,tv=some a/\
 ∃af,hat H1 a=some (vp af)/\
 ∃f,af=some f/\
 ∃ah,hat H1 f=some (vp ah)/\
 ∃e,ah=some e/\
 ∃g,hat H1 e=some (vp g)/\
 ∃k,hat H1 (a.add 1)=some (vi k)/\
 bO.C g k 0 2 H1 (λai H2=> ∃ra rb,ai=.tuple #[vi ra,vi rb]/\
 if rb=0 then(
 ∃t,hat H2 a=some (vp t)/\
 ∃ab,t=some ab/\
 ∃y,hat H2 ab=some (vp y)/\
 ∃z,y=some z/\
 ∃aa,hat H2 z=some (vp aa)/\
 ∃u,aa=some u/\
 ∃s,hat H2 u=some (vp s)/\
 bG.C s ra d H2 (λal H3=> ∃ag,al=vi ag/\
 ∃n,hat H3 a=some (vp n)/\
 ∃m,n=some m/\
 ∃r,hat H3 m=some (vp r)/\
 ∃o,r=some o/\
 ∃p,hat H3 o=some (vp p)/\
 ∃q,p=some q/\
 ∃j,hat H3 q=some (vp j)/\
 bG.C j (zY (ra+1)) b H3 (λak H4=> ∃ae,ak=vi ae/\
 fK.C 1 ra H4 (λaj H5=> ∃i ac,aj=.tuple #[vu i,vi ac]/\
 R (vu i) H5))))
 else
 R (vu 20) H2))
namespace de
theorem link(h:pt a d g H b):C a d g H b:=by
 refine T_en K0 72 func102 ?_
 intro w0 Q hQ
 unfold pt zY at h
 refine T_su [(0,vp a),(1,vu d),(2,vu g)]<|aA 0<|T_ed 1 [] []<|T_sz<|aA 1<|T_nd 1 [] [(11,vp a)]<|T_c (some 12) h ?_;clear h
 rintro v H1 ⟨x,rfl,h⟩
 refine T_pd [11] [(12,.bool x)]<|T_e ?_
 revert h;refine iO_ (λc1 h=>?_) (λc1 h=>?_)
 ·exact aJ 12 c1<|aA 2<|T_nr 1 [6] [vu 20] hQ h
 refine aK 12 (zZ c1)<|T_kt<|T_sz ?_
 obtain⟨R,rfl,af,q3,f,rfl,ah,q4,e,rfl,tv,q5,k,q6,h⟩:=h
 refine yW 3 (Code.ops K11) [(14,R,[vq f]),(14,f,[vq e]),(14,e,[vp tv]),(14,(R.add 1),[vi k])] 20 (bv 20 0) (show aI _ _ _ from⟨⟨q3,trivial⟩,⟨q4,trivial⟩,⟨q5,trivial⟩,⟨q6,trivial⟩,trivial⟩)<|T_gp 0 (some 14) (vq R) (bv 20 1) [(0,vq R),(1,vu d),(2,vu g),(14,vq R)]<|aG 1 15 (vq R) (bv 20 3) [14]<|aG 2 16 (vq R) (bv 20 7) [15]<|T_g1 3 17 (vq f) (bv 20 15) [16] (aQ 23 (vq R)) (yV 14 zw)<|aG 4 18 (vq f) (bv 20 31) [17]<|aG 5 19 (vq f) (bv 20 63) [18]<|T_g1 6 20 (vq e) (bv 20 127) [19] (aQ 49 (vq f)) (yV 14 yZ)<|aG 7 21 (vq e) (bv 20 255) [20]<|aG 8 22 (vq e) (bv 20 511) [21]<|T_g1 9 23 (vp tv) (bv 20 1023) [22] (aQ 52 (vq e)) (yV 14 yX)<|aG 10 24 (vq R) (bv 20 2047) []<|aG 11 25 (vq R) (bv 20 4095) [24]<|aG 12 26 (vq (R.add 1)) (bv 20 8191) [25]<|T_g1 13 27 (vi k) (bv 20 16383) [26] (aQ 3 (vq (R.add 1))) (yV 14 yQ)<|yY 14 (some 28) (bv 20 32767) 53 #[vp tv,vi k,vi 0,vi 2] h ?_;clear h
 rintro ai H2 ⟨ra,rb,rfl,h⟩
 refine⟨[(0,vq R),(1,vu d),(2,vu g),(28,.tuple #[vi ra,vi rb])],pk,(show aI _ _ _ from⟨trivial,trivial,trivial,trivial,trivial⟩),?_⟩
 refine T_g 15 (some 13) (.tuple #[vi ra,vi rb]) (bv 20 65535) [(0,vq R),(1,vu d),(2,vu g),(13,.tuple #[vi ra,vi rb])] (pure (.value (.tuple #[vi ra,vi rb])):Sem Next) (λ_ _ _ _ _=>rfl)<|T_g1 16 29 (vi ra) (bv 20 131071) [] (pure (.value (vi ra)):Sem Next) (λ_ _ _ _ _=>rfl)<|T_g1 17 30 (vi rb) (bv 20 262143) [13] (pure (.value (vi rb)):Sem Next) (λ_ _ _ _ _=>rfl)<|T_g1 18 7 (vi ra) (bv 20 524287) [29] (pure (.value (vi ra)):Sem Next) (λ_ _ _ _ _=>rfl)<|T_g1 19 8 (vi rb) (bv 20 1048575) [30] (pure (.value (vi rb)):Sem Next) (λ_ _ _ _ _=>rfl)<|fE [(0,vq R),(1,vu d),(2,vu g),(7,vi ra),(8,vi rb)] sk<|yq<|aE<|T_sz<|aA 4<|T_ne 2 [(0,vq R),(1,vu d),(2,vu g),(7,vi ra),(32,.bool (rb !=0))] ?_
 revert h;refine iO_ (λc7 h=>?_) (λc7 h=>?_)
 ·refine aK 32 (bne_eq_false_iff_eq.mpr c7)<|T_kt<|aA 6<|T_nd 3 [32] [(35,vq R)] ?_
  obtain⟨t,q9,h⟩:=h
  refine T_l1 36 23 q9 [35] ?_
  obtain⟨ab,rfl,h⟩:=h
  refine T_nd 2 [36] [(38,vq ab)] ?_
  obtain⟨y,q10,h⟩:=h
  refine T_l1 39 49 q10 [38] ?_
  obtain⟨z,rfl,h⟩:=h
  refine T_nd 2 [39] [(41,vq z)] ?_
  obtain⟨aa,q11,h⟩:=h
  refine T_l1 42 52 q11 [41] ?_
  obtain⟨u,rfl,h⟩:=h
  refine T_nd 2 [42] [(44,vq u)] ?_
  obtain⟨s,q12,h⟩:=h
  refine T_l1 45 78 q12 [44]<|T_nd 2 [1] [(46,vi ra),(47,vu d)]<|T_c (some 48) h ?_;clear h
  rintro al H3 ⟨ag,rfl,h⟩
  refine T_pd [45,46,47] []<|T_e<|aA 7<|T_nd 3 [0] [(51,vq R)] ?_
  obtain⟨n,q13,h⟩:=h
  refine T_l1 52 23 q13 [51] ?_
  obtain⟨m,rfl,h⟩:=h
  refine T_nd 2 [52] [(54,vq m)] ?_
  obtain⟨r,q14,h⟩:=h
  refine T_l1 55 49 q14 [54] ?_
  obtain⟨o,rfl,h⟩:=h
  refine T_nd 2 [55] [(57,vq o)] ?_
  obtain⟨p,q15,h⟩:=h
  refine T_l1 58 52 q15 [57] ?_
  obtain⟨q,rfl,h⟩:=h
  refine T_nd 2 [58] [(60,vq q)] ?_
  obtain⟨j,q16,h⟩:=h
  refine T_l1 61 78 q16 [60]<|T_nd 3 [2] [(63,vi (zY (ra+1))),(64,vu g)]<|T_c (some 65) h ?_;clear h
  rintro ak H4 ⟨ae,rfl,h⟩
  refine⟨[(7,vi ra)],pk,?_⟩
  refine T_e<|aA 8<|T_n 1 [(67,vi ra)]<|T_c (some 68) h ?_;clear h
  rintro aj H5 ⟨i,ac,rfl,h⟩
  refine⟨[(68,.tuple #[vu i,vi ac])],pk,?_⟩
  exact T_ne 5 [(9,vu i)]<|aA 9<|T_nr 2 [6] [vu i] hQ h
 exact aJ 32 (bne_iff_ne.mpr c7)<|aA 5<|T_nr 1 [6] [vu 20] hQ h
end de
/-! (*moraine/trace.Trace).look.1 -/
namespace bZ
def K0:=Func.code f112
def K2:=cb K0
end bZ
def bZ.pt(b:Int)(n:zW)(H:zV)(R:zj):Prop:=
 ∃a,n=some a/\
 ∃x,hat H a=some (vp x)/\
 ∃xA,x=some xA/\
 ∃q,hat H xA=some (vp q)/\
 ∃p,q=some p/\
 ∃s,hat H p=some (vp s)/\
 ∃o,s=some o/\
 ∃t,hat H o=some (vp t)/\
 ∃r,t=some r/\
 ∃k,hat H r=some (vp k)/\
 bN.C k b H (λv H1=> ∃ra rb,v=.tuple #[vu ra,vi rb]/\
 ∃u,hat H1 a=some (vp u)/\
 ∃i,u=some i/\
 ∃z,hat H1 i=some (vp z)/\
 ∃g,z=some g/\
 ∃ab,hat H1 g=some (vp ab)/\
 ∃f,ab=some f/\
 ∃aa,hat H1 f=some (vp aa)/\
 ∃e,aa=some e/\
 ∃d,hat H1 e=some (vp d)/\
 ∃j,hat H1 a=some (vp j)/\
 aR.C j ra H1 (λac H2=> ∃m,ac=vu m/\aU H2 a 0 [vq i]/\aU H2 i 0 [vq g]/\aU H2 g 0 [vq f]/\aU H2 f 0 [vq e]/\aU H2 e 0 [vp d]/\
 bG.C d b m H2 (λae H3=> ∃y,ae=vi y/\
 R (.tuple #[]) H3)))
namespace bZ
theorem link(h:pt d a H b):C d a H b:=by
 refine T_en K0 41 func112 ?_
 intro w0 Q hQ
 unfold pt at h
 refine T_su [(0,vi d),(1,vp a)]<|aA 0 ?_
 obtain⟨R,rfl,x,q1,h⟩:=h
 refine T_ld (some 6) 37 q1 [1] [(1,vq R),(6,vp x)] ?_
 obtain⟨xA,rfl,h⟩:=h
 refine T_nd 2 [6] [(8,vq xA)] ?_
 obtain⟨q,q2,h⟩:=h
 refine T_l1 9 23 q2 [8] ?_
 obtain⟨p,rfl,h⟩:=h
 refine T_nd 2 [9] [(11,vq p)] ?_
 obtain⟨s,q3,h⟩:=h
 refine T_l1 12 49 q3 [11] ?_
 obtain⟨o,rfl,h⟩:=h
 refine T_nd 2 [12] [(14,vq o)] ?_
 obtain⟨t,q4,h⟩:=h
 refine T_l1 15 52 q4 [14] ?_
 obtain⟨r,rfl,h⟩:=h
 refine T_nd 2 [15] [(17,vq r)] ?_
 obtain⟨k,q5,h⟩:=h
 refine T_l1 18 78 q5 [17]<|T_nd 1 [] [(19,vi d)]<|T_c (some 20) h ?_;clear h
 rintro v H1 ⟨ra,rb,rfl,h⟩
 refine T_pd [18,19] [(20,.tuple #[vu ra,vi rb])]<|T_ed 5 [20] [(3,vu ra)] ?_
 obtain⟨u,q6,i,rfl,z,q7,g,rfl,ab,q8,f,rfl,aa,q9,e,rfl,n,q10,j,q11,h⟩:=h
 refine yW 1 (Code.ops K2) [(17,R,[vq i]),(17,i,[vq g]),(17,g,[vq f]),(17,f,[vq e]),(17,e,[vp n]),(16,R,[vp j])] 18 (bv 18 0) (show aI _ _ _ from⟨⟨q6,trivial⟩,⟨q7,trivial⟩,⟨q8,trivial⟩,⟨q9,trivial⟩,⟨q10,trivial⟩,⟨q11,trivial⟩,trivial⟩)<|T_g 0 (some 23) (vq i) (bv 18 1) [(0,vi d),(1,vq R),(3,vu ra),(23,vq i)] (aQ 37 (vq R)) (yV 17 zw)<|aG 1 24 (vq i) (bv 18 3) [23]<|aG 2 25 (vq i) (bv 18 7) [24]<|T_g1 3 26 (vq g) (bv 18 15) [25] (aQ 23 (vq i)) (yV 17 yZ)<|aG 4 27 (vq g) (bv 18 31) [26]<|aG 5 28 (vq g) (bv 18 63) [27]<|T_g1 6 29 (vq f) (bv 18 127) [28] (aQ 49 (vq g)) (yV 17 yX)<|aG 7 30 (vq f) (bv 18 255) [29]<|aG 8 31 (vq f) (bv 18 511) [30]<|T_g1 9 32 (vq e) (bv 18 1023) [31] (aQ 52 (vq f)) (yV 17 yQ)<|aG 10 33 (vq e) (bv 18 2047) [32]<|aG 11 34 (vq e) (bv 18 4095) [33]<|T_g1 12 35 (vp n) (bv 18 8191) [34] (aQ 78 (vq e)) (yV 17 yJ)<|aG 13 36 (vi d) (bv 18 16383) [0]<|T_g1 14 37 (vp j) (bv 18 32767) [1] (aQ 37 (vq R)) (yV 16 yK)<|aG 15 38 (vu ra) (bv 18 65535) [3]<|yY 16 (some 39) (bv 18 131071) 13 #[vp j,vu ra] h ?_;clear h
 rintro ac H2 ⟨m,rfl,f12,f13,f14,f15,f16,h⟩
 refine⟨[(35,vp n),(36,vi d),(39,vu m)],pk,(show aI _ _ _ from⟨f12,f13,f14,f15,f16,trivial,trivial⟩),?_⟩
 refine yY 17 (some 40) (bv 18 262143) 54 #[vp n,vi d,vu m] h ?_;clear h
 rintro ae H3 ⟨y,rfl,h⟩
 refine⟨[],pk,(show aI _ _ _ from⟨trivial,trivial,trivial,trivial,trivial,trivial,trivial⟩),?_⟩
 refine fE [] sk ?_
 exact yq<|fI (fn:=f112) [] hQ (show dY _ _ _ [] _ from .nil) h
end bZ
variable{a:zj}{b g:Int}{H:zV}{d:zW}
/-! (*moraine/seg.Mem).Read -/
namespace bN
def K0:=Func.code f33
end bN
def bN.pt(m:zW)(a:Int)(H:zV)(R:zj):Prop:=
 dO.C m a H (λv H1=> ∃x,v=vp x/\
 eM x (
 R (.tuple #[vu 0,vi 18]) H1) (λxA=>
 ∃b,hat H1 xA=some (vu b)/\
 R (.tuple #[vu b,vi 0]) H1))
namespace bN
theorem link(h:pt d b H a):C d b H a:=by
 refine T_en K0 15 func33 ?_
 intro w0 Q hQ
 unfold pt at h
 refine T_su [(0,vp d),(1,vi b)]<|aA 0<|T_ed 2 [] []<|T_sz<|aA 1<|T_n 2 [(7,vp d),(8,vi b)]<|T_c (some 9) h ?_;clear h
 rintro v H1 ⟨x,rfl,h⟩
 refine⟨[(9,vp x)],pk,?_⟩
 refine T_ne 1 [(6,vp x)]<|aA 2<|T_nd 1 [] [(10,vp x)] ?_
 rcases x with _ | xA
 ·rw[onPtr_none]at h
  exact T_ne 1 [(6,vp none),(11,vF)]<|T_fz 11<|T_kt<|aA 4<|T_nr 2 [4,5] [vu 0,vi 18] hQ h
 rw[onPtr_some]at h
 refine T_ne 1 [(6,vq xA),(11,vT)]<|T_tz 11<|aA 3<|T_n 2 [(13,vq xA)] ?_
 obtain⟨R,q1,h⟩:=h
 exact T_l1 14 28 q1 [13]<|T_nr 2 [4,5] [vu R,vi 0] hQ h
end bN
/-! (*moraine/seg.Mem).Seg -/
namespace bA
def K0:=Func.code f47
end bA
def bA.pt(m:zW)(y:Int)(H:zV)(R:zj):Prop:=
 ∀b H1,b=H.size->H1=H.push (.cells #[vi 0,vi 0,vi 0,vi 0,vi 0,vi 0,vi 0] 108)->
 dG.C m y H1 (λv H2=> ∃x,v=vp x/\
 eM x (
 (aM H2 (ad b) 0 7)/\ ∀H3,H3=aP H2 (ad b) [vi 0,vi 0,vi 0,vi 0,vi 0,vi 0,vi 0] 0->
 ∃ab z rN o p r q,aU H3 (ad b) 0 [vi ab,vi z,vi rN,vi o,vi p,vi r,vi q]/\
 R (.tuple #[.agg #[vi ab,vi z,vi rN,vi o,vi p,vi r,vi q],vF]) H3) (λxA=>
 ∃s n xN a d e f,aU H2 xA 0 [vi s,vi n,vi xN,vi a,vi d,vi e,vi f]/\
 (aM H2 (ad b) 0 7)/\ ∀H4,H4=aP H2 (ad b) [vi s,vi n,vi xN,vi a,vi d,vi e,vi f] 0->
 ∃u t aa g i k j,aU H4 (ad b) 0 [vi u,vi t,vi aa,vi g,vi i,vi k,vi j]/\
 R (.tuple #[.agg #[vi u,vi t,vi aa,vi g,vi i,vi k,vi j],vT]) H4))
namespace bA
theorem link(h:pt d b H a):C d b H a:=by
 refine T_en K0 17 func47 ?_
 intro w0 Q hQ
 unfold pt at h
 refine T_su [(0,vp d),(1,vi b)]<|aA 0<|T_nw (some 4) (λy=>vp (pa y)) (.cells #[vi 0,vi 0,vi 0,vi 0,vi 0,vi 0,vi 0] 108) ?_
 intro y H1 e1 e2
 replace h:=h y H1 e1 e2
 refine T_pd [] [(4,vp (pa y))]<|T_ed 1 [] []<|aA 1<|T_nd 2 [0,1] [(7,vp d),(8,vi b)]<|T_c (some 9) h ?_;clear h
 rintro v H2 ⟨x,rfl,h⟩
 refine T_pd [7,8] [(9,vp x)]<|T_ed 1 [9] [(6,vp x)]<|T_sz<|aA 2<|T_nd 1 [] [(10,vp x)] ?_
 rcases x with _ | xA
 ·rw[onPtr_none]at h
  refine T_ed 1 [6,10] [(6,vp none),(11,vT)]<|T_tz 11<|aA 3<|T_nd 1 [6,11] [(12,.agg #[vi 0,vi 0,vi 0,vi 0,vi 0,vi 0,vi 0])] ?_
  obtain⟨q4,h⟩:=h
  refine fT 108 [vi 0,vi 0,vi 0,vi 0,vi 0,vi 0,vi 0] q4 ?_
  intro H3 e3
  replace h:=h H3 e3
  refine T_pd [12] []<|T_ed 1 [] [(5,vF)]<|oq (by kernel_rfl) ?_
  show At _ _ _ _ _ (Q .ret)
  obtain⟨ab,z,rN,o,p,r,q,q5,h⟩:=h
  exact nF (fn:=f47) [.agg #[vi ab,vi z,vi rN,vi o,vi p,vi r,vi q],vF] hQ (show dY _ _ _ [.cell 4 108,.tmp 5] _ from .cell (by kernel_rfl) (gX (λ_=>by kernel_rfl) (λ_=>by kernel_rfl) q5) (.tmp (by kernel_rfl) (.nil))) h
 rw[onPtr_some]at h
 refine T_ed 1 [6,10] [(6,vq xA),(11,vF)]<|T_fz 11<|T_kt<|aA 4<|T_nd 3 [6,11] [(15,vq xA)] ?_
 obtain⟨s,n,xN,R,m,e,f,q6,h⟩:=h
 refine T_lr 16 108 q6 [15] ?_
 obtain⟨q8,h⟩:=h
 refine fT 108 [vi s,vi n,vi xN,vi R,vi m,vi e,vi f] q8 ?_
 intro H4 e7
 replace h:=h H4 e7
 refine T_pd [16] []<|T_ed 1 [] [(5,vT)]<|oq (by kernel_rfl) ?_
 show At _ _ _ _ _ (Q .ret)
 obtain⟨u,t,aa,g,i,k,j,q9,h⟩:=h
 exact nF (fn:=f47) [.agg #[vi u,vi t,vi aa,vi g,vi i,vi k,vi j],vT] hQ (show dY _ _ _ [.cell 4 108,.tmp 5] _ from .cell (by kernel_rfl) (gX (λ_=>by kernel_rfl) (λ_=>by kernel_rfl) q9) (.tmp (by kernel_rfl) (.nil))) h
end bA
/-! (*moraine/seg.Mem).Write -/
namespace bG
def K0:=Func.code f54
end bG
def bG.pt(m:zW)(a wv:Int)(H:zV)(R:zj):Prop:=
 dO.C m a H (λv H1=> ∃x,v=vp x/\
 eM x (
 R (vi 18) H1) (λxA=>
 (aM H1 xA 0 1)/\ ∀H2,H2=aP H1 xA [vu wv] 0->
 R (vi 0) H2))
namespace bG
theorem link(h:pt d b g H a):C d b g H a:=by
 refine T_en K0 16 func54 ?_
 intro w0 Q hQ
 unfold pt at h
 refine T_su [(0,vp d),(1,vi b),(2,vu g)]<|aA 0<|T_ed 1 [] []<|aA 1<|T_nd 2 [0,1] [(8,vp d),(9,vi b)]<|T_c (some 10) h ?_;clear h
 rintro v H1 ⟨x,rfl,h⟩
 refine T_pd [8,9] [(10,vp x)]<|T_ed 1 [10] [(7,vp x)]<|T_sz<|aA 2<|T_nd 1 [] [(11,vp x)] ?_
 rcases x with _ | xA
 ·rw[onPtr_none]at h
  exact T_ed 1 [7,11] [(7,vp none),(12,vT)]<|T_tz 12<|aA 3<|T_nr 1 [6] [vi 18] hQ h
 rw[onPtr_some]at h
 refine T_ed 1 [7,11] [(7,vq xA),(12,vF)]<|T_fz 12<|T_kt<|aA 4<|T_n 3 [(14,vu g),(15,vq xA)] ?_
 obtain⟨q2,h⟩:=h
 refine gL 28 (vu g) q2 ?_
 intro H2 e1
 replace h:=h H2 e1
 refine⟨[],pk,?_⟩
 exact T_e<|aA 5<|T_nr 1 [6] [vi 0] hQ h
end bG
/-! (*moraine/seg.Mem).word -/
namespace dO
def K0:=Func.code f75
end dO
def dO.pt(m:zW)(b:Int)(H:zV)(R:zj):Prop:=
 if b<0 then(
 R (vp none) H)
 else
 dG.C m (zY (Int.tdiv b 64)) H (λv H1=> ∃x,v=vp x/\
 eM x (
 R (vp none) H1) (λxA=>
 ∃d,hat H1 (xA.add 2)=some (vi d)/\
 if(Int.tmod b 64)>=d then(
 R (vp none) H1)
 else
 ((0:Int)<=(Int.tmod b 64)/\(Int.tmod b 64)< (64:Int))/\
 R (vq ((xA.add 8).add (Int.toNat (Int.tmod b 64)*1))) H1))
namespace dO
theorem link(h:pt d b H a):C d b H a:=by
 refine T_en K0 30 func75 ?_
 intro w0 Q hQ
 unfold pt zY at h
 refine T_su [(0,vp d),(1,vi b)]<|aA 0<|T_ed 1 [] []<|T_sz<|aA 1<|T_ed 2 [] [(7,.bool (decide (b<0)))] ?_
 revert h;refine iO_ (λc1 h=>?_) (λc1 h=>?_)
 ·exact aJ 7 (zX c1)<|aA 2<|T_nr 1 [4] [vp none] hQ h
 refine aK 7 (zQ c1)<|T_kt<|aA 3<|T_nd 3 [0,7] [(8,vp d),(10,vi (zY (Int.tdiv b 64)))]<|T_c (some 11) h ?_;clear h
 rintro v H1 ⟨x,rfl,h⟩
 refine T_pd [8,10] [(11,vp x)]<|T_ed 1 [11] [(5,vp x)]<|T_sz<|aA 4<|T_nd 1 [] [(12,vp x)] ?_
 rcases x with _ | xA
 ·rw[onPtr_none]at h
  exact T_ed 11 [5,12] [(5,vp none),(23,vT)]<|T_tz 23<|aA 5<|T_nr 1 [4] [vp none] hQ h
 rw[onPtr_some]at h
 refine T_nd 8 [5,12] [(5,vq xA),(14,vF),(16,vi (Int.tmod b 64)),(20,vq (xA.add 2))] ?_
 obtain⟨m,q3,h⟩:=h
 refine T_l1 21 3 q3 [20]<|T_ed 2 [14,16,21] [(23,.bool (decide ((Int.tmod b 64)>=m)))] ?_
 revert h;refine iO_ (λc4 h=>?_) (λc4 h=>?_)
 ·exact aJ 23 (zX c4)<|aA 5<|T_nr 1 [4] [vp none] hQ h
 refine aK 23 (zQ c4)<|T_kt<|aA 6<|T_n 5 [(26,vi (Int.tmod b 64)),(28,vq (xA.add 8))] ?_
 obtain⟨q6,h⟩:=h
 exact T_v1 29 (bE 159 (vq (xA.add 8)) (vi (Int.tmod b 64))) (vq ((xA.add 8).add (Int.toNat (Int.tmod b 64)*1))) (λw _=>bF (P:=prog) (t:=159) (elem:=28) (sz:=1) (n:=64) (a:=(xA.add 8)) (k:=.i64) (i:=(Int.tmod b 64)) underlying159 (λ_=>by kernel_rfl) q6.1 q6.2 w) [26,28]<|T_nr 1 [4] [vq ((xA.add 8).add (Int.toNat (Int.tmod b 64)*1))] hQ h
end dO
/-! (*moraine/seg.Mem).at -/
namespace dG
def K0:=Func.code f91
end dG
def dG.pt(m:zW)(b:Int)(H:zV)(R:zj):Prop:=
 eM m (
 R (vp none) H) (λmA=>
 if b<0 then(
 R (vp none) H)
 else
 ∃xB xN xC,hat H mA=some (vs xB xN xC)/\
 if b>=(xN:Int)then(
 R (vp none) H)
 else
 ∃o f j,hat H mA=some (vs o f j)/\
 ∃d,o=some d/\
 zv b f/\
 ∃x,hat H ((d.add (Int.toNat b*72)).add 7)=some (vi x)/\
 if x=0 then(
 R (vp none) H)
 else
 ∃p g n,hat H mA=some (vs p g n)/\
 ∃e,p=some e/\
 zv b g/\
 R (vq (e.add (Int.toNat b*72))) H)
namespace dG
theorem link(h:pt d b H a):C d b H a:=by
 refine T_en K0 37 func91 ?_
 intro w0 Q hQ
 unfold pt at h
 refine T_su [(0,vp d),(1,vi b)]<|aA 0<|T_ed 1 [] []<|T_sz<|aA 1<|T_nd 1 [] [(5,vp d)] ?_
 rcases d with _ | mA
 ·rw[onPtr_none]at h
  exact T_ed 25 [0,5] [(0,vp none),(30,vT)]<|T_tz 30<|aA 2<|T_nr 1 [4] [vp none] hQ h
 rw[onPtr_some]at h
 refine T_nd 6 [0,5] [(0,vq mA),(11,.bool (decide (b<0)))] ?_
 revert h;refine iO_ (λc1 h=>?_) (λc1 h=>?_)
 ·exact N_bd 11 (zX c1)<|T_ed 19 [11] [(30,vT)]<|T_tz 30<|aA 2<|T_nr 1 [4] [vp none] hQ h
 refine N_bd 11 (zQ c1)<|T_nd 4 [] [(12,vi b),(15,vq mA)] ?_
 obtain⟨xB,xN,xC,q3,h⟩:=h
 refine T_l1 16 155 q3 [15]<|T_nd 4 [11,12,16] [(20,.bool (decide (b>=(xN:Int))))] ?_
 revert h;refine iO_ (λc4 h=>?_) (λc4 h=>?_)
 ·exact N_bd 20 (zX c4)<|T_ed 10 [20] [(30,vT)]<|T_tz 30<|aA 2<|T_nr 1 [4] [vp none] hQ h
 refine N_bd 20 (zQ c4)<|T_nd 3 [] [(23,vq mA)] ?_
 obtain⟨o,f,j,q6,h⟩:=h
 refine T_l1 24 155 q6 [23]<|T_nd 1 [] [(25,vi b)] ?_
 obtain⟨R,rfl,q7,h⟩:=h
 refine T_xd (some 26) 155 161 72 R f j .i64 b underlying155 q7.1 q7.2 [24,25] [(26,vq (R.add (Int.toNat b*72)))]<|T_nd 1 [26] [(27,vq ((R.add (Int.toNat b*72)).add 7))] ?_
 obtain⟨x,q8,h⟩:=h
 refine T_l1 28 3 q8 [27]<|T_ed 2 [20,28] [(30,.bool (x==0))] ?_
 revert h;refine iO_ (λc9 h=>?_) (λc9 h=>?_)
 ·exact aJ 30 (zK c9)<|aA 2<|T_nr 1 [4] [vp none] hQ h
 refine aK 30 (zJ c9)<|T_kt<|aA 3<|T_nd 3 [0,30] [(33,vq mA)] ?_
 obtain⟨p,g,n,q11,h⟩:=h
 refine T_l1 34 155 q11 [33]<|T_nd 1 [1] [(35,vi b)] ?_
 obtain⟨e,rfl,q12,h⟩:=h
 exact T_ix (some 36) 155 161 72 e g n .i64 b underlying155 q12.1 q12.2 [(36,vq (e.add (Int.toNat b*72)))]<|T_nr 1 [4] [vq (e.add (Int.toNat b*72))] hQ h
end dG
/-! (*moraine/seg.Mem).Bump -/
namespace dQ
def K0:=Func.code f98
end dQ
def dQ.pt(m:zW)(a nv:Int)(H:zV)(R:zj):Prop:=
 dG.C m a H (λv H1=> ∃x,v=vp x/\
 eM x (
 R (.tuple #[vi 0,vi 19]) H1) (λxA=>
 if nv<1 then(
 R (.tuple #[vi 0,vi 1]) H1)
 else
 ∃d,hat H1 (xA.add 2)=some (vi d)/\
 if nv>(zY (64-d))then(
 R (.tuple #[vi 0,vi 2]) H1)
 else
 ∃b,hat H1 (xA.add 2)=some (vi b)/\
 (aM H1 (xA.add 2) 0 1)/\ ∀H2,H2=aP H1 (xA.add 2) [vi (zY (b+nv))] 0->
 ∃e,hat H2 (xA.add 2)=some (vi e)/\
 R (.tuple #[vi (zY ((zY ((zY (a*64))+e))-nv)),vi 0]) H2))
namespace dQ
theorem link(h:pt d b g H a):C d b g H a:=by
 refine T_en K0 47 func98 ?_
 intro w0 Q hQ
 unfold pt zY at h
 refine T_su [(0,vp d),(1,vi b),(2,vi g)]<|aA 0<|T_ed 2 [] []<|aA 1<|T_nd 2 [0] [(9,vp d),(10,vi b)]<|T_c (some 11) h ?_;clear h
 rintro v H1 ⟨x,rfl,h⟩
 refine T_pd [9,10] [(11,vp x)]<|T_ed 1 [11] [(8,vp x)]<|T_sz<|T_bz 0<|aA 2<|T_nd 1 [] [(13,vp x)] ?_
 rcases x with _ | xA
 ·rw[onPtr_none]at h
  exact T_ed 2 [8,13] [(8,vp none),(12,vT)]<|T_tz 12<|aA 3<|T_nr 2 [6,7] [vi 0,vi 19] hQ h
 rw[onPtr_some]at h
 refine T_ed 2 [8,13] [(8,vq xA),(12,vF)]<|T_fz 12<|aA 4<|T_ed 3 [12] [(15,.bool (decide (g<1)))] ?_
 revert h;refine iO_ (λc1 h=>?_) (λc1 h=>?_)
 ·exact aJ 15 (zX c1)<|aA 5<|T_nr 2 [6,7] [vi 0,vi 1] hQ h
 refine aK 15 (zQ c1)<|aA 6<|T_nd 5 [15] [(19,vi g),(23,vq (xA.add 2))] ?_
 obtain⟨nv,q3,h⟩:=h
 refine T_l1 24 3 q3 [23]<|T_ed 3 [19,24] [(18,.bool (decide (g>(zY (64-nv)))))] ?_
 revert h;refine iO_ (λc4 h=>?_) (λc4 h=>?_)
 ·exact aJ 18 (zX c4)<|aA 7<|T_nr 2 [6,7] [vi 0,vi 2] hQ h
 refine aK 18 (zQ c4)<|T_k<|aD<|aE<|aA 8<|T_nd 4 [18] [(27,vq xA),(30,vq (xA.add 2))] ?_
 obtain⟨R,q6,h⟩:=h
 refine T_l1 31 3 q6 [30]<|T_nd 5 [27,31] [(33,vi (zY (R+g))),(36,vq (xA.add 2))] ?_
 obtain⟨q8,h⟩:=h
 refine gL 3 (vi (zY (R+g))) q8 ?_
 intro H2 e7
 replace h:=h H2 e7
 refine T_pd [33,36] []<|T_e<|aA 9<|T_nd 6 [1,8] [(38,vi (zY (b*64))),(42,vq (xA.add 2))] ?_
 obtain⟨e,q9,h⟩:=h
 exact T_l1 43 3 q9 [42]<|T_nr 5 [6,7] [vi (zY ((zY ((zY (b*64))+e))-g)),vi 0] hQ h
end dQ
/-! (*moraine/seg.Mem).Take -/
namespace eq
def K0:=Func.code f99
def K2:=cb K0
def K4:=cb K2
def K19:=cb K4
def K20:=ca K19
def K21:=cb K19
def K22:=ca K20
def K23:=ca K22
def K32:=cb K21
def K34:=cb K32
def K35:=ca K34
end eq
def eq.pt(m:zW)(d b:Int)(H:zV)(R:zj):Prop:=
 eM m (
 R (.tuple #[vi 0,vi 1]) H) (λmA=>
 if d<0 then(
 R (.tuple #[vi 0,vi 1]) H)
 else
 if d>4 then(
 R (.tuple #[vi 0,vi 1]) H)
 else
 if b<0 then(
 R (.tuple #[vi 0,vi 1]) H)
 else
 if b>3 then(
 R (.tuple #[vi 0,vi 1]) H)
 else
 ∃xB xN xC,hat H mA=some (vs xB xN xC)/\
 if(xN:Int)=0 then(
 R (.tuple #[vi 0,vi 1]) H)
 else
 ∃x,hat H (mA.add 2)=some (vi x)/\
 if x=0 then(
 R (.tuple #[vi 0,vi 2]) H)
 else
 ∃(y:zk) (m24:Int->zV->Nat),y 0 H/\ ∀k H1,y k H1->
 ∃u o p,hat H1 mA=some (vs u o p)/\
 ∃n,u=some n/\
 zv k o/\
 ∃q,hat H1 ((n.add (Int.toNat k*72)).add 7)=some (vi q)/\
 if q>0 then(
 (y (zY (k+1)) H1/\m24 (zY (k+1)) H1<m24 k H1))
 else
 ∃r,hat H1 (mA.add 1)=some (vi r)/\
 (aM H1 (mA.add 1) 0 1)/\ ∀H2,H2=aP H1 (mA.add 1) [vi (zY (r+1))] 0->
 ∃s,hat H2 (mA.add 2)=some (vi s)/\
 (aM H2 (mA.add 2) 0 1)/\ ∀H3,H3=aP H2 (mA.add 2) [vi (zY (s-1))] 0->
 ∃z f g,hat H3 mA=some (vs z f g)/\
 ∃j,hat H3 (mA.add 1)=some (vi j)/\
 ∃e,z=some e/\
 zv k f/\
 (aM H3 (e.add (Int.toNat k*72)) 0 72)/\ ∀H4,H4=aP H3 (e.add (Int.toNat k*72)) ([vi d,vi b,vi 0,vi 5,vi 5,vi 5,vi 5,vi j]++List.replicate 64 (vu 0):List Value) 0->
 R (.tuple #[vi k,vi 0]) H4)
namespace eq
theorem link{H:zV}(h:pt d b g H a):C d b g H a:=by
 refine T_en K0 83 func99 ?_
 intro w0 Q hQ
 unfold pt zY at h
 refine T_su [(0,vp d),(1,vi b),(2,vi g)]<|aA 0<|T_ed 2 [] []<|T_sz<|T_bz 0<|aA 1<|T_nd 1 [] [(10,vp d)] ?_
 rcases d with _ | mA
 ·rw[onPtr_none]at h
  exact T_ed 26 [0,10] [(0,vp none),(9,vT)]<|T_tz 9<|aA 2<|T_nr 2 [6,7] [vi 0,vi 1] hQ h
 rw[onPtr_some]at h
 refine T_nd 6 [0,10] [(0,vq mA),(16,.bool (decide (b<0)))] ?_
 revert h;refine iO_ (λc1 h=>?_) (λc1 h=>?_)
 ·exact N_bd 16 (zX c1)<|T_ed 20 [16] [(9,vT)]<|T_tz 9<|aA 2<|T_nr 2 [6,7] [vi 0,vi 1] hQ h
 refine N_bd 16 (zQ c1)<|T_nd 4 [16] [(20,.bool (decide (b>4)))] ?_
 revert h;refine iO_ (λc3 h=>?_) (λc3 h=>?_)
 ·exact N_bd 20 (zX c3)<|T_ed 16 [20] [(9,vT)]<|T_tz 9<|aA 2<|T_nr 2 [6,7] [vi 0,vi 1] hQ h
 refine N_bd 20 (zQ c3)<|T_nd 4 [20] [(24,.bool (decide (g<0)))] ?_
 revert h;refine iO_ (λc5 h=>?_) (λc5 h=>?_)
 ·exact N_bd 24 (zX c5)<|T_ed 12 [24] [(9,vT)]<|T_tz 9<|aA 2<|T_nr 2 [6,7] [vi 0,vi 1] hQ h
 refine N_bd 24 (zQ c5)<|T_nd 4 [24] [(28,.bool (decide (g>3)))] ?_
 revert h;refine iO_ (λc7 h=>?_) (λc7 h=>?_)
 ·exact N_bd 28 (zX c7)<|T_ed 8 [28] [(9,vT)]<|T_tz 9<|aA 2<|T_nr 2 [6,7] [vi 0,vi 1] hQ h
 refine N_bd 28 (zQ c7)<|T_nd 3 [] [(31,vq mA)] ?_
 obtain⟨xB,xN,xC,q9,h⟩:=h
 refine T_l1 32 155 q9 [31]<|T_ed 4 [28,32] [(9,.bool ((xN:Int)==0))] ?_
 revert h;refine iO_ (λc10 h=>?_) (λc10 h=>?_)
 ·exact aJ 9 (zK c10)<|aA 2<|T_nr 2 [6,7] [vi 0,vi 1] hQ h
 refine aK 9 (zJ c10)<|aA 3<|T_nd 3 [9] [(39,vq (mA.add 2))] ?_
 obtain⟨x,q12,h⟩:=h
 refine T_l1 40 3 q12 [39]<|T_ed 2 [40] [(36,.bool (x==0))] ?_
 revert h;refine iO_ (λc13 h=>?_) (λc13 h=>?_)
 ·exact aJ 36 (zK c13)<|aA 4<|T_nr 2 [6,7] [vi 0,vi 2] hQ h
 refine aK 36 (zJ c13)<|T_k<|aD<|aE<|aA 5<|T_ed 1 [36] [(8,vi 0)]<|T_sz<|T_bz 1 ?_
 obtain⟨y,m24,i15,i16⟩:=h
 refine cX (x:=K23) (σ:=Int) (λs_=> [(0,vq mA),(1,vi b),(2,vi g),(8,vi s_)]) (λs_ H=>y s_ H) (λs_ H=>m24 s_ H) (0:Int) (by kernel_rfl) i15 sk ?_
 rintro k H1 i17
 have h:=i16 k H1 i17
 refine T_su [(0,vq mA),(1,vi b),(2,vi g),(8,vi k)]<|T_sz<|aA 6<|T_nd 3 [] [(44,vq mA)] ?_
 obtain⟨u,o,p,q18,h⟩:=h
 refine T_l1 45 155 q18 [44]<|T_nd 1 [] [(46,vi k)] ?_
 obtain⟨n,rfl,q19,h⟩:=h
 refine T_xd (some 47) 155 161 72 n o p .i64 k underlying155 q19.1 q19.2 [45,46] [(47,vq (n.add (Int.toNat k*72)))]<|T_nd 1 [47] [(48,vq ((n.add (Int.toNat k*72)).add 7))] ?_
 obtain⟨q,q20,h⟩:=h
 refine T_l1 49 3 q20 [48]<|T_ed 1 [49] [(50,.bool (decide (q>0)))] ?_
 revert h;refine iO_ (λc21 h=>?_) (λc21 h=>?_)
 ·exact aJ 50 (zX c21)<|T_kt<|T_bz 2<|T_rz 7<|T_nd 3 [8,50] [(8,vi (zY (k+1)))]<|zq<|aD<|aE<|aT ((zY (k+1)):Int) sk h
 refine aK 50 (zQ c21)<|zz 1<|aB<|aB<|aN<|aE<|aA 8<|T_nd 3 [50] [(53,vq mA),(55,vq (mA.add 1))] ?_
 obtain⟨r,q23,h⟩:=h
 refine T_l1 56 3 q23 [55]<|T_nd 3 [53,56] [(57,vi (zY (r+1))),(59,vq (mA.add 1))] ?_
 obtain⟨q25,h⟩:=h
 refine gL 3 (vi (zY (r+1))) q25 ?_
 intro H2 e24
 replace h:=h H2 e24
 refine T_pd [57,59] []<|T_e<|aA 9<|T_nd 3 [] [(60,vq mA),(62,vq (mA.add 2))] ?_
 obtain⟨s,q26,h⟩:=h
 refine T_l1 63 3 q26 [62]<|T_nd 3 [60,63] [(64,vi (zY (s-1))),(66,vq (mA.add 2))] ?_
 obtain⟨q28,h⟩:=h
 refine gL 3 (vi (zY (s-1))) q28 ?_
 intro H3 e27
 replace h:=h H3 e27
 refine T_pd [64,66] []<|T_e<|T_sz ?_
 obtain⟨z,f,m,q29,j,q30,e,rfl,q31,h⟩:=h
 refine yW 10 (Code.ops K35) [(15,mA,[vs (some e) f m]),(15,(mA.add 1),[vi j])] 16 (bv 16 0) (show aI _ _ _ from⟨⟨q29,trivial⟩,⟨q30,trivial⟩,trivial⟩)<|T_gp 0 (some 67) (vp (some mA)) (bv 16 1) [(0,vp (some mA)),(1,vi b),(2,vi g),(8,vi k),(67,vp (some mA))]<|aG 1 68 (vp (some mA)) (bv 16 3) [67]<|aG 2 69 (vp (some mA)) (bv 16 7) [68]<|T_g1 3 70 (vs (some e) f m) (bv 16 15) [69] (aQ 155 (vp (some mA))) (yV 15 zw)<|aG 4 71 (vi k) (bv 16 31) []<|aG 5 72 (vi b) (bv 16 63) [1]<|aG 6 73 (vi g) (bv 16 127) [2]<|aG 7 74 (.agg #[vi 5,vi 5,vi 5,vi 5]) (bv 16 255) []<|aG 8 75 (.agg #[vi b,vi g,vi 0,vi 5,vi 5,vi 5,vi 5]) (bv 16 511) [72,73,74]<|aG 9 76 (vp (some mA)) (bv 16 1023) [0]<|aG 10 77 (vp (some mA)) (bv 16 2047) [76]<|aG 11 78 (vp (some (mA.add 1))) (bv 16 4095) [77]<|T_g1 12 79 (vi j) (bv 16 8191) [78] (aQ 3 (vp (some (mA.add 1)))) (yV 15 yZ)<|aG 13 80 (.agg ([vi b,vi g,vi 0,vi 5,vi 5,vi 5,vi 5,vi j]++List.replicate 64 (vu 0):List Value).toArray) (bv 16 16383) [75,79]<|T_g1 14 81 (vp (some (e.add (Int.toNat k*72)))) (bv 16 32767) [70,71] (bE 155 (vs (some e) f m) (vi k)) (λ_ w _ _ _=>fg (P:=prog) (t:=155) (elem:=161) (sz:=72) (a:=e) (len:=f) (cap:=m) (k:=.i64) (i:=k) underlying155 (λ_=>by kernel_rfl) q31.1 q31.2 w) ?_
 obtain⟨q33,h⟩:=h
 refine fX 15 none (bv 16 65535) (gZ 161 (vq (e.add (Int.toNat k*72))) (.agg ([vi b,vi g,vi 0,vi 5,vi 5,vi 5,vi 5,vi j]++List.replicate 64 (vu 0):List Value).toArray)) (λHz=>Hz=aP H3 (e.add (Int.toNat k*72)) ([vi b,vi g,vi 0,vi 5,vi 5,vi 5,vi 5,vi j]++List.replicate 64 (vu 0):List Value) 0) (by kernel_rfl) (λ_=>by kernel_rfl) (by intro w hw;obtain⟨w1,g1,g2,g3⟩:=hC (P:=prog) (H:=H3) (t:=161) (a:=(e.add (Int.toNat k*72))) (v:=(.agg ([vi b,vi g,vi 0,vi 5,vi 5,vi 5,vi 5,vi j]++List.replicate 64 (vu 0):List Value).toArray)) ([vi b,vi g,vi 0,vi 5,vi 5,vi 5,vi 5,vi j]++List.replicate 64 (vu 0):List Value) 72 (by kernel_rfl) (by kernel_rfl) (λ_=>by kernel_rfl) (by kernel_rfl) q33 w hw;exact⟨w1,g1,g2,g3⟩) (by kernel_rfl) ?_
 intro H4 e32
 replace h:=h H4 e32
 refine⟨[(8,vi k)],pk,(show aI _ _ _ from⟨trivial,trivial,trivial⟩),?_⟩
 refine fE [(8,vi k)] sk ?_
 exact yq<|aE<|aA 11<|T_nr 3 [6,7] [vi k,vi 0] hQ h
end eq
/-! (*moraine/seg.Mem).Mark -/
namespace dS
def K0:=Func.code f108
end dS
def dS.pt(m:zW)(e b d:Int)(H:zV)(R:zj):Prop:=
 dG.C m e H (λv H1=> ∃x,v=vp x/\
 eM x (
 R (vi 19) H1) (λxA=>
 if((((decide (b<0)) || (decide (b>=4))) || (decide (d<0))) || (decide (d>5)))=true then(
 R (vi 1) H1)
 else
 zv b 4/\
 (aM H1 ((xA.add 3).add (Int.toNat b*1)) 0 1)/\ ∀H2,H2=aP H1 ((xA.add 3).add (Int.toNat b*1)) [vi d] 0->
 R (vi 0) H2))
namespace dS
theorem link{e b m:Int}(h:pt d e b m H a):C d e b m H a:=by
 refine T_en K0 38 func108 ?_
 intro w0 Q hQ
 unfold pt at h
 refine T_su [(0,vp d),(1,vi e),(2,vi b),(3,vi m)]<|aA 0<|T_ed 1 [] []<|aA 1<|T_nd 2 [0,1] [(10,vp d),(11,vi e)]<|T_c (some 12) h ?_;clear h
 rintro v H1 ⟨x,rfl,h⟩
 refine T_pd [10,11] [(12,vp x)]<|T_ed 1 [12] [(9,vp x)]<|T_sz<|T_bz 0<|aA 2<|T_nd 1 [] [(14,vp x)] ?_
 rcases x with _ | xA
 ·rw[onPtr_none]at h
  exact T_ed 2 [9,14] [(9,vp none),(13,vT)]<|T_tz 13<|aA 3<|T_nr 1 [8] [vi 19] hQ h
 rw[onPtr_some]at h
 refine T_ed 2 [9,14] [(9,vq xA),(13,vF)]<|T_fz 13<|aA 4 ?_
 refine fx [(2,vi b),(3,vi m),(9,vq xA),(16,.bool ((((decide (b<0)) || (decide (b>=4))) || (decide (m<0))) || (decide (m>5))))] ?_ ?_
 ·refine aE ?_
  revert h;refine iO_ (λc7 h=>?_) (λc7 h=>?_)
  ·exact aJ 16 c7<|aA 5<|T_nr 1 [8] [vi 1] hQ h
  refine aK 16 (zZ c7)<|T_k<|aD<|aE<|aA 6<|T_n 6 [(32,vi b),(33,vi m),(36,vq (xA.add 3))] ?_
  obtain⟨q9,h⟩:=h
  refine T_v1 37 (bE 79 (vq (xA.add 3)) (vi b)) (vq ((xA.add 3).add (Int.toNat b*1))) (λw _=>bF (P:=prog) (t:=79) (elem:=3) (sz:=1) (n:=4) (a:=(xA.add 3)) (k:=.i64) (i:=b) underlying79 (λ_=>by kernel_rfl) q9.1 q9.2 w) [32,36] ?_
  obtain⟨q11,h⟩:=h
  refine gL 3 (vi m) q11 ?_
  intro H2 e10
  replace h:=h H2 e10
  refine⟨[],pk,?_⟩
  exact T_e<|aA 7<|T_nr 1 [8] [vi 0] hQ h
 intro hk
 refine T_n 3 [(2,vi b),(3,vi m),(9,vq xA),(19,.bool (decide (b<0)))] ?_
 by_cases c1:b<0
 ·have b2:(decide (b<0))=true:=zX c1
  refine bT [(2,vi b),(3,vi m),(9,vq xA),(19,vT)] (by rw[b2]) ?_
  refine T_nd 12 [19] [(16,vT)]<|zq<|S_bd 16 (b:=true) (v:=((((decide (b<0)) || (decide (b>=4))) || (decide (m<0))) || (decide (m>5)))) (by simp only[b2,BL]) ?_
  exact hk
 have b2:(decide (b<0))=false:=zQ c1
 refine bT [(2,vi b),(3,vi m),(9,vq xA),(19,vF)] (by rw[b2]) ?_
 refine T_nd 4 [19] [(23,.bool (decide (b>=4)))] ?_
 by_cases c3:b>=4
 ·have b4:(decide (b>=4))=true:=zX c3
  refine N_bd 23 b4<|T_nd 8 [23] [(16,vT)] ?_
  refine zq<|S_bd 16 (b:=true) (v:=((((decide (b<0)) || (decide (b>=4))) || (decide (m<0))) || (decide (m>5)))) (by simp only[b2,b4,BL]) ?_
  exact hk
 have b4:(decide (b>=4))=false:=zQ c3
 refine N_bd 23 b4<|T_nd 4 [23] [(27,.bool (decide (m<0)))] ?_
 by_cases c5:m<0
 ·have b6:(decide (m<0))=true:=zX c5
  refine N_bd 27 b6<|T_nd 4 [27] [(16,vT)] ?_
  refine zq<|S_bd 16 (b:=true) (v:=((((decide (b<0)) || (decide (b>=4))) || (decide (m<0))) || (decide (m>5)))) (by simp only[b2,b4,b6,BL]) ?_
  exact hk
 have b6:(decide (m<0))=false:=zQ c5
 refine N_bd 27 b6<|T_nd 4 [27] [(16,.bool (decide (m>5)))] ?_
 refine zq<|S_bd 16 (b:=(decide (m>5))) (v:=((((decide (b<0)) || (decide (b>=4))) || (decide (m<0))) || (decide (m>5)))) (by simp only[b2,b4,b6,BL]) ?_
 exact hk
end dS
/-! moraine/seg.New -/
namespace gR
def K0:=Func.code f125
end gR
def gR.pt(a:Int)(H:zV)(R:zj):Prop:=
 if((decide (a<8)) || (decide (a>1024)))=true then(
 R (.tuple #[vp none,vi 1]) H)
 else
 0<=a/\a<=a/\576*a<=2 ^ 48/\a<=9223372036854775807/\
 ∀b H1,b=H.size->H1=H.push (.cells (Builtin.zeroCells (List.replicate 8 (vi 0)++List.replicate 64 (vu 0):List Value).toArray (Int.toNat a)) 161)->
 ∀d H2,d=H1.size->H2=H1.push (.cells #[vs (some (ad b)) (Int.toNat a) (Int.toNat a),vi 0,vi a] 157)->
 R (.tuple #[vq (ad d),vi 0]) H2
namespace gR
theorem link(h:pt b H a):C b H a:=by
 refine T_en K0 15 func125 ?_
 intro w0 Q hQ
 unfold pt at h
 refine T_su [(0,vi b)]<|aA 0<|T_ed 2 [] []<|T_sz<|aA 1 ?_
 refine fx [(0,vi b),(9,.bool ((decide (b<8)) || (decide (b>1024))))] ?_ ?_
 ·refine aE ?_
  revert h;refine iO_ (λc3 h=>?_) (λc3 h=>?_)
  ·exact aJ 9 c3<|aA 2<|T_nr 2 [2,3] [vp none,vi 1] hQ h
  refine aK 9 (zZ c3)<|T_kt<|aA 3<|T_n 1 [(0,vi b),(10,vi b)] ?_
  obtain⟨q5,q6,q7,q8,h⟩:=h
  refine N_op (some 11) (iC 155 (vi b) (vi b)) (λv Hz=>v=Value.slice (some (Addr.mk H.size 0 none)) (Int.toNat b) (Int.toNat b)/\Hz=H.push (.cells (Builtin.zeroCells (List.replicate 8 (vi 0)++List.replicate 64 (vu 0):List Value).toArray (Int.toNat b)) 161)) (λ_=>by kernel_rfl) (oA (T:=161) (zero:=.agg (List.replicate 8 (vi 0)++List.replicate 64 (vu 0):List Value).toArray) underlying155 (show prog.info? 161=some t161 from by kernel_rfl) (by kernel_rfl) q5 q6 q7 q8 (by kernel_rfl) (by decide)) ?_
  rintro _ H1 ⟨rfl,e10⟩
  obtain⟨R,e9⟩: ∃R,R=H.size:=⟨_,rfl⟩
  replace h:=h R H1 e9 e10
  rw[<-e9]
  refine T_pd [10] [(11,vs (pa R) (Int.toNat b) (Int.toNat b))]<|T_n 2 [(13,.agg #[vs (pa R) (Int.toNat b) (Int.toNat b),vi 0,vi b])]<|T_nw (some 14) (λR=>vp (pa R)) (.cells #[vs (pa R) (Int.toNat b) (Int.toNat b),vi 0,vi b] 157) ?_
  intro d H2 e11 e12
  replace h:=h d H2 e11 e12
  refine⟨[(14,vp (pa d))],pk,?_⟩
  exact T_nr 2 [2,3] [vp (pa d),vi 0] hQ h
 intro hk
 refine T_n 3 [(0,vi b),(6,.bool (decide (b<8)))] ?_
 by_cases c1:b<8
 ·have b2:(decide (b<8))=true:=zX c1
  refine bT [(0,vi b),(6,vT)] (by rw[b2]) ?_
  refine T_nd 3 [6] [(9,vT)]<|zq<|S_bd 9 (b:=true) (v:=((decide (b<8)) || (decide (b>1024)))) (by simp only[b2,BL]) ?_
  exact hk
 have b2:(decide (b<8))=false:=zQ c1
 refine bT [(0,vi b),(6,vF)] (by rw[b2]) ?_
 refine T_nd 3 [6] [(9,.bool (decide (b>1024)))]<|zq<|S_bd 9 (b:=(decide (b>1024))) (v:=((decide (b<8)) || (decide (b>1024)))) (by simp only[b2,BL]) ?_
 exact hk
end gR
variable{H:zV}{a:zj}{b:Int}
/-! moraine/word.Header -/
namespace eJ
def K0:=Func.code f42
end eJ
def eJ.pt(a nv b:Int)(H:zV)(R:zj):Prop:=
 if(((((decide (a<1)) || (decide (a>13))) || (decide (nv<0))) || (decide (nv>62))) || (decide (b>=281474976710656)))=true then(
 R (.tuple #[vu 0,vi 1]) H)
 else
 R (.tuple #[vu (ior .u64 (ior .u64 (ior .u64 (ishl .u64 b 16) (ishl .u64 (IntKind.wrap .u64 nv) 8)) (ishl .u64 (IntKind.wrap .u64 a) 3)) 5),vi 0]) H
namespace eJ
theorem link{R nv b:Int}(h:pt R nv b H a):C R nv b H a:=by
 refine T_en K0 37 func42 ?_
 intro w0 Q hQ
 unfold pt at h
 refine T_su [(0,vi R),(1,vi nv),(2,vu b)]<|aA 0<|T_ed 2 [] []<|T_sz<|aA 1 ?_
 refine fx [(0,vi R),(1,vi nv),(2,vu b),(25,.bool (((((decide (R<1)) || (decide (R>13))) || (decide (nv<0))) || (decide (nv>62))) || (decide (b>=281474976710656))))] ?_ ?_
 ·refine aE ?_
  revert h;refine iO_ (λc9 h=>?_) (λc9 h=>?_)
  ·exact aJ 25 c9<|aA 2<|T_nr 2 [6,7] [vu 0,vi 1] hQ h
  exact aK 25 (zZ c9)<|T_kt<|aA 3<|T_nr 13 [6,7] [vu (ior .u64 (ior .u64 (ior .u64 (ishl .u64 b 16) (ishl .u64 (IntKind.wrap .u64 nv) 8)) (ishl .u64 (IntKind.wrap .u64 R) 3)) 5),vi 0] hQ h
 intro hk
 refine T_n 3 [(0,vi R),(1,vi nv),(2,vu b),(10,.bool (decide (R<1)))] ?_
 by_cases c1:R<1
 ·have b2:(decide (R<1))=true:=zX c1
  refine bT [(0,vi R),(1,vi nv),(2,vu b),(10,vT)] (by rw[b2]) ?_
  refine T_nd 15 [10] [(25,vT)]<|zq<|S_bd 25 (b:=true) (v:=(((((decide (R<1)) || (decide (R>13))) || (decide (nv<0))) || (decide (nv>62))) || (decide (b>=281474976710656)))) (by simp only[b2,BL]) ?_
  exact hk
 have b2:(decide (R<1))=false:=zQ c1
 refine bT [(0,vi R),(1,vi nv),(2,vu b),(10,vF)] (by rw[b2]) ?_
 refine T_nd 4 [10] [(14,.bool (decide (R>13)))] ?_
 by_cases c3:R>13
 ·have b4:(decide (R>13))=true:=zX c3
  refine N_bd 14 b4<|T_nd 11 [14] [(25,vT)] ?_
  refine zq<|S_bd 25 (b:=true) (v:=(((((decide (R<1)) || (decide (R>13))) || (decide (nv<0))) || (decide (nv>62))) || (decide (b>=281474976710656)))) (by simp only[b2,b4,BL]) ?_
  exact hk
 have b4:(decide (R>13))=false:=zQ c3
 refine N_bd 14 b4<|T_nd 4 [14] [(18,.bool (decide (nv<0)))] ?_
 by_cases c5:nv<0
 ·have b6:(decide (nv<0))=true:=zX c5
  refine N_bd 18 b6<|T_nd 7 [18] [(25,vT)] ?_
  refine zq<|S_bd 25 (b:=true) (v:=(((((decide (R<1)) || (decide (R>13))) || (decide (nv<0))) || (decide (nv>62))) || (decide (b>=281474976710656)))) (by simp only[b2,b4,b6,BL]) ?_
  exact hk
 have b6:(decide (nv<0))=false:=zQ c5
 refine N_bd 18 b6<|T_nd 4 [18] [(22,.bool (decide (nv>62)))] ?_
 by_cases c7:nv>62
 ·have b8:(decide (nv>62))=true:=zX c7
  refine N_bd 22 b8<|T_nd 3 [22] [(25,vT)] ?_
  refine zq<|S_bd 25 (b:=true) (v:=(((((decide (R<1)) || (decide (R>13))) || (decide (nv<0))) || (decide (nv>62))) || (decide (b>=281474976710656)))) (by simp only[b2,b4,b6,b8,BL]) ?_
  exact hk
 have b8:(decide (nv>62))=false:=zQ c7
 refine N_bd 22 b8<|T_nd 3 [22] [(25,.bool (decide (b>=281474976710656)))] ?_
 refine zq<|S_bd 25 (b:=(decide (b>=281474976710656))) (v:=(((((decide (R<1)) || (decide (R>13))) || (decide (nv<0))) || (decide (nv>62))) || (decide (b>=281474976710656)))) (by simp only[b2,b4,b6,b8,BL]) ?_
 exact hk
end eJ
/-! moraine/word.Addr -/
namespace dZ
def K0:=Func.code f52
end dZ
def dZ.pt(wv:Int)(H:zV)(R:zj):Prop:=
 dU.C wv H (λv H1=> ∃x,v=vi x/\
 fo.C x H1 (λd H2=> ∃b,d=.bool b/\
 if b=true then(
 fU.C wv H2 (λe H3=> ∃a,e=.bool a/\
 if a=true then(
 R (.tuple #[vi (zY (ishr .u64 wv 3)),vT]) H3)
 else
 R (.tuple #[vi 0,vF]) H3))
 else
 R (.tuple #[vi 0,vF]) H2))
namespace dZ
theorem link(h:pt b H a):C b H a:=by
 refine T_en K0 16 func52 ?_
 intro w0 Q hQ
 unfold pt zY at h
 refine T_su [(0,vu b)]<|aA 0<|T_ed 2 [] []<|T_sz<|aA 1<|T_nd 1 [] [(4,vu b)]<|T_c (some 5) h ?_;clear h
 rintro v H1 ⟨x,rfl,h⟩
 refine T_pd [4] [(5,vi x)]<|T_c (some 6) h ?_;clear h
 rintro d H2 ⟨wv,rfl,h⟩
 refine T_pd [5] [(6,.bool wv)]<|T_nd 2 [6] [(8,.bool (!wv))] ?_
 revert h;refine iO_ (λc1 h=>?_) (λc1 h=>?_)
 ·have b2:(!wv)=false:=congrArg Bool.not (c1)
  have b22:wv=true:=c1
  refine N_bd 8 (b:=(!wv)) (v:=false) (by simp only[b2,b22,Bool.not_true,Bool.not_false]) ?_
  clear b2 b22
  refine T_nd 1 [] [(9,vu b)]<|T_c (some 10) h ?_;clear h
  rintro e H3 ⟨R,rfl,h⟩
  refine T_pd [9] [(10,.bool R)]<|T_ed 2 [8,10] [(12,.bool (!R))] ?_
  revert h;refine iO_ (λc3 h=>?_) (λc3 h=>?_)
  ·exact aK 12 (congrArg Bool.not (c3))<|T_kt<|aA 3<|T_nr 5 [2,3] [vi (zY (ishr .u64 b 3)),vT] hQ h
  exact aJ 12 (congrArg Bool.not (zZ c3))<|aA 2<|T_nr 2 [2,3] [vi 0,vF] hQ h
 have b2:(!wv)=true:=congrArg Bool.not (zZ c1)
 have b22:wv=false:=zZ c1
 refine N_bd 8 (b:=(!wv)) (v:=true) (by simp only[b2,b22,Bool.not_true,Bool.not_false]) ?_
 clear b2 b22
 exact T_ed 4 [8] [(12,vT)]<|T_tz 12<|aA 2<|T_nr 2 [2,3] [vi 0,vF] hQ h
end dZ
/-! moraine/word.At -/
namespace fK
def K0:=Func.code f55
end fK
def fK.pt(b a:Int)(H:zV)(R:zj):Prop:=
 fo.C b H (λv H1=> ∃x,v=.bool x/\
 if x=true then(
 if((decide (a<0)) || (decide (a>=65536)))=true then(
 R (.tuple #[vu 0,vi 18]) H1)
 else
 R (.tuple #[vu (ior .u64 (ishl .u64 (IntKind.wrap .u64 a) 3) (IntKind.wrap .u64 b)),vi 0]) H1)
 else
 R (.tuple #[vu 0,vi 1]) H1)
namespace fK
theorem link{b R:Int}(h:pt b R H a):C b R H a:=by
 refine T_en K0 23 func55 ?_
 intro w0 Q hQ
 unfold pt at h
 refine T_su [(0,vi b),(1,vi R)]<|aA 0<|T_ed 2 [] []<|T_sz<|T_bz 0<|aA 1<|T_nd 1 [] [(7,vi b)]<|T_c (some 8) h ?_;clear h
 rintro v H1 ⟨x,rfl,h⟩
 refine T_pd [7] [(8,.bool x)]<|T_ed 2 [8] [(6,.bool (!x))] ?_
 revert h;refine iO_ (λc1 h=>?_) (λc1 h=>?_)
 ·refine aK 6 (congrArg Bool.not (c1))<|aA 3 ?_
  refine fx [(0,vi b),(1,vi R),(10,.bool ((decide (R<0)) || (decide (R>=65536))))] ?_ ?_
  ·refine aE ?_
   revert h;refine iO_ (λc5 h=>?_) (λc5 h=>?_)
   ·exact aJ 10 c5<|aA 4<|T_nr 2 [4,5] [vu 0,vi 18] hQ h
   exact aK 10 (zZ c5)<|T_k<|aD<|aE<|aA 5<|T_nr 8 [4,5] [vu (ior .u64 (ishl .u64 (IntKind.wrap .u64 R) 3) (IntKind.wrap .u64 b)),vi 0] hQ h
  intro hk
  refine T_n 3 [(0,vi b),(1,vi R),(13,.bool (decide (R<0)))] ?_
  by_cases c3:R<0
  ·have b4:(decide (R<0))=true:=zX c3
   refine bT [(0,vi b),(1,vi R),(13,vT)] (by rw[b4]) ?_
   refine T_nd 4 [13] [(10,vT)]<|zq<|S_bd 10 (b:=true) (v:=((decide (R<0)) || (decide (R>=65536)))) (by simp only[b4,BL]) ?_
   exact hk
  have b4:(decide (R<0))=false:=zQ c3
  refine bT [(0,vi b),(1,vi R),(13,vF)] (by rw[b4]) ?_
  refine T_nd 4 [13] [(10,.bool (decide (R>=65536)))]<|zq<|S_bd 10 (b:=(decide (R>=65536))) (v:=((decide (R<0)) || (decide (R>=65536)))) (by simp only[b4,BL]) ?_
  exact hk
 exact aJ 6 (congrArg Bool.not (zZ c1))<|aA 2<|T_nr 2 [4,5] [vu 0,vi 1] hQ h
end fK
/-! moraine/word.Tag -/
namespace dU
def K0:=Func.code f56
end dU
def dU.pt(wv:Int)(H:zV)(R:zj):Prop:=
 R (vi (zY (iand .u64 wv 7))) H
namespace dU
theorem link(h:pt b H a):C b H a:=by
 refine T_en K0 6 func56 ?_
 intro w0 Q hQ
 unfold pt zY at h
 exact T_su [(0,vu b)]<|aA 0<|T_ed 1 [] []<|aA 1<|T_nr 4 [2] [vi (zY (iand .u64 b 7))] hQ h
end dU
/-! moraine/word.place -/
namespace fo
def K0:=Func.code f94
end fo
def fo.pt(a:Int)(H:zV)(R:zj):Prop:=
 R (.bool (((decide (a>=1)) && (decide (a<=3))) || (a==6))) H
namespace fo
theorem link(h:pt b H a):C b H a:=by
 refine T_en K0 13 func94 ?_
 intro w0 Q hQ
 unfold pt at h
 refine T_su [(0,vi b)]<|aA 0<|T_ed 1 [] []<|aA 1 ?_
 refine fx [(2,.bool (((decide (b>=1)) && (decide (b<=3))) || (b==6)))] ?_ ?_
 ·exact aE<|fB [2] [.bool (((decide (b>=1)) && (decide (b<=3))) || (b==6))] hQ h
 intro hk
 refine T_n 3 [(0,vi b),(5,.bool (decide (b>=1)))] ?_
 by_cases c1:b>=1
 ·have b2:(decide (b>=1))=true:=zX c1
  refine bT [(0,vi b),(5,vT)] (by rw[b2]) ?_
  refine T_nd 4 [5] [(9,.bool (decide (b<=3)))] ?_
  by_cases c3:b<=3
  ·have b4:(decide (b<=3))=true:=zX c3
   refine N_bd 9 b4<|T_n 4 [(2,vT)] ?_
   refine zq<|fc [(2,.bool (((decide (b>=1)) && (decide (b<=3))) || (b==6)))] (by simp only[b2,b4,BL]) ?_
   exact hk
  have b4:(decide (b<=3))=false:=zQ c3
  refine N_bd 9 b4<|T_n 4 [(2,.bool (b==6))] ?_
  refine zq<|fc [(2,.bool (((decide (b>=1)) && (decide (b<=3))) || (b==6)))] (by simp only[b2,b4,BL]) ?_
  exact hk
 have b2:(decide (b>=1))=false:=zQ c1
 refine bT [(0,vi b),(5,vF)] (by rw[b2]) ?_
 refine T_n 8 [(2,.bool (b==6))]<|zq<|fc [(2,.bool (((decide (b>=1)) && (decide (b<=3))) || (b==6)))] (by simp only[b2,BL]) ?_
 exact hk
end fo
/-! moraine/word.May -/
namespace fU
def K0:=Func.code f95
end fU
def fU.pt(wv:Int)(H:zV)(R:zj):Prop:=
 eX.C wv H (λv H1=> ∃ra rb rc,v=.tuple #[vi ra,vi rb,vu rc]/\
 dU.C wv H1 (λb H2=> ∃x,b=vi x/\
 if x=0 then(
 R vT H2)
 else
 if x=1 then(
 R (.bool (decide ((ishr .u64 wv 3)<65536))) H2)
 else
 if x=2 then(
 R (.bool (decide ((ishr .u64 wv 3)<65536))) H2)
 else
 if x=3 then(
 R (.bool (decide ((ishr .u64 wv 3)<65536))) H2)
 else
 if x=6 then(
 R (.bool (decide ((ishr .u64 wv 3)<65536))) H2)
 else
 if x=4 then(
 if ra=7 then(
 fh.C (ishr .u64 wv 8) H2 (λd H3=> ∃a,d=.bool a/\
 R (.bool a) H3))
 else
 R (.bool (decide ((ishr .u64 wv 3)<=6))) H2)
 else
 if x=5 then(
 R (.bool (((decide (ra>=1)) && (decide (ra<=13))) && (decide (rb<=62)))) H2)
 else
 R vF H2))
namespace fU
theorem link(h:pt b H a):C b H a:=by
 refine T_en K0 49 func95 ?_
 intro w0 Q hQ
 unfold pt at h
 refine T_su [(0,vu b)]<|aA 0<|T_ed 1 [] []<|aA 1<|T_nd 1 [] [(7,vu b)]<|T_c (some 8) h ?_;clear h
 rintro v H1 ⟨ra,rb,rc,rfl,h⟩
 refine T_pd [7] [(8,.tuple #[vi ra,vi rb,vu rc])]<|T_ed 7 [8] [(3,vi ra),(4,vi rb)]<|T_sz<|aA 2<|T_nd 1 [] [(12,vu b)]<|T_c (some 13) h ?_;clear h
 rintro wv H2 ⟨x,rfl,h⟩
 refine T_pd [12] [(13,vi x)]<|T_e<|T_bz 0<|T_sz<|T_bz 7<|T_sz<|T_bz 6<|T_sz<|T_bz 5<|T_bz 4<|T_bz 3<|T_bz 2<|T_sz<|T_bz 1<|T_sz<|T_sz<|aA 3<|T_ed 2 [] [(14,.bool (x==0))] ?_
 revert h;refine iO_ (λc1 h=>?_) (λc1 h=>?_)
 ·exact aJ 14 (zK c1)<|zz 1<|aB<|aB<|aN<|aE<|T_sz<|aA 10<|T_nr 1 [2] [vT] hQ h
 refine aK 14 (zJ c1)<|T_kt<|T_sz<|aA 4<|T_ed 2 [14] [(16,.bool (x==1))] ?_
 revert h;refine iO_ (λc3 h=>?_) (λc3 h=>?_)
 ·exact aJ 16 (zK c3)<|zz 2<|aB<|aB<|zx<|aB<|aN<|aD<|aD<|aD<|aE<|T_sz<|aA 11<|T_nr 4 [2] [.bool (decide ((ishr .u64 b 3)<65536))] hQ h
 refine aK 16 (zJ c3)<|T_kt<|T_sz<|aA 5<|T_ed 2 [16] [(18,.bool (x==2))] ?_
 revert h;refine iO_ (λc5 h=>?_) (λc5 h=>?_)
 ·exact aJ 18 (zK c5)<|zz 3<|aB<|aB<|zx<|aB<|zx<|aN<|aD<|aD<|aE<|T_sz<|aA 11<|T_nr 4 [2] [.bool (decide ((ishr .u64 b 3)<65536))] hQ h
 refine aK 18 (zJ c5)<|T_kt<|T_sz<|aA 6<|T_ed 2 [18] [(20,.bool (x==3))] ?_
 revert h;refine iO_ (λc7 h=>?_) (λc7 h=>?_)
 ·exact aJ 20 (zK c7)<|zz 4<|aB<|aB<|zx<|aB<|zx<|zx<|aN<|aD<|aE<|T_sz<|aA 11<|T_nr 4 [2] [.bool (decide ((ishr .u64 b 3)<65536))] hQ h
 refine aK 20 (zJ c7)<|T_kt<|T_sz<|aA 7<|T_ed 2 [20] [(22,.bool (x==6))] ?_
 revert h;refine iO_ (λc9 h=>?_) (λc9 h=>?_)
 ·exact aJ 22 (zK c9)<|zz 5<|aB<|aB<|zx<|aB<|zx<|zx<|zx<|aN<|aE<|T_sz<|aA 11<|T_nr 4 [2] [.bool (decide ((ishr .u64 b 3)<65536))] hQ h
 refine aK 22 (zJ c9)<|T_kt<|T_sz<|aA 8<|T_ed 2 [22] [(24,.bool (x==4))] ?_
 revert h;refine iO_ (λc11 h=>?_) (λc11 h=>?_)
 ·refine aJ 24 (zK c11)<|zz 6<|aB<|aB<|zx<|aB<|zx<|zx<|zx<|zx<|aB<|aN<|aE<|T_sz<|T_sz<|aA 12<|T_ne 2 [(0,vu b),(32,.bool (ra==7))] ?_
  revert h;refine iO_ (λc13 h=>?_) (λc13 h=>?_)
  ·refine aJ 32 (zK c13)<|aA 13<|T_n 2 [(34,vu (ishr .u64 b 8))]<|T_c (some 35) h ?_;clear h
   rintro d H3 ⟨R,rfl,h⟩
   refine⟨[(35,.bool R)],pk,?_⟩
   exact T_nr 1 [2] [.bool R] hQ h
  exact aK 32 (zJ c13)<|T_kt<|aA 14<|T_nr 4 [2] [.bool (decide ((ishr .u64 b 3)<=6))] hQ h
 refine aK 24 (zJ c11)<|T_kt<|aA 9<|T_ed 2 [0,13,24] [(26,.bool (x==5))] ?_
 revert h;refine iO_ (λc15 h=>?_) (λc15 h=>?_)
 ·refine aJ 26 (zK c15)<|zz 7<|aB<|zx<|aB<|zx<|zx<|zx<|zx<|aB<|zx<|aB<|aN<|aE<|T_sz<|aA 15 ?_
  refine fx [(2,.bool (((decide (ra>=1)) && (decide (ra<=13))) && (decide (rb<=62))))] ?_ ?_
  ·exact aE<|fB [2] [.bool (((decide (ra>=1)) && (decide (ra<=13))) && (decide (rb<=62)))] hQ h
  intro hk
  refine T_n 3 [(3,vi ra),(4,vi rb),(41,.bool (decide (ra>=1)))] ?_
  by_cases c17:ra>=1
  ·have b18:(decide (ra>=1))=true:=zX c17
   refine bT [(3,vi ra),(4,vi rb),(41,vT)] (by rw[b18]) ?_
   refine T_nd 4 [3,41] [(45,.bool (decide (ra<=13)))] ?_
   by_cases c19:ra<=13
   ·have b20:(decide (ra<=13))=true:=zX c19
    refine N_bd 45 b20<|T_n 4 [(2,.bool (decide (rb<=62)))] ?_
    refine zq<|fc [(2,.bool (((decide (ra>=1)) && (decide (ra<=13))) && (decide (rb<=62))))] (by simp only[b18,b20,BL]) ?_
    exact hk
   have b20:(decide (ra<=13))=false:=zQ c19
   refine N_bd 45 b20<|T_n 4 [(2,vF)] ?_
   refine zq<|fc [(2,.bool (((decide (ra>=1)) && (decide (ra<=13))) && (decide (rb<=62))))] (by simp only[b18,b20,BL]) ?_
   exact hk
  have b18:(decide (ra>=1))=false:=zQ c17
  refine bT [(3,vi ra),(4,vi rb),(41,vF)] (by rw[b18]) ?_
  refine T_n 8 [(2,vF)]<|zq<|fc [(2,.bool (((decide (ra>=1)) && (decide (ra<=13))) && (decide (rb<=62))))] (by simp only[b18,BL]) ?_
  exact hk
 exact aK 26 (zJ c15)<|T_kt<|zz 0<|zx<|aB<|zx<|zx<|zx<|zx<|aB<|zx<|aB<|zx<|aB<|aN<|aE<|aA 16<|T_nr 1 [2] [vF] hQ h
end fU
/-! moraine/word.Head -/
namespace fO
def K0:=Func.code f114
end fO
def fO.pt(wv:Int)(H:zV)(R:zj):Prop:=
 dU.C wv H (λv H1=> ∃x,v=vi x/\
 if x=5 then(
 fU.C wv H1 (λb H2=> ∃a,b=.bool a/\
 if a=true then(
 eX.C wv H2 (λd H3=> ∃ra rb rc,d=.tuple #[vi ra,vi rb,vu rc]/\
 R (.tuple #[vi ra,vi rb,vu rc,vT]) H3))
 else
 R (.tuple #[vi 0,vi 0,vu 0,vF]) H2))
 else
 R (.tuple #[vi 0,vi 0,vu 0,vF]) H1)
namespace fO
theorem link(h:pt b H a):C b H a:=by
 refine T_en K0 23 func114 ?_
 intro w0 Q hQ
 unfold pt at h
 refine T_su [(0,vu b)]<|aA 0<|T_ed 4 [] []<|T_sz<|aA 1<|T_nd 1 [] [(6,vu b)]<|T_c (some 7) h ?_;clear h
 rintro v H1 ⟨x,rfl,h⟩
 refine T_pd [6] [(7,vi x)]<|T_nd 2 [7] [(9,.bool (x !=5))] ?_
 revert h;refine iO_ (λc1 h=>?_) (λc1 h=>?_)
 ·refine N_bd 9 (bne_eq_false_iff_eq.mpr c1)<|T_nd 1 [] [(10,vu b)] ?_
  refine T_c (some 11) h ?_;clear h
  rintro wv H2 ⟨R,rfl,h⟩
  refine T_pd [10] [(11,.bool R)]<|T_ed 2 [9,11] [(13,.bool (!R))] ?_
  revert h;refine iO_ (λc3 h=>?_) (λc3 h=>?_)
  ·refine aK 13 (congrArg Bool.not (c3))<|T_kt<|aA 3<|T_n 1 [(15,vu b)]<|T_c (some 16) h ?_;clear h
   rintro d H3 ⟨ra,rb,rc,rfl,h⟩
   refine⟨[(16,.tuple #[vi ra,vi rb,vu rc])],pk,?_⟩
   exact T_ne 7 [(2,vi ra),(3,vi rb),(4,vu rc)]<|aA 4<|T_nr 7 [2,3,4,5] [vi ra,vi rb,vu rc,vT] hQ h
  exact aJ 13 (congrArg Bool.not (zZ c3))<|aA 2<|T_nr 4 [2,3,4,5] [vi 0,vi 0,vu 0,vF] hQ h
 exact N_bd 9 (bne_iff_ne.mpr c1)<|T_ed 4 [9] [(13,vT)]<|T_tz 13<|aA 2<|T_nr 4 [2,3,4,5] [vi 0,vi 0,vu 0,vF] hQ h
end fO
/-! moraine/word.parts -/
namespace eX
def K0:=Func.code f130
end eX
def eX.pt(wv:Int)(H:zV)(R:zj):Prop:=
 ∀b H1,b=H.size->H1=H.push (.cells #[vu wv] 28)->
 dD.C 3 5 (some (ad b)) H1 (λv H2=> ∃x,v=vu x/\
 dD.C 8 8 (some (ad b)) H2 (λe H3=> ∃a,e=vu a/\
 dD.C 16 48 (some (ad b)) H3 (λf H4=> ∃d,f=vu d/\
 R (.tuple #[vi (zY x),vi (zY a),vu d]) H4)))
namespace eX
theorem link(h:pt b H a):C b H a:=by
 refine T_en K0 15 func130 ?_
 intro w0 Q hQ
 unfold pt zY at h
 refine T_su [(0,vu b)]<|aA 0<|T_nw (some 1) (λwv=>vp (pa wv)) (.cells #[vu b] 28) ?_
 intro wv H1 e1 e2
 replace h:=h wv H1 e1 e2
 refine⟨[(1,vp (pa wv))],pk,?_⟩
 refine T_ed 3 [] []<|aA 1<|T_ne 2 [(5,.func (.func 150) #[] #[vp (pa wv)])]<|aA 2<|T_nd 1 [] [(7,.func (.func 150) #[] #[vp (pa wv)])]<|T_c (some 8) h ?_;clear h
 rintro v H2 ⟨x,rfl,h⟩
 refine T_pd [7] [(8,vu x)]<|T_nd 2 [8] [(9,vi (zY x)),(10,.func (.func 150) #[] #[vp (pa wv)])]<|T_c (some 11) h ?_;clear h
 rintro e H3 ⟨R,rfl,h⟩
 refine T_pd [10] [(11,vu R)]<|T_nd 2 [5,11] [(12,vi (zY R)),(13,.func (.func 150) #[] #[vp (pa wv)])]<|T_c (some 14) h ?_;clear h
 rintro f H4 ⟨d,rfl,h⟩
 exact T_pd [13] [(14,vu d)]<|T_nr 3 [2,3,4] [vi (zY x),vi (zY R),vu d] hQ h
end eX
/-! moraine/word.letter -/
namespace fh
def K0:=Func.code f131
end fh
def fh.pt(c:Int)(H:zV)(R:zj):Prop:=
 R (.bool ((decide (c<=1114111)) && ((decide (c<55296)) || (decide (c>57343))))) H
namespace fh
theorem link(h:pt b H a):C b H a:=by
 refine T_en K0 13 func131 ?_
 intro w0 Q hQ
 unfold pt at h
 refine T_su [(0,vu b)]<|aA 0<|T_ed 1 [] []<|aA 1 ?_
 refine fx [(2,.bool ((decide (b<=1114111)) && ((decide (b<55296)) || (decide (b>57343)))))] ?_ ?_
 ·exact aE<|fB [2] [.bool ((decide (b<=1114111)) && ((decide (b<55296)) || (decide (b>57343))))] hQ h
 intro hk
 refine T_n 3 [(0,vu b),(5,.bool (decide (b<=1114111)))] ?_
 by_cases c1:b<=1114111
 ·have b2:(decide (b<=1114111))=true:=zX c1
  refine bT [(0,vu b),(5,vT)] (by rw[b2]) ?_
  refine T_nd 3 [] [(8,.bool (decide (b<55296)))] ?_
  by_cases c3:b<55296
  ·have b4:(decide (b<55296))=true:=zX c3
   refine N_bd 8 b4<|T_n 5 [(2,vT)] ?_
   refine zq<|fc [(2,.bool ((decide (b<=1114111)) && ((decide (b<55296)) || (decide (b>57343)))))] (by simp only[b2,b4,BL]) ?_
   exact hk
  have b4:(decide (b<55296))=false:=zQ c3
  refine N_bd 8 b4<|T_n 5 [(2,.bool (decide (b>57343)))] ?_
  refine zq<|fc [(2,.bool ((decide (b<=1114111)) && ((decide (b<55296)) || (decide (b>57343)))))] (by simp only[b2,b4,BL]) ?_
  exact hk
 have b2:(decide (b<=1114111))=false:=zQ c1
 refine bT [(0,vu b),(5,vF)] (by rw[b2]) ?_
 refine T_n 8 [(2,vF)]<|zq<|fc [(2,.bool ((decide (b<=1114111)) && ((decide (b<55296)) || (decide (b>57343)))))] (by simp only[b2,BL]) ?_
 exact hk
end fh
/-! moraine/word.parts.1 -/
namespace dD
def K0:=Func.code f150
end dD
def dD.pt(a b:Int)(d:zW)(H:zV)(R:zj):Prop:=
 ∃e,d=some e/\
 ∃x,hat H e=some (vu x)/\
 (0<=a)/\
 (0<=b)/\
 R (vu (iand .u64 (ishr .u64 x a) (IntKind.wrap .u64 ((ishl .u64 1 b)-1)))) H
namespace dD
theorem link{R:Int}{d:zW}(h:pt b R d H a):C b R d H a:=by
 refine T_en K0 13 func150 ?_
 intro w0 Q hQ
 unfold pt at h
 refine T_su [(0,vi b),(1,vi R),(2,vp d)]<|aA 0<|T_ed 1 [] []<|T_sz<|oG 1 ?_
 obtain⟨e,rfl,x,q1,h⟩:=h
 refine kL (some 6) 28 q1 [2] [(6,vu x)]<|T_q1 7 (vi b) [0] ?_
 obtain⟨q2,h⟩:=h
 refine Q_op (some 8) (binN .shr 22 (vu x) (vi b)) (vu (ishr .u64 x b)) (λ_=>by kernel_rfl) (λw _=>ow (P:=prog) (t:=22) (k:=.u64) (k':=.i64) (x:=x) (y:=b) q2 w) [(1,vi R),(8,vu (ishr .u64 x b))] pk ?_
 refine T_q (some 9) (vi R) [(8,vu (ishr .u64 x b)),(9,vi R)] ?_
 obtain⟨q3,h⟩:=h
 refine Q_op (some 10) (binN .shl 22 (vu 1) (vi R)) (vu (ishl .u64 1 R)) (λ_=>by kernel_rfl) (λw _=>qt (P:=prog) (t:=22) (k:=.u64) (k':=.i64) (x:=1) (y:=R) q3 w) [(8,vu (ishr .u64 x b)),(10,vu (ishl .u64 1 R))] pk ?_
 exact T_q (some 11) (vu (IntKind.wrap .u64 ((ishl .u64 1 R)-1))) [(8,vu (ishr .u64 x b)),(11,vu (IntKind.wrap .u64 ((ishl .u64 1 R)-1)))]<|T_q1 12 (vu (iand .u64 (ishr .u64 x b) (IntKind.wrap .u64 ((ishl .u64 1 R)-1)))) [8,11]<|T_q1 5 (vu (iand .u64 (ishr .u64 x b) (IntKind.wrap .u64 ((ishl .u64 1 R)-1)))) [12]<|j4 [(5,vu (iand .u64 (ishr .u64 x b) (IntKind.wrap .u64 ((ishl .u64 1 R)-1))))] sk<|T_qe<|fB [5] [vu (iand .u64 (ishr .u64 x b) (IntKind.wrap .u64 ((ishl .u64 1 R)-1)))] hQ h
end dD
variable{a:zj}{H:zV}{b:zW}{d g k:Int}{i j:Nat}
/-! (*moraine/space.Space).Alloc -/
namespace bO
def K0:=Func.code f53
end bO
def bO.pt(s:zW)(d b nv:Int)(H:zV)(R:zj):Prop:=
 cD.C s H (λv H1=> ∃x,v=.bool x/\
 if x=true then(
 R (.tuple #[vi 0,vi 1]) H1)
 else
 fN.C d b nv H1 (λz H2=> ∃o,z=.bool o/\
 if o=true then(
 bR.C s d b H2 (λae H3=> ∃ra rb,ae=.tuple #[vi ra,.bool rb]/\
 ∃J:zV->Prop,(
 if rb=true then(
 ∃g,s=some g/\
 ∃r,hat H3 g=some (vp r)/\
 dQ.C r ra nv H3 (λaa H8=> ∃j m,aa=.tuple #[vi j,vi m]/\
 if m=0 then(
 R (.tuple #[vi j,vi 0]) H8)
 else
 J H8))
 else
 J H3)/\ ∀H4,J H4->
 ∃sA,s=some sA/\
 ∃u,hat H4 sA=some (vp u)/\
 eq.C u d b H4 (λac H5=> ∃e f,ac=.tuple #[vi e,vi f]/\
 if f=0 then(
 zv d 5/\
 zv b 4/\
 (aM H5 (((sA.add 1).add (Int.toNat d*4)).add (Int.toNat b*1)) 0 1)/\ ∀H6,H6=aP H5 (((sA.add 1).add (Int.toNat d*4)).add (Int.toNat b*1)) [vi (zY (e+1))] 0->
 ∃y,hat H6 sA=some (vp y)/\
 dQ.C y e nv H6 (λab H7=> ∃q p,ab=.tuple #[vi q,vi p]/\
 R (.tuple #[vi q,vi p]) H7))
 else
 R (.tuple #[vi 0,vi f]) H5)))
 else
 R (.tuple #[vi 0,vi 1]) H2))
namespace bO
theorem link(h:pt b d g k H a):C b d g k H a:=by
 refine T_en K0 77 func53 ?_
 intro w0 Q hQ
 unfold pt zY at h
 refine T_su [(0,vp b),(1,vi d),(2,vi g),(3,vi k)]<|aA 0<|T_ed 2 [] []<|T_sz<|aA 1<|T_nd 1 [] [(16,vp b)]<|T_c (some 17) h ?_;clear h
 rintro v H1 ⟨x,rfl,h⟩
 refine T_pd [16] [(17,.bool x)]<|T_nd 1 [17] [(18,.bool x)] ?_
 revert h;refine iO_ (λc1 h=>?_) (λc1 h=>?_)
 ·exact N_bd 18 c1<|T_ed 6 [18] [(24,vT)]<|T_tz 24<|aA 2<|T_nr 2 [8,9] [vi 0,vi 1] hQ h
 refine N_bd 18 (zZ c1)<|T_nd 3 [] [(19,vi d),(20,vi g),(21,vi k)] ?_
 refine T_c (some 22) h ?_;clear h
 rintro z H2 ⟨o,rfl,h⟩
 refine T_pd [19,20,21] [(22,.bool o)]<|T_ed 2 [18,22] [(24,.bool (!o))] ?_
 revert h;refine iO_ (λc3 h=>?_) (λc3 h=>?_)
 ·refine aK 24 (congrArg Bool.not (c3))<|T_kt<|T_sz<|aA 3<|T_nd 3 [24] [(26,vp b),(27,vi d),(28,vi g)]<|T_c (some 29) h ?_;clear h
  rintro ae H3 ⟨ra,rb,rfl,h⟩
  refine T_pd [26,27,28] [(29,.tuple #[vi ra,.bool rb])]<|T_ed 5 [29] [(10,vi ra),(11,.bool rb)]<|aA 4<|T_ne 1 [(0,vp b),(1,vi d),(2,vi g),(3,vi k),(10,vi ra),(32,.bool rb)] ?_
  obtain⟨J,h,j6⟩:=h
  refine pD (σ:=Unit) (λs_=> [(0,vp b),(1,vi d),(2,vi g),(3,vi k)]) (λs_ H=>J H) ?_ ?_
  ·rintro _ H4 j7
   replace h:=j6 H4 j7
   refine T_su [(0,vp b),(1,vi d),(2,vi g),(3,vi k)]<|aE<|aA 8<|T_nd 1 [] [(47,vp b)] ?_
   obtain⟨sA,rfl,h⟩:=h
   refine T_nd 2 [0,47] [(0,vq sA),(49,vq sA)] ?_
   obtain⟨u,q8,h⟩:=h
   refine T_l1 50 78 q8 [49]<|T_nd 2 [] [(51,vi d),(52,vi g)]<|T_c (some 53) h ?_;clear h
   rintro ac H5 ⟨e,f,rfl,h⟩
   refine T_pd [50,51,52] [(53,.tuple #[vi e,vi f])]<|T_ed 5 [53] [(14,vi e),(15,vi f)]<|T_sz<|aA 9<|T_ed 2 [] [(57,.bool (f !=0))] ?_
   revert h;refine iO_ (λc9 h=>?_) (λc9 h=>?_)
   ·refine aK 57 (bne_eq_false_iff_eq.mpr c9)<|T_kt<|aA 11<|T_nd 7 [1,2,15,57] [(60,vi d),(61,vi g),(63,vi (zY (e+1))),(65,vq (sA.add 1))] ?_
    obtain⟨q11,h⟩:=h
    refine T_v1 66 (bE 80 (vq (sA.add 1)) (vi d)) (vq ((sA.add 1).add (Int.toNat d*4))) (λw _=>bF (P:=prog) (t:=80) (elem:=79) (sz:=4) (n:=5) (a:=(sA.add 1)) (k:=.i64) (i:=d) underlying80 (λ_=>by kernel_rfl) q11.1 q11.2 w) [60,65] ?_
    obtain⟨q12,h⟩:=h
    refine T_v1 67 (bE 79 (vq ((sA.add 1).add (Int.toNat d*4))) (vi g)) (vq (((sA.add 1).add (Int.toNat d*4)).add (Int.toNat g*1))) (λw _=>bF (P:=prog) (t:=79) (elem:=3) (sz:=1) (n:=4) (a:=((sA.add 1).add (Int.toNat d*4))) (k:=.i64) (i:=g) underlying79 (λ_=>by kernel_rfl) q12.1 q12.2 w) [61,66] ?_
    obtain⟨q14,h⟩:=h
    refine gL 3 (vi (zY (e+1))) q14 ?_
    intro H6 e13
    replace h:=h H6 e13
    refine T_pd [63,67] []<|T_e<|aA 12<|T_nd 3 [0] [(70,vq sA)] ?_
    obtain⟨y,q15,h⟩:=h
    refine T_l1 71 78 q15 [70]<|T_nd 2 [3,14] [(72,vi e),(73,vi k)]<|T_c (some 74) h ?_;clear h
    rintro ab H7 ⟨q,p,rfl,h⟩
    refine⟨[(74,.tuple #[vi q,vi p])],pk,?_⟩
    exact T_nr 4 [8,9] [vi q,vi p] hQ h
   exact aJ 57 (bne_iff_ne.mpr c9)<|aA 10<|T_nr 3 [8,9] [vi 0,vi f] hQ h
  revert h;refine iO_ (λc16 h=>?_) (λc16 h=>?_)
  ·have b17:rb=true:=c16
   refine fc [(0,vp b),(1,vi d),(2,vi g),(3,vi k),(10,vi ra),(32,vT)] (by simp only[b17,Bool.not_true,Bool.not_false]) ?_
   clear b17
   refine T_tz 32<|aA 5<|T_nd 1 [32] [(34,vp b)] ?_
   obtain⟨nv,rfl,h⟩:=h
   refine T_nd 2 [0,34] [(0,vq nv),(36,vq nv)] ?_
   obtain⟨r,q18,h⟩:=h
   refine T_l1 37 78 q18 [36]<|T_nd 2 [10] [(38,vi ra),(39,vi k)]<|T_c (some 40) h ?_;clear h
   rintro aa H8 ⟨j,m,rfl,h⟩
   refine T_pd [37,38,39] [(40,.tuple #[vi j,vi m])]<|T_ed 5 [40] [(12,vi j),(13,vi m)]<|aA 6<|T_ed 2 [13] [(44,.bool (m==0))] ?_
   revert h;refine iO_ (λc19 h=>?_) (λc19 h=>?_)
   ·exact aJ 44 (zK c19)<|aA 7<|T_nr 3 [8,9] [vi j,vi 0] hQ h
   exact aK 44 (zJ c19)<|T_kt<|mo (():Unit) sk h
  have b17:rb=false:=zZ c16
  refine fc [(0,vp b),(1,vi d),(2,vi g),(3,vi k),(10,vi ra),(32,vF)] (by simp only[b17,Bool.not_true,Bool.not_false]) ?_
  clear b17
  exact T_fz 32<|T_kt<|mo (():Unit) sk h
 exact aJ 24 (congrArg Bool.not (zZ c3))<|aA 2<|T_nr 2 [8,9] [vi 0,vi 1] hQ h
end bO
/-! (*moraine/space.Space).none -/
namespace cD
def K0:=Func.code f67
end cD
def cD.pt(s:zW)(H:zV)(R:zj):Prop:=
 eM s (
 R vT H) (λsA=>
 ∃x,hat H sA=some (vp x)/\
 eM x (
 R vT H) (λxA=>
 R vF H))
namespace cD
theorem link(h:pt b H a):C b H a:=by
 refine T_en K0 12 func67 ?_
 intro w0 Q hQ
 unfold pt at h
 refine T_su [(0,vp b)]<|aA 0<|T_ed 1 [] []<|aA 1<|T_nd 1 [] [(3,vp b)] ?_
 rcases b with _ | sA
 ·rw[onPtr_none]at h
  exact T_nr 9 [2] [vT] hQ h
 rw[onPtr_some]at h
 refine T_n 5 [(5,vF),(8,vq sA)] ?_
 obtain⟨x,q1,h⟩:=h
 refine T_l1 9 78 q1 [8] ?_
 rcases x with _ | xA
 ·rw[onPtr_none]at h
  exact T_nr 3 [2] [vT] hQ h
 rw[onPtr_some]at h
 exact T_nr 3 [2] [vF] hQ h
end cD
/-! moraine/space.New -/
namespace fM
def K0:=Func.code f84
end fM
def fM.pt(a:Int)(H:zV)(R:zj):Prop:=
 gR.C a H (λv H1=> ∃ra rb,v=.tuple #[vp ra,vi rb]/\
 if rb=0 then(
 ∀b H2,b=H1.size->H2=H1.push (.cells #[vp ra,vi 0,vi 0,vi 0,vi 0,vi 0,vi 0,vi 0,vi 0,vi 0,vi 0,vi 0,vi 0,vi 0,vi 0,vi 0,vi 0,vi 0,vi 0,vi 0,vi 0] 82)->
 R (.tuple #[vq (ad b),vi 0]) H2)
 else
 R (.tuple #[vp none,vi rb]) H1)
namespace fM
theorem link(h:pt d H a):C d H a:=by
 refine T_en K0 17 func84 ?_
 intro w0 Q hQ
 unfold pt at h
 refine T_su [(0,vi d)]<|aA 0<|T_ed 2 [] []<|aA 1<|T_n 1 [(7,vi d)]<|T_c (some 8) h ?_;clear h
 rintro v H1 ⟨ra,rb,rfl,h⟩
 refine⟨[(8,.tuple #[vp ra,vi rb])],pk,?_⟩
 refine T_ne 5 [(4,vp ra),(5,vi rb)]<|T_sz<|aA 2<|T_ed 2 [] [(12,.bool (rb !=0))] ?_
 revert h;refine iO_ (λc1 h=>?_) (λc1 h=>?_)
 ·refine aK 12 (bne_eq_false_iff_eq.mpr c1)<|T_kt<|aA 4<|T_n 2 [(15,.agg #[vp ra,vi 0,vi 0,vi 0,vi 0,vi 0,vi 0,vi 0,vi 0,vi 0,vi 0,vi 0,vi 0,vi 0,vi 0,vi 0,vi 0,vi 0,vi 0,vi 0,vi 0])]<|T_nw (some 16) (λb=>vp (pa b)) (.cells #[vp ra,vi 0,vi 0,vi 0,vi 0,vi 0,vi 0,vi 0,vi 0,vi 0,vi 0,vi 0,vi 0,vi 0,vi 0,vi 0,vi 0,vi 0,vi 0,vi 0,vi 0] 82) ?_
  intro b H2 e3 e4
  replace h:=h b H2 e3 e4
  refine⟨[(16,vp (pa b))],pk,?_⟩
  exact T_nr 2 [2,3] [vp (pa b),vi 0] hQ h
 exact aJ 12 (bne_iff_ne.mpr c1)<|aA 3<|T_nr 3 [2,3] [vp none,vi rb] hQ h
end fM
/-! moraine/space.may -/
namespace fN
def K0:=Func.code f96
end fN
def fN.pt(b a nv:Int)(H:zV)(R:zj):Prop:=
 if((decide (b<0)) || (decide (b>4)))=true then(
 R vF H)
 else
 if((a==0) || (a==1))=true then(
 R (.bool (nv==2)) H)
 else
 R (.bool ((((a==2) || (a==3)) && (decide (nv>=1))) && (decide (nv<=63)))) H
namespace fN
theorem link{b R nv:Int}(h:pt b R nv H a):C b R nv H a:=by
 refine T_en K0 37 func96 ?_
 intro w0 Q hQ
 unfold pt at h
 refine T_su [(0,vi b),(1,vi R),(2,vi nv)]<|aA 0<|T_ed 1 [] []<|T_sz<|T_bz 0<|aA 1 ?_
 refine fx [(1,vi R),(2,vi nv),(7,.bool ((decide (b<0)) || (decide (b>4))))] ?_ ?_
 ·refine aE ?_
  revert h;refine iO_ (λc3 h=>?_) (λc3 h=>?_)
  ·exact aJ 7 c3<|aA 2<|T_nr 1 [6] [vF] hQ h
  refine aK 7 (zZ c3)<|aA 3 ?_
  refine fx [(1,vi R),(2,vi nv),(14,.bool ((R==0) || (R==1)))] ?_ ?_
  ·refine aE ?_
   revert h;refine iO_ (λc7 h=>?_) (λc7 h=>?_)
   ·exact aJ 14 c7<|aA 4<|T_nr 3 [6] [.bool (nv==2)] hQ h
   refine aK 14 (zZ c7)<|T_k<|aD<|aE<|aA 5 ?_
   refine fx [(6,.bool ((((R==2) || (R==3)) && (decide (nv>=1))) && (decide (nv<=63))))] ?_ ?_
   ·exact aE<|fB [6] [.bool ((((R==2) || (R==3)) && (decide (nv>=1))) && (decide (nv<=63)))] hQ h
   intro hk
   refine T_n 3 [(1,vi R),(2,vi nv),(25,.bool (R==2))] ?_
   by_cases c9:R=2
   ·have b10:(R==2)=true:=zK c9
    refine bT [(1,vi R),(2,vi nv),(25,vT)] (by rw[b10]) ?_
    refine T_nd 8 [1,25] [(33,.bool (decide (nv>=1)))] ?_
    by_cases c11:nv>=1
    ·have b12:(decide (nv>=1))=true:=zX c11
     refine N_bd 33 b12<|T_n 4 [(6,.bool (decide (nv<=63)))] ?_
     refine zq<|fc [(6,.bool ((((R==2) || (R==3)) && (decide (nv>=1))) && (decide (nv<=63))))] (by simp only[b10,b12,BL]) ?_
     exact hk
    have b12:(decide (nv>=1))=false:=zQ c11
    refine N_bd 33 b12<|T_n 4 [(6,vF)] ?_
    refine zq<|fc [(6,.bool ((((R==2) || (R==3)) && (decide (nv>=1))) && (decide (nv<=63))))] (by simp only[b10,b12,BL]) ?_
    exact hk
   have b10:(R==2)=false:=zJ c9
   refine bT [(1,vi R),(2,vi nv),(25,vF)] (by rw[b10]) ?_
   refine T_nd 4 [1,25] [(29,.bool (R==3))] ?_
   by_cases c13:R=3
   ·have b14:(R==3)=true:=zK c13
    refine N_bd 29 b14<|T_nd 4 [29] [(33,.bool (decide (nv>=1)))] ?_
    by_cases c15:nv>=1
    ·have b16:(decide (nv>=1))=true:=zX c15
     refine N_bd 33 b16<|T_n 4 [(6,.bool (decide (nv<=63)))] ?_
     refine zq<|fc [(6,.bool ((((R==2) || (R==3)) && (decide (nv>=1))) && (decide (nv<=63))))] (by simp only[b10,b14,b16,BL]) ?_
     exact hk
    have b16:(decide (nv>=1))=false:=zQ c15
    refine N_bd 33 b16<|T_n 4 [(6,vF)] ?_
    refine zq<|fc [(6,.bool ((((R==2) || (R==3)) && (decide (nv>=1))) && (decide (nv<=63))))] (by simp only[b10,b14,b16,BL]) ?_
    exact hk
   have b14:(R==3)=false:=zJ c13
   refine N_bd 29 b14<|T_n 8 [(6,vF)] ?_
   refine zq<|fc [(6,.bool ((((R==2) || (R==3)) && (decide (nv>=1))) && (decide (nv<=63))))] (by simp only[b10,b14,BL]) ?_
   exact hk
  intro hk
  refine T_n 3 [(1,vi R),(2,vi nv),(17,.bool (R==0))] ?_
  by_cases c5:R=0
  ·have b6:(R==0)=true:=zK c5
   refine bT [(1,vi R),(2,vi nv),(17,vT)] (by rw[b6]) ?_
   refine T_nd 4 [17] [(14,vT)]<|zq<|S_bd 14 (b:=true) (v:=((R==0) || (R==1))) (by simp only[b6,BL]) ?_
   exact hk
  have b6:(R==0)=false:=zJ c5
  refine bT [(1,vi R),(2,vi nv),(17,vF)] (by rw[b6]) ?_
  refine T_nd 4 [17] [(14,.bool (R==1))]<|zq<|S_bd 14 (b:=(R==1)) (v:=((R==0) || (R==1))) (by simp only[b6,BL]) ?_
  exact hk
 intro hk
 refine T_n 3 [(0,vi b),(1,vi R),(2,vi nv),(10,.bool (decide (b<0)))] ?_
 by_cases c1:b<0
 ·have b2:(decide (b<0))=true:=zX c1
  refine bT [(0,vi b),(1,vi R),(2,vi nv),(10,vT)] (by rw[b2]) ?_
  refine T_nd 4 [0,10] [(7,vT)]<|zq<|S_bd 7 (b:=true) (v:=((decide (b<0)) || (decide (b>4)))) (by simp only[b2,BL]) ?_
  exact hk
 have b2:(decide (b<0))=false:=zQ c1
 refine bT [(0,vi b),(1,vi R),(2,vi nv),(10,vF)] (by rw[b2]) ?_
 refine T_nd 4 [0,10] [(7,.bool (decide (b>4)))]<|zq<|S_bd 7 (b:=(decide (b>4))) (v:=((decide (b<0)) || (decide (b>4)))) (by simp only[b2,BL]) ?_
 exact hk
end fN
/-! (*moraine/space.Space).Current -/
namespace bR
def K0:=Func.code f97
end bR
def bR.pt(s:zW)(d b:Int)(H:zV)(R:zj):Prop:=
 eM s (
 R (.tuple #[vi 0,vF]) H) (λsA=>
 if d<0 then(
 R (.tuple #[vi 0,vF]) H)
 else
 if d>4 then(
 R (.tuple #[vi 0,vF]) H)
 else
 if b<0 then(
 R (.tuple #[vi 0,vF]) H)
 else
 if b>3 then(
 R (.tuple #[vi 0,vF]) H)
 else
 zv d 5/\
 zv b 4/\
 ∃x,hat H (((sA.add 1).add (Int.toNat d*4)).add (Int.toNat b*1))=some (vi x)/\
 if x=0 then(
 R (.tuple #[vi 0,vF]) H)
 else
 zv d 5/\
 zv b 4/\
 ∃e,hat H (((sA.add 1).add (Int.toNat d*4)).add (Int.toNat b*1))=some (vi e)/\
 R (.tuple #[vi (zY (e-1)),vT]) H)
namespace bR
theorem link(h:pt b d g H a):C b d g H a:=by
 refine T_en K0 46 func97 ?_
 intro w0 Q hQ
 unfold pt zY at h
 refine T_su [(0,vp b),(1,vi d),(2,vi g)]<|aA 0<|T_ed 2 [] []<|T_sz<|aA 1<|T_nd 1 [] [(8,vp b)] ?_
 rcases b with _ | sA
 ·rw[onPtr_none]at h
  exact T_ed 28 [0,8] [(0,vp none),(36,vT)]<|T_tz 36<|aA 2<|T_nr 2 [6,7] [vi 0,vF] hQ h
 rw[onPtr_some]at h
 refine T_nd 6 [0,8] [(0,vq sA),(14,.bool (decide (d<0)))] ?_
 revert h;refine iO_ (λc1 h=>?_) (λc1 h=>?_)
 ·exact N_bd 14 (zX c1)<|T_ed 22 [14] [(36,vT)]<|T_tz 36<|aA 2<|T_nr 2 [6,7] [vi 0,vF] hQ h
 refine N_bd 14 (zQ c1)<|T_nd 4 [14] [(18,.bool (decide (d>4)))] ?_
 revert h;refine iO_ (λc3 h=>?_) (λc3 h=>?_)
 ·exact N_bd 18 (zX c3)<|T_ed 18 [18] [(36,vT)]<|T_tz 36<|aA 2<|T_nr 2 [6,7] [vi 0,vF] hQ h
 refine N_bd 18 (zQ c3)<|T_nd 4 [18] [(22,.bool (decide (g<0)))] ?_
 revert h;refine iO_ (λc5 h=>?_) (λc5 h=>?_)
 ·exact N_bd 22 (zX c5)<|T_ed 14 [22] [(36,vT)]<|T_tz 36<|aA 2<|T_nr 2 [6,7] [vi 0,vF] hQ h
 refine N_bd 22 (zQ c5)<|T_nd 4 [22] [(26,.bool (decide (g>3)))] ?_
 revert h;refine iO_ (λc7 h=>?_) (λc7 h=>?_)
 ·exact N_bd 26 (zX c7)<|T_ed 10 [26] [(36,vT)]<|T_tz 36<|aA 2<|T_nr 2 [6,7] [vi 0,vF] hQ h
 refine N_bd 26 (zQ c7)<|T_nd 5 [] [(28,vi d),(29,vi g),(31,vq (sA.add 1))] ?_
 obtain⟨q9,h⟩:=h
 refine T_v1 32 (bE 80 (vq (sA.add 1)) (vi d)) (vq ((sA.add 1).add (Int.toNat d*4))) (λw _=>bF (P:=prog) (t:=80) (elem:=79) (sz:=4) (n:=5) (a:=(sA.add 1)) (k:=.i64) (i:=d) underlying80 (λ_=>by kernel_rfl) q9.1 q9.2 w) [28,31] ?_
 obtain⟨q10,h⟩:=h
 refine T_v1 33 (bE 79 (vq ((sA.add 1).add (Int.toNat d*4))) (vi g)) (vq (((sA.add 1).add (Int.toNat d*4)).add (Int.toNat g*1))) (λw _=>bF (P:=prog) (t:=79) (elem:=3) (sz:=1) (n:=4) (a:=((sA.add 1).add (Int.toNat d*4))) (k:=.i64) (i:=g) underlying79 (λ_=>by kernel_rfl) q10.1 q10.2 w) [29,32] ?_
 obtain⟨x,q11,h⟩:=h
 refine T_l1 34 3 q11 [33]<|T_ed 2 [26,34] [(36,.bool (x==0))] ?_
 revert h;refine iO_ (λc12 h=>?_) (λc12 h=>?_)
 ·exact aJ 36 (zK c12)<|aA 2<|T_nr 2 [6,7] [vi 0,vF] hQ h
 refine aK 36 (zJ c12)<|T_kt<|aA 3<|T_n 5 [(38,vi d),(39,vi g),(41,vq (sA.add 1))] ?_
 obtain⟨q14,h⟩:=h
 refine T_v1 42 (bE 80 (vq (sA.add 1)) (vi d)) (vq ((sA.add 1).add (Int.toNat d*4))) (λw _=>bF (P:=prog) (t:=80) (elem:=79) (sz:=4) (n:=5) (a:=(sA.add 1)) (k:=.i64) (i:=d) underlying80 (λ_=>by kernel_rfl) q14.1 q14.2 w) [38,41] ?_
 obtain⟨q15,h⟩:=h
 refine T_v1 43 (bE 79 (vq ((sA.add 1).add (Int.toNat d*4))) (vi g)) (vq (((sA.add 1).add (Int.toNat d*4)).add (Int.toNat g*1))) (λw _=>bF (P:=prog) (t:=79) (elem:=3) (sz:=1) (n:=4) (a:=((sA.add 1).add (Int.toNat d*4))) (k:=.i64) (i:=g) underlying79 (λ_=>by kernel_rfl) q15.1 q15.2 w) [39,42] ?_
 obtain⟨e,q16,h⟩:=h
 exact T_l1 44 3 q16 [43]<|T_nr 3 [6,7] [vi (zY (e-1)),vT] hQ h
end bR
/-! moraine/card.New -/
namespace gi
def K0:=Func.code f40
end gi
def gi.pt(a:Int)(H:zV)(R:zj):Prop:=
 fM.C a H (λv H1=> ∃ra rb,v=.tuple #[vp ra,vi rb]/\
 if rb=0 then(
 ∀b H2,b=H1.size->H2=H1.push (.cells #[vp ra] 54)->
 R (.tuple #[vq (ad b),vi 0]) H2)
 else
 R (.tuple #[vp none,vi rb]) H1)
namespace gi
theorem link(h:pt d H a):C d H a:=by
 refine T_en K0 17 func40 ?_
 intro w0 Q hQ
 unfold pt at h
 refine T_su [(0,vi d)]<|aA 0<|T_ed 2 [] []<|aA 1<|T_n 1 [(7,vi d)]<|T_c (some 8) h ?_;clear h
 rintro v H1 ⟨ra,rb,rfl,h⟩
 refine⟨[(8,.tuple #[vp ra,vi rb])],pk,?_⟩
 refine T_ne 5 [(4,vp ra),(5,vi rb)]<|T_sz<|aA 2<|T_ed 2 [] [(12,.bool (rb !=0))] ?_
 revert h;refine iO_ (λc1 h=>?_) (λc1 h=>?_)
 ·refine aK 12 (bne_eq_false_iff_eq.mpr c1)<|T_kt<|aA 4<|T_n 2 [(15,.agg #[vp ra])]<|T_nw (some 16) (λb=>vp (pa b)) (.cells #[vp ra] 54) ?_
  intro b H2 e3 e4
  replace h:=h b H2 e3 e4
  refine⟨[(16,vp (pa b))],pk,?_⟩
  exact T_nr 2 [2,3] [vp (pa b),vi 0] hQ h
 exact aJ 12 (bne_iff_ne.mpr c1)<|aA 3<|T_nr 3 [2,3] [vp none,vi rb] hQ h
end gi
/-! (*moraine/card.Cards).Gen -/
namespace dz
def K0:=Func.code f80
end dz
def dz.pt(c:zW)(wv:Int)(H:zV)(R:zj):Prop:=
 dZ.C wv H (λv H1=> ∃ra rb,v=.tuple #[vi ra,.bool rb]/\
 bS.C c H1 (λr H2=> ∃x,r=.bool x/\
 if x=true then(
 R (.tuple #[vi 0,vF]) H2)
 else
 if rb=true then(
 dU.C wv H2 (λt H3=> ∃m,t=vi m/\
 if m=6 then(
 R (.tuple #[vi 0,vF]) H3)
 else
 ∃cA,c=some cA/\
 ∃q,hat H3 cA=some (vp q)/\
 ∃p,q=some p/\
 ∃o,hat H3 p=some (vp o)/\
 bA.C o (zY (Int.tdiv ra 64)) H3 (λs H4=> ∃j g k a f e d i,s=.tuple #[.agg #[vi j,vi g,vi k,vi a,vi f,vi e,vi d],.bool i]/\
 ∀b H5,b=H4.size->H5=H4.push (.cells #[vi 0,vi 0,vi 0,vi 0,vi 0,vi 0,vi 0] 108)->
 (aM H5 (ad b) 0 7)/\ ∀H6,H6=aP H5 (ad b) [vi j,vi g,vi k,vi a,vi f,vi e,vi d] 0->
 ∃n,hat H6 (ad b)=some (vi n)/\
 R (.tuple #[vi n,.bool i]) H6)))
 else
 R (.tuple #[vi 0,vF]) H2))
namespace dz
theorem link(h:pt b d H a):C b d H a:=by
 refine T_en K0 41 func80 ?_
 intro w0 Q hQ
 unfold pt zY at h
 refine T_su [(0,vp b),(1,vu d)]<|aA 0<|T_ed 2 [] []<|aA 1<|T_nd 1 [] [(10,vu d)]<|T_c (some 11) h ?_;clear h
 rintro v H1 ⟨ra,rb,rfl,h⟩
 refine T_pd [10] [(11,.tuple #[vi ra,.bool rb])]<|T_ed 5 [11] [(6,vi ra),(7,.bool rb)]<|T_sz<|aA 2<|T_nd 1 [] [(14,vp b)]<|T_c (some 15) h ?_;clear h
 rintro r H2 ⟨x,rfl,h⟩
 refine T_pd [14] [(15,.bool x)]<|T_nd 1 [15] [(16,.bool x)] ?_
 revert h;refine iO_ (λc1 h=>?_) (λc1 h=>?_)
 ·exact N_bd 16 c1<|T_ed 8 [1,7,16] [(24,vT)]<|T_tz 24<|aA 3<|T_nr 2 [4,5] [vi 0,vF] hQ h
 refine N_bd 16 (zZ c1)<|T_nd 4 [7,16] [(20,.bool (!rb))] ?_
 revert h;refine iO_ (λc3 h=>?_) (λc3 h=>?_)
 ·have b4:(!rb)=false:=congrArg Bool.not (c3)
  have b42:rb=true:=c3
  refine N_bd 20 (b:=(!rb)) (v:=false) (by simp only[b4,b42,Bool.not_true,Bool.not_false]) ?_
  clear b4 b42
  refine T_nd 1 [1] [(21,vu d)]<|T_c (some 22) h ?_;clear h
  rintro t H3 ⟨m,rfl,h⟩
  refine T_pd [21] [(22,vi m)]<|T_ed 2 [20,22] [(24,.bool (m==6))] ?_
  revert h;refine iO_ (λc5 h=>?_) (λc5 h=>?_)
  ·exact aJ 24 (zK c5)<|aA 3<|T_nr 2 [4,5] [vi 0,vF] hQ h
  refine aK 24 (zJ c5)<|T_kt<|aA 4<|T_nd 1 [0,24] [(26,vp b)] ?_
  obtain⟨cA,rfl,h⟩:=h
  refine T_nd 2 [26] [(28,vq cA)] ?_
  obtain⟨q,q7,h⟩:=h
  refine T_l1 29 52 q7 [28] ?_
  obtain⟨p,rfl,h⟩:=h
  refine T_nd 2 [29] [(31,vq p)] ?_
  obtain⟨o,q8,h⟩:=h
  refine T_l1 32 78 q8 [31]<|T_nd 2 [6] [(34,vi (zY (Int.tdiv ra 64)))]<|T_c (some 35) h ?_;clear h
  rintro s H4 ⟨j,g,k,R,f,e,c,i,rfl,h⟩
  refine⟨[(35,.tuple #[.agg #[vi j,vi g,vi k,vi R,vi f,vi e,vi c],.bool i])],pk,?_⟩
  refine T_n 3 [(36,.agg #[vi j,vi g,vi k,vi R,vi f,vi e,vi c]),(37,.bool i)]<|T_nw (some 8) (λwv=>vp (pa wv)) (.cells #[vi 0,vi 0,vi 0,vi 0,vi 0,vi 0,vi 0] 108) ?_
  intro wv H5 e9 e10
  replace h:=h wv H5 e9 e10
  refine T_pd [] [(8,vp (pa wv))] ?_
  obtain⟨q12,h⟩:=h
  refine fT 108 [vi j,vi g,vi k,vi R,vi f,vi e,vi c] q12 ?_
  intro H6 e11
  replace h:=h H6 e11
  refine T_pd [36] []<|T_ed 1 [37] [(7,.bool i)]<|aA 5<|T_nd 1 [8] [(38,vp (pa wv))] ?_
  obtain⟨n,q13,h⟩:=h
  exact T_l1 39 3 q13 [38]<|T_nr 3 [4,5] [vi n,.bool i] hQ h
 have b4:(!rb)=true:=congrArg Bool.not (zZ c3)
 have b42:rb=false:=zZ c3
 refine N_bd 20 (b:=(!rb)) (v:=true) (by simp only[b4,b42,Bool.not_true,Bool.not_false]) ?_
 clear b4 b42
 exact T_ed 4 [1,20] [(24,vT)]<|T_tz 24<|aA 3<|T_nr 2 [4,5] [vi 0,vF] hQ h
end dz
/-! (*moraine/card.Cards).none -/
namespace bS
def K0:=Func.code f92
end bS
def bS.pt(c:zW)(H:zV)(R:zj):Prop:=
 eM c (
 R vT H) (λcA=>
 ∃x,hat H cA=some (vp x)/\
 eM x (
 R vT H) (λxA=>
 ∃d,hat H cA=some (vp d)/\
 ∃b,d=some b/\
 ∃a,hat H b=some (vp a)/\
 eM a (
 R vT H) (λe=>
 R vF H)))
namespace bS
theorem link(h:pt b H a):C b H a:=by
 refine T_en K0 22 func92 ?_
 intro w0 Q hQ
 unfold pt at h
 refine T_su [(0,vp b)]<|aA 0<|T_ed 1 [] []<|aA 1<|T_nd 1 [] [(3,vp b)] ?_
 rcases b with _ | cA
 ·rw[onPtr_none]at h
  exact T_nr 19 [2] [vT] hQ h
 rw[onPtr_some]at h
 refine T_n 5 [(0,vq cA),(5,vF),(8,vq cA)] ?_
 obtain⟨x,q1,h⟩:=h
 refine T_l1 9 52 q1 [8] ?_
 rcases x with _ | xA
 ·rw[onPtr_none]at h
  exact T_nr 13 [2] [vT] hQ h
 rw[onPtr_some]at h
 refine T_n 6 [(12,vF),(15,vq cA)] ?_
 obtain⟨d,q2,h⟩:=h
 refine T_l1 16 52 q2 [15] ?_
 obtain⟨c,rfl,h⟩:=h
 refine T_nd 2 [16] [(18,vq c)] ?_
 obtain⟨R,q3,h⟩:=h
 refine T_l1 19 78 q3 [18] ?_
 rcases R with _ | e
 ·rw[onPtr_none]at h
  exact T_nr 3 [2] [vT] hQ h
 rw[onPtr_some]at h
 exact T_nr 3 [2] [vF] hQ h
end bS
/-! (*moraine/card.Cards).younger -/
namespace bQ
def K0:=Func.code f107
end bQ
def bQ.pt(c:zW)(k i sN d f g e wv a:Int)(H:zV)(R:zj):Prop:=
 ∀b H1,b=H.size->H1=H.push (.cells #[vi k,vi i,vi sN,vi d,vi f,vi g,vi e] 108)->
 dz.C c wv H1 (λv H2=> ∃ra rb,v=.tuple #[vi ra,.bool rb]/\
 if rb=true then(
 ∃x,hat H2 ((ad b).add 1)=some (vi x)/\
 if x=3 then(
 R (vi a) H2)
 else
 ∃j,hat H2 (ad b)=some (vi j)/\
 if ra<j then(
 R (vi (if ra<a then ra else a)) H2)
 else
 R (vi a) H2)
 else
 R (vi a) H2)
namespace bQ
theorem link{i f c e wv R:Int}(h:pt b d g k i f c e wv R H a):C b d g k i f c e wv R H a:=by
 refine T_en K0 33 func107 ?_
 intro w0 Q hQ
 unfold pt at h
 refine T_su [(0,vp b),(1,.agg #[vi d,vi g,vi k,vi i,vi f,vi c,vi e]),(2,vu wv),(3,vi R)]<|aA 0<|T_nw (some 5) (λsN=>vp (pa sN)) (.cells #[vi d,vi g,vi k,vi i,vi f,vi c,vi e] 108) ?_
 intro sN H1 e1 e2
 replace h:=h sN H1 e1 e2
 refine T_pd [1] [(5,vp (pa sN))]<|T_ed 1 [] []<|T_sz<|aA 1<|T_nd 2 [0,2] [(12,vp b),(13,vu wv)]<|T_c (some 14) h ?_;clear h
 rintro v H2 ⟨ra,rb,rfl,h⟩
 refine T_pd [12,13] [(14,.tuple #[vi ra,.bool rb])]<|T_ed 5 [14] [(9,vi ra),(10,.bool rb)]<|aA 2<|T_nd 2 [10] [(18,.bool rb)] ?_
 revert h;refine iO_ (λc3 h=>?_) (λc3 h=>?_)
 ·refine N_bd 18 c3<|T_nd 1 [] [(19,vq ((ad sN).add 1))] ?_
  obtain⟨x,q5,h⟩:=h
  refine T_l1 20 3 q5 [19]<|T_nd 3 [18,20] [(23,.bool (x !=3))] ?_
  revert h;refine iO_ (λc6 h=>?_) (λc6 h=>?_)
  ·exact N_bd 23 (bne_eq_false_iff_eq.mpr c6)<|T_ed 5 [5,23] [(28,vF)]<|T_fz 28<|T_kt<|aA 4<|T_nr 2 [8] [vi R] hQ h
  refine N_bd 23 (bne_iff_ne.mpr c6)<|T_nd 2 [5] [(24,vi ra),(25,vp (pa sN))] ?_
  obtain⟨j,q8,h⟩:=h
  refine T_l1 26 3 q8 [25]<|T_ed 2 [23,24,26] [(28,.bool (decide (ra<j)))] ?_
  revert h;refine iO_ (λc9 h=>?_) (λc9 h=>?_)
  ·exact aJ 28 (zX c9)<|aA 3<|T_nr 4 [8] [vi (if ra<R then ra else R)] hQ h
  exact aK 28 (zQ c9)<|T_kt<|aA 4<|T_nr 2 [8] [vi R] hQ h
 exact N_bd 18 (zZ c3)<|T_ed 10 [5,18] [(28,vF)]<|T_fz 28<|T_kt<|aA 4<|T_nr 2 [8] [vi R] hQ h
end bQ
/-! (*moraine/card.Cards).Store -/
namespace cE
def K0:=Func.code f133
def K2:=cb K0
def K4:=cb K2
def K12:=cb K4
def K20:=cb K12
def K22:=cb K20
def K23:=ca K22
end cE
def cE.pt(c:zW)(d wv:Int)(H:zV)(R:zj):Prop:=
 bS.C c H (λv H1=> ∃x,v=.bool x/\
 if x=true then(
 R (vi 18) H1)
 else
 ∃cA,c=some cA/\
 ∃al,hat H1 cA=some (vp al)/\
 ∃ak,al=some ak/\
 ∃ah,hat H1 ak=some (vp ah)/\
 bG.C ah d wv H1 (λao H2=> ∃ab,ao=vi ab/\
 if ab=0 then(
 ∃aj,hat H2 cA=some (vp aj)/\
 ∃am,aj=some am/\
 ∃af,hat H2 am=some (vp af)/\
 bA.C af (zY (Int.tdiv d 64)) H2 (λau H3=> ∃aa s ae m q p o rb,au=.tuple #[.agg #[vi aa,vi s,vi ae,vi m,vi q,vi p,vi o],.bool rb]/\
 ∀b H4,b=H3.size->H4=H3.push (.cells #[vi 0,vi 0,vi 0,vi 0,vi 0,vi 0,vi 0] 108)->
 (aM H4 (ad b) 0 7)/\ ∀H5,H5=aP H4 (ad b) [vi aa,vi s,vi ae,vi m,vi q,vi p,vi o] 0->
 ∃an,hat H5 cA=some (vp an)/\
 ∃z,an=some z/\
 ∃u,hat H5 z=some (vp u)/\
 ∃y r xN e f g j,aU H5 (ad b) 0 [vi y,vi r,vi xN,vi e,vi f,vi g,vi j]/\
 ((0:Int)<=(zY (Int.tdiv (Int.tmod d 64) 16))/\(zY (Int.tdiv (Int.tmod d 64) 16))< (4:Int))/\
 ∃ai,hat H5 (((ad b).add 3).add (Int.toNat (zY (Int.tdiv (Int.tmod d 64) 16))*1))=some (vi ai)/\
 bQ.C (some cA) y r xN e f g j wv ai H5 (λaq H6=> ∃ag,aq=vi ag/\aU H6 cA 0 [vq z]/\aU H6 z 0 [vp u]/\
 dS.C u (zY (Int.tdiv d 64)) (zY (Int.tdiv (Int.tmod d 64) 16)) ag H6 (λap H7=> ∃ac,ap=vi ac/\
 R (vi ac) H7))))
 else
 R (vi ab) H2))
namespace cE
theorem link(h:pt b d g H a):C b d g H a:=by
 refine T_en K0 62 func133 ?_
 intro w0 Q hQ
 unfold pt zY at h
 refine T_su [(0,vp b),(1,vi d),(2,vu g)]<|aA 0<|T_ed 1 [] []<|T_sz<|aA 1<|T_nd 1 [] [(12,vp b)]<|T_c (some 13) h ?_;clear h
 rintro v H1 ⟨x,rfl,h⟩
 refine T_pd [12] [(13,.bool x)]<|T_e ?_
 revert h;refine iO_ (λc1 h=>?_) (λc1 h=>?_)
 ·exact aJ 13 c1<|aA 2<|T_nr 1 [6] [vi 18] hQ h
 refine aK 13 (zZ c1)<|T_kt<|T_sz<|aA 3<|T_nd 1 [13] [(14,vp b)] ?_
 obtain⟨cA,rfl,h⟩:=h
 refine T_nd 2 [0,14] [(0,vq cA),(16,vq cA)] ?_
 obtain⟨al,q3,h⟩:=h
 refine T_l1 17 52 q3 [16] ?_
 obtain⟨ak,rfl,h⟩:=h
 refine T_nd 2 [17] [(19,vq ak)] ?_
 obtain⟨ah,q4,h⟩:=h
 refine T_l1 20 78 q4 [19]<|T_nd 2 [] [(21,vi d),(22,vu g)]<|T_c (some 23) h ?_;clear h
 rintro ao H2 ⟨ab,rfl,h⟩
 refine T_pd [20,21,22] [(23,vi ab)]<|T_ed 1 [23] [(7,vi ab)]<|aA 4<|T_ed 2 [] [(25,.bool (ab !=0))] ?_
 revert h;refine iO_ (λc5 h=>?_) (λc5 h=>?_)
 ·refine aK 25 (bne_eq_false_iff_eq.mpr c5)<|T_kt<|aA 6<|T_ed 7 [1,7,25] [(8,vi (zY (Int.tdiv d 64))),(9,vi (zY (Int.tdiv (Int.tmod d 64) 16)))]<|aA 7<|T_nd 3 [] [(35,vq cA)] ?_
  obtain⟨aj,q7,h⟩:=h
  refine T_l1 36 52 q7 [35] ?_
  obtain⟨am,rfl,h⟩:=h
  refine T_nd 2 [36] [(38,vq am)] ?_
  obtain⟨af,q8,h⟩:=h
  refine T_l1 39 78 q8 [38]<|T_nd 1 [] [(40,vi (zY (Int.tdiv d 64)))]<|T_c (some 41) h ?_;clear h
  rintro au H3 ⟨aa,s,ae,m,q,p,o,rb,rfl,h⟩
  refine T_pd [39,40] [(41,.tuple #[.agg #[vi aa,vi s,vi ae,vi m,vi q,vi p,vi o],.bool rb])]<|T_nd 3 [41] [(42,.agg #[vi aa,vi s,vi ae,vi m,vi q,vi p,vi o]),(43,.bool rb)]<|T_nw (some 10) (λwv=>vp (pa wv)) (.cells #[vi 0,vi 0,vi 0,vi 0,vi 0,vi 0,vi 0] 108) ?_
  intro wv H4 e9 e10
  replace h:=h wv H4 e9 e10
  refine T_pd [] [(10,vp (pa wv))] ?_
  obtain⟨q12,h⟩:=h
  refine fT 108 [vi aa,vi s,vi ae,vi m,vi q,vi p,vi o] q12 ?_
  intro H5 e11
  replace h:=h H5 e11
  refine T_pd [42] []<|T_ed 1 [43] []<|T_sz ?_
  obtain⟨an,q13,z,rfl,u,q14,y,r,xN,e,f,c,j,q15,q16,ai,q17,h⟩:=h
  refine yW 8 (Code.ops K23) [(17,cA,[vp (some z)]),(17,z,[vp u]),(16,(ad wv),[vi y,vi r,vi xN,vi e,vi f,vi c,vi j]),(16,(((ad wv).add 3).add (Int.toNat (zY (Int.tdiv (Int.tmod d 64) 16))*1)),[vi ai])] 19 (bv 19 0) (show aI _ _ _ from⟨⟨q13,trivial⟩,⟨q14,trivial⟩,q15,⟨q17,trivial⟩,trivial⟩)<|T_gp 0 (some 44) (vp (some cA)) (bv 19 1) [(0,vp (some cA)),(2,vu g),(8,vi (zY (Int.tdiv d 64))),(9,vi (zY (Int.tdiv (Int.tmod d 64) 16))),(10,vp (pa wv)),(44,vp (some cA))]<|aG 1 45 (vp (some cA)) (bv 19 3) [44]<|aG 2 46 (vp (some cA)) (bv 19 7) [45]<|T_g1 3 47 (vp (some z)) (bv 19 15) [46] (aQ 52 (vp (some cA))) (yV 17 zw)<|aG 4 48 (vp (some z)) (bv 19 31) [47]<|aG 5 49 (vp (some z)) (bv 19 63) [48]<|T_g1 6 50 (vp u) (bv 19 127) [49] (aQ 78 (vp (some z))) (yV 17 yZ)<|aG 7 51 (vi (zY (Int.tdiv d 64))) (bv 19 255) [8]<|aG 8 52 (vi (zY (Int.tdiv (Int.tmod d 64) 16))) (bv 19 511) []<|aG 9 53 (vp (some cA)) (bv 19 1023) [0]<|T_g1 10 54 (.agg #[vi y,vi r,vi xN,vi e,vi f,vi c,vi j]) (bv 19 2047) [] (aQ 108 (vp (pa wv))) (pF 16 (λ_=>by kernel_rfl) (λ_=>by kernel_rfl) yX (.inl (by kernel_rfl)))<|aG 11 55 (vu g) (bv 19 4095) [2]<|aG 12 56 (vi (zY (Int.tdiv (Int.tmod d 64) 16))) (bv 19 8191) [9]<|aG 13 57 (vp (some ((ad wv).add 3))) (bv 19 16383) [10]<|T_g1 14 58 (vp (some (((ad wv).add 3).add (Int.toNat (zY (Int.tdiv (Int.tmod d 64) 16))*1)))) (bv 19 32767) [56,57] (bE 79 (vp (some ((ad wv).add 3))) (vi (zY (Int.tdiv (Int.tmod d 64) 16)))) (λ_ w _ _ _=>bF (P:=prog) (t:=79) (elem:=3) (sz:=1) (n:=4) (a:=((ad wv).add 3)) (k:=.i64) (i:=(zY (Int.tdiv (Int.tmod d 64) 16))) underlying79 (λ_=>by kernel_rfl) q16.1 q16.2 w)<|T_g1 15 59 (vi ai) (bv 19 65535) [58] (aQ 3 (vp (some (((ad wv).add 3).add (Int.toNat (zY (Int.tdiv (Int.tmod d 64) 16))*1))))) (yV 16 yQ)<|yY 16 (some 60) (bv 19 131071) 107 #[vp (some cA),.agg #[vi y,vi r,vi xN,vi e,vi f,vi c,vi j],vu g,vi ai] h ?_;clear h
  rintro aq H6 ⟨ag,rfl,f18,f19,h⟩
  refine⟨[(50,vp u),(51,vi (zY (Int.tdiv d 64))),(52,vi (zY (Int.tdiv (Int.tmod d 64) 16))),(60,vi ag)],pk,(show aI _ _ _ from⟨f18,f19,trivial,trivial,trivial⟩),?_⟩
  refine yY 17 (some 61) (bv 19 262143) 108 #[vp u,vi (zY (Int.tdiv d 64)),vi (zY (Int.tdiv (Int.tmod d 64) 16)),vi ag] h ?_;clear h
  rintro ap H7 ⟨ac,rfl,h⟩
  refine⟨[(61,vi ac)],pk,(show aI _ _ _ from⟨trivial,trivial,trivial,trivial,trivial⟩),?_⟩
  exact T_g 18 (some 6) (vi ac) (bv 19 524287) [(6,vi ac)] (pure (.value (vi ac)):Sem Next) (λ_ _ _ _ _=>rfl)<|fE [(6,vi ac)] sk<|yq<|aE<|fB [6] [vi ac] hQ h
 exact aJ 25 (bne_iff_ne.mpr c5)<|aA 5<|T_nr 2 [6] [vi ab] hQ h
end cE
/-! (*moraine/obj.Heap).Cons -/
namespace cM
def K0:=Func.code f11
end cM
def cM.pt(hv:zW)(d a:Int)(H:zV)(R:zj):Prop:=
 ∀b H1,b=H.size->H1=H.push (.cells #[vu d,vu a] 28)->
 dy.C hv 0 1 (some (ad b)) 2 2 H1 (λv H2=> ∃ra rb,v=.tuple #[vu ra,vi rb]/\
 R (.tuple #[vu ra,vi rb]) H2)
namespace cM
theorem link(h:pt b d g H a):C b d g H a:=by
 refine T_en K0 15 func11 ?_
 intro w0 Q hQ
 unfold pt at h
 refine T_su [(0,vp b),(1,vu d),(2,vu g)]<|aA 0<|T_ed 2 [] []<|aA 1<|T_n 3 [(8,vp b),(9,vu d),(10,vu g)]<|T_nw (some 11) (λR=>vs (pa R) 2 2) (.cells #[vu d,vu g] 28) ?_
 intro R H1 e1 e2
 replace h:=h R H1 e1 e2
 refine T_pd [9,10] [(11,vs (pa R) 2 2)]<|T_c (some 12) h ?_;clear h
 rintro v H2 ⟨ra,rb,rfl,h⟩
 refine⟨[(12,.tuple #[vu ra,vi rb])],pk,?_⟩
 exact T_nr 4 [6,7] [vu ra,vi rb] hQ h
end cM
/-! (*moraine/obj.Heap).Car -/
namespace bY
def K0:=Func.code Tryz.f18
end bY
def bY.pt(hv:zW)(wv:Int)(H:zV)(R:zj):Prop:=
 dw.C hv wv 0 H (λv H1=> ∃ra rb,v=.tuple #[vu ra,vi rb]/\
 R (.tuple #[vu ra,vi rb]) H1)
namespace bY
theorem link(h:pt b d H a):C b d H a:=by
 refine T_en K0 11 func18 ?_
 intro w0 Q hQ
 unfold pt at h
 refine T_su [(0,vp b),(1,vu d)]<|aA 0<|T_ed 2 [] []<|aA 1<|T_n 2 [(6,vp b),(7,vu d)]<|T_c (some 8) h ?_;clear h
 rintro v H1 ⟨ra,rb,rfl,h⟩
 refine⟨[(8,.tuple #[vu ra,vi rb])],pk,?_⟩
 exact T_nr 4 [4,5] [vu ra,vi rb] hQ h
end bY
/-! (*moraine/obj.Heap).Weak -/
namespace dI
def K0:=Func.code Tryz.f19
end dI
def dI.pt(hv:zW)(d a:Int)(H:zV)(R:zj):Prop:=
 ∀b H1,b=H.size->H1=H.push (.cells #[vu d,vu a] 28)->
 dy.C hv 1 2 (some (ad b)) 2 2 H1 (λv H2=> ∃ra rb,v=.tuple #[vu ra,vi rb]/\
 R (.tuple #[vu ra,vi rb]) H2)
namespace dI
theorem link(h:pt b d g H a):C b d g H a:=by
 refine T_en K0 15 func19 ?_
 intro w0 Q hQ
 unfold pt at h
 refine T_su [(0,vp b),(1,vu d),(2,vu g)]<|aA 0<|T_ed 2 [] []<|aA 1<|T_n 3 [(8,vp b),(9,vu d),(10,vu g)]<|T_nw (some 11) (λR=>vs (pa R) 2 2) (.cells #[vu d,vu g] 28) ?_
 intro R H1 e1 e2
 replace h:=h R H1 e1 e2
 refine T_pd [9,10] [(11,vs (pa R) 2 2)]<|T_c (some 12) h ?_;clear h
 rintro v H2 ⟨ra,rb,rfl,h⟩
 refine⟨[(12,.tuple #[vu ra,vi rb])],pk,?_⟩
 exact T_nr 4 [6,7] [vu ra,vi rb] hQ h
end dI
/-! (*moraine/obj.Heap).Cdr -/
namespace eh
def K0:=Func.code f21
end eh
def eh.pt(hv:zW)(wv:Int)(H:zV)(R:zj):Prop:=
 dw.C hv wv 1 H (λv H1=> ∃ra rb,v=.tuple #[vu ra,vi rb]/\
 R (.tuple #[vu ra,vi rb]) H1)
namespace eh
theorem link(h:pt b d H a):C b d H a:=by
 refine T_en K0 11 func21 ?_
 intro w0 Q hQ
 unfold pt at h
 refine T_su [(0,vp b),(1,vu d)]<|aA 0<|T_ed 2 [] []<|aA 1<|T_n 2 [(6,vp b),(7,vu d)]<|T_c (some 8) h ?_;clear h
 rintro v H1 ⟨ra,rb,rfl,h⟩
 refine⟨[(8,.tuple #[vu ra,vi rb])],pk,?_⟩
 exact T_nr 4 [4,5] [vu ra,vi rb] hQ h
end eh
/-! (*moraine/obj.Heap).Size -/
namespace dK
def K0:=Func.code f51
end dK
def dK.pt(hv:zW)(wv:Int)(H:zV)(R:zj):Prop:=
 dP.C hv wv H (λv H1=> ∃x,v=.bool x/\
 if x=true then(
 R (vi 2) H1)
 else
 bK.C hv wv H1 (λa H2=> ∃ra rb rc rd re,a=.tuple #[vi ra,vi rb,vi rc,vu rd,.bool re]/\
 if re=true then(
 R (vi (zY (rc+1))) H2)
 else
 R (vi 0) H2))
namespace dK
theorem link(h:pt b d H a):C b d H a:=by
 refine T_en K0 25 func51 ?_
 intro w0 Q hQ
 unfold pt zY at h
 refine T_su [(0,vp b),(1,vu d)]<|aA 0<|T_ed 1 [] []<|T_sz<|aA 1<|T_nd 2 [] [(10,vp b),(11,vu d)]<|T_c (some 12) h ?_;clear h
 rintro v H1 ⟨x,rfl,h⟩
 refine T_pd [10,11] [(12,.bool x)]<|T_e ?_
 revert h;refine iO_ (λc1 h=>?_) (λc1 h=>?_)
 ·exact aJ 12 c1<|aA 2<|T_nr 1 [4] [vi 2] hQ h
 refine aK 12 (zZ c1)<|T_kt<|T_sz<|aA 3<|T_n 2 [(14,vp b),(15,vu d)]<|T_c (some 16) h ?_;clear h
 rintro R H2 ⟨ra,rb,rc,rd,re,rfl,h⟩
 refine⟨[(16,.tuple #[vi ra,vi rb,vi rc,vu rd,.bool re])],pk,?_⟩
 refine T_ne 11 [(7,vi rc),(9,.bool re)]<|aA 4<|T_ed 1 [9] [(22,.bool re)] ?_
 revert h;refine iO_ (λc3 h=>?_) (λc3 h=>?_)
 ·exact aJ 22 c3<|aA 5<|T_nr 3 [4] [vi (zY (rc+1))] hQ h
 exact aK 22 (zZ c3)<|T_kt<|aA 6<|T_nr 1 [4] [vi 0] hQ h
end dK
/-! (*moraine/obj.Heap).half -/
namespace dw
def K0:=Func.code f66
end dw
def dw.pt(hv:zW)(wv i:Int)(H:zV)(R:zj):Prop:=
 db.C hv wv H (λv H1=> ∃ra rb,v=.tuple #[vi ra,.bool rb]/\
 if rb=true then(
 ∃e,hv=some e/\
 ∃x,hat H1 e=some (vp x)/\
 ∃xA,x=some xA/\
 ∃g,hat H1 xA=some (vp g)/\
 ∃f,g=some f/\
 ∃d,hat H1 f=some (vp d)/\
 bN.C d (zY (ra+i)) H1 (λj H2=> ∃a b,j=.tuple #[vu a,vi b]/\
 R (.tuple #[vu a,vi b]) H2))
 else
 R (.tuple #[vu 0,vi 3]) H1)
namespace dw
theorem link(h:pt b d g H a):C b d g H a:=by
 refine T_en K0 34 func66 ?_
 intro w0 Q hQ
 unfold pt zY at h
 refine T_su [(0,vp b),(1,vu d),(2,vi g)]<|aA 0<|T_ed 2 [] []<|aA 1<|T_nd 2 [1] [(11,vp b),(12,vu d)]<|T_c (some 13) h ?_;clear h
 rintro v H1 ⟨ra,rb,rfl,h⟩
 refine T_pd [11,12] [(13,.tuple #[vi ra,.bool rb])]<|T_ed 5 [13] [(8,vi ra),(9,.bool rb)]<|T_sz<|aA 2<|T_ed 2 [9] [(17,.bool (!rb))] ?_
 revert h;refine iO_ (λc1 h=>?_) (λc1 h=>?_)
 ·refine aK 17 (congrArg Bool.not (c1))<|T_kt<|aA 4<|T_nd 1 [0,17] [(18,vp b)] ?_
  obtain⟨e,rfl,h⟩:=h
  refine T_nd 2 [18] [(20,vq e)] ?_
  obtain⟨x,q3,h⟩:=h
  refine T_l1 21 49 q3 [20] ?_
  obtain⟨xA,rfl,h⟩:=h
  refine T_nd 2 [21] [(23,vq xA)] ?_
  obtain⟨hv,q4,h⟩:=h
  refine T_l1 24 52 q4 [23] ?_
  obtain⟨f,rfl,h⟩:=h
  refine T_nd 2 [24] [(26,vq f)] ?_
  obtain⟨wv,q5,h⟩:=h
  refine T_l1 27 78 q5 [26]<|T_nd 3 [2,8] [(30,vi (zY (ra+g)))]<|T_c (some 31) h ?_;clear h
  rintro j H2 ⟨R,i,rfl,h⟩
  refine⟨[(31,.tuple #[vu R,vi i])],pk,?_⟩
  exact T_nr 4 [6,7] [vu R,vi i] hQ h
 exact aJ 17 (congrArg Bool.not (zZ c1))<|aA 3<|T_nr 2 [6,7] [vu 0,vi 3] hQ h
end dw
/-! (*moraine/obj.Heap).Pair -/
namespace dP
def K0:=Func.code f93
end dP
def dP.pt(hv:zW)(wv:Int)(H:zV)(R:zj):Prop:=
 db.C hv wv H (λv H1=> ∃ra rb,v=.tuple #[vi ra,.bool rb]/\
 R (.bool rb) H1)
namespace dP
theorem link(h:pt b d H a):C b d H a:=by
 refine T_en K0 14 func93 ?_
 intro w0 Q hQ
 unfold pt at h
 refine T_su [(0,vp b),(1,vu d)]<|aA 0<|T_ed 1 [] []<|aA 1<|T_n 2 [(8,vp b),(9,vu d)]<|T_c (some 10) h ?_;clear h
 rintro v H1 ⟨ra,rb,rfl,h⟩
 refine⟨[(10,.tuple #[vi ra,.bool rb])],pk,?_⟩
 exact T_ne 5 [(6,.bool rb)]<|aA 2<|T_nr 2 [4] [.bool rb] hQ h
end dP
/-! (*moraine/obj.Heap).SetCdr -/
namespace df
def K0:=Func.code f103
end df
def df.pt(hv:zW)(wv v:Int)(H:zV)(R:zj):Prop:=
 eE.C hv wv 1 v H (λa H1=> ∃x,a=vi x/\
 R (vi x) H1)
namespace df
theorem link(h:pt b d g H a):C b d g H a:=by
 refine T_en K0 11 func103 ?_
 intro w0 Q hQ
 unfold pt at h
 refine T_su [(0,vp b),(1,vu d),(2,vu g)]<|aA 0<|T_ed 1 [] []<|aA 1<|T_n 3 [(7,vp b),(8,vu d),(9,vu g)]<|T_c (some 10) h ?_;clear h
 rintro R H1 ⟨x,rfl,h⟩
 refine⟨[(10,vi x)],pk,?_⟩
 exact T_nr 1 [6] [vi x] hQ h
end df
/-! (*moraine/obj.Heap).pair -/
namespace db
def K0:=Func.code f109
end db
def db.pt(hv:zW)(wv:Int)(H:zV)(R:zj):Prop:=
 dV.C hv wv 1 0 H (λv H1=> ∃ra rb,v=.tuple #[vi ra,.bool rb]/\
 if rb=true then(
 R (.tuple #[vi ra,.bool ((Int.tmod ra 2)==0)]) H1)
 else
 dV.C hv wv 2 1 H1 (λd H2=> ∃a b,d=.tuple #[vi a,.bool b]/\
 R (.tuple #[vi a,.bool (b && ((Int.tmod a 2)==0))]) H2))
namespace db
theorem link(h:pt b d H a):C b d H a:=by
 refine T_en K0 29 func109 ?_
 intro w0 Q hQ
 unfold pt at h
 refine T_su [(0,vp b),(1,vu d)]<|aA 0<|T_ed 2 [] []<|aA 1<|T_nd 2 [] [(9,vp b),(10,vu d)]<|T_c (some 11) h ?_;clear h
 rintro v H1 ⟨ra,rb,rfl,h⟩
 refine T_pd [9,10] [(11,.tuple #[vi ra,.bool rb])]<|T_ed 5 [11] [(6,vi ra),(7,.bool rb)]<|T_sz<|aA 2<|T_ed 2 [] [(15,.bool (!rb))] ?_
 revert h;refine iO_ (λc1 h=>?_) (λc1 h=>?_)
 ·have b2:(!rb)=false:=congrArg Bool.not (c1)
  have b22:rb=true:=c1
  refine S_bd 7 (b:=rb) (v:=true) (by simp only[b2,b22,Bool.not_true,Bool.not_false])<|S_bd 15 (b:=(!rb)) (v:=false) (by simp only[b2,b22,Bool.not_true,Bool.not_false]) ?_
  clear b2 b22
  exact T_fz 15<|T_kt<|aA 4<|T_nr 9 [4,5] [vi ra,.bool ((Int.tmod ra 2)==0)] hQ h
 have b2:(!rb)=true:=congrArg Bool.not (zZ c1)
 have b22:rb=false:=zZ c1
 refine S_bd 7 (b:=rb) (v:=false) (by simp only[b2,b22,Bool.not_true,Bool.not_false])<|S_bd 15 (b:=(!rb)) (v:=true) (by simp only[b2,b22,Bool.not_true,Bool.not_false]) ?_
 clear b2 b22
 refine T_tz 15<|T_rz 3<|T_n 2 [(17,vp b),(18,vu d)]<|T_c (some 19) h ?_;clear h
 rintro hv H2 ⟨R,wv,rfl,h⟩
 refine⟨[(19,.tuple #[vi R,.bool wv])],pk,?_⟩
 refine T_ne 5 [(6,vi R),(7,.bool wv)]<|aA 4 ?_
 refine fx [(4,vi R),(5,.bool (wv && ((Int.tmod R 2)==0)))] ?_ ?_
 ·exact aE<|fB [4,5] [vi R,.bool (wv && ((Int.tmod R 2)==0))] hQ h
 intro hk
 refine T_n 3 [(6,vi R),(22,vi R),(24,.bool wv)] ?_
 by_cases c3:wv=true
 ·have b4:wv=true:=c3
  refine bT [(6,vi R),(22,vi R),(24,vT)] (by rw[b4]) ?_
  refine T_n 6 [(4,vi R),(5,.bool ((Int.tmod R 2)==0))]<|zq<|fc [(4,vi R),(5,.bool (wv && ((Int.tmod R 2)==0)))] (by simp only[b4,BL]) ?_
  exact hk
 have b4:wv=false:=zZ c3
 refine bT [(6,vi R),(22,vi R),(24,vF)] (by rw[b4]) ?_
 refine T_n 6 [(4,vi R),(5,vF)]<|zq<|fc [(4,vi R),(5,.bool (wv && ((Int.tmod R 2)==0)))] (by simp only[b4,BL]) ?_
 exact hk
end db
/-! (*moraine/obj.Heap).SetCar -/
namespace eE
def K0:=Func.code f132
end eE
def eE.pt(hv:zW)(wv i v:Int)(H:zV)(R:zj):Prop:=
 db.C hv wv H (λd H1=> ∃ra rb,d=.tuple #[vi ra,.bool rb]/\
 if rb=true then(
 ∃b,hv=some b/\
 ∃x,hat H1 b=some (vp x)/\
 cE.C x (zY (ra+i)) v H1 (λe H2=> ∃a,e=vi a/\
 R (vi a) H2))
 else
 R (vi 3) H1)
namespace eE
theorem link(h:pt b d g k H a):C b d g k H a:=by
 refine T_en K0 28 func132 ?_
 intro w0 Q hQ
 unfold pt zY at h
 refine T_su [(0,vp b),(1,vu d),(2,vi g),(3,vu k)]<|aA 0<|T_ed 1 [] []<|aA 1<|T_nd 2 [1] [(12,vp b),(13,vu d)]<|T_c (some 14) h ?_;clear h
 rintro i H1 ⟨ra,rb,rfl,h⟩
 refine T_pd [12,13] [(14,.tuple #[vi ra,.bool rb])]<|T_ed 5 [14] [(9,vi ra),(10,.bool rb)]<|T_sz<|aA 2<|T_ed 2 [10] [(18,.bool (!rb))] ?_
 revert h;refine iO_ (λc1 h=>?_) (λc1 h=>?_)
 ·refine aK 18 (congrArg Bool.not (c1))<|T_kt<|aA 4<|T_nd 1 [0,18] [(19,vp b)] ?_
  obtain⟨v,rfl,h⟩:=h
  refine T_nd 2 [19] [(21,vq v)] ?_
  obtain⟨x,q3,h⟩:=h
  refine T_l1 22 49 q3 [21]<|T_n 4 [(22,vp x),(25,vi (zY (ra+g))),(26,vu k)]<|T_c (some 27) h ?_;clear h
  rintro e H2 ⟨R,rfl,h⟩
  refine⟨[(27,vi R)],pk,?_⟩
  exact T_nr 1 [8] [vi R] hQ h
 exact aJ 18 (congrArg Bool.not (zZ c1))<|aA 3<|T_nr 1 [8] [vi 3] hQ h
end eE
/-! (*moraine/seg.Mem).Taken -/
namespace cz
def K0:=Func.code f45
def K2:=cb K0
def K4:=cb K2
def K12:=cb K4
def K13:=ca K12
def K16:=cb K13
def K17:=ca K16
def K18:=ca K17
end cz
def cz.pt(m f:zW)(d e:Nat)(H:zV)(R:zj):Prop:=
 ∀b H1,b=H.size->H1=H.push (.cells #[vp m] 78)->
 ∃x,hat H1 (ad b)=some (vp x)/\
 eM x (
 R vN H1) (λxA=>
 ∃af,hat H1 (ad b)=some (vp af)/\
 ∃ae,af=some ae/\
 ∃xB xN xC,hat H1 ae=some (vs xB xN xC)/\
 ∃(u:zW->Nat->Nat->zk) (m19:zW->Nat->Nat->Int->zV->Nat),u none 0 0 0 H1/\ ∀lB lN lC s15 H2,u lB lN lC s15 H2->
 if s15< (xN:Int)then(
 ∃ag,hat H2 (ad b)=some (vp ag)/\
 ∃ac,ag=some ac/\
 ∃r n o,hat H2 ac=some (vs r n o)/\
 ∃g,r=some g/\
 zv s15 n/\
 ∃q,hat H2 ((g.add (Int.toNat s15*72)).add 7)=some (vi q)/\
 if q>0 then(
 if(d:Int)=0 then(
 ∀ab H3,ab=H2.size->H3=H2.push (.cells #[vi s15] 3)->
 fy 1 3 8 [vi 0] lB lN lC (some (ad ab)) 1 H3 (λap y H4=>
 (u ap (lN+1) y (zY (s15+1)) H4/\m19 ap (lN+1) y (zY (s15+1)) H4<m19 lB lN lC s15 H2)))
 else
 ∃aa,hat H2 (g.add (Int.toNat s15*72))=some (vi aa)/\
 bD.C f d e aa H2 (λv H5=> ∃s,v=.bool s/\
 if s=true then(
 ∀z H6,z=H5.size->H6=H5.push (.cells #[vi s15] 3)->
 fy 1 3 8 [vi 0] lB lN lC (some (ad z)) 1 H6 (λp j H7=>
 (u p (lN+1) j (zY (s15+1)) H7/\m19 p (lN+1) j (zY (s15+1)) H7<m19 lB lN lC s15 H2)))
 else
 (u lB lN lC (zY (s15+1)) H5/\m19 lB lN lC (zY (s15+1)) H5<m19 lB lN lC s15 H2)))
 else
 (u lB lN lC (zY (s15+1)) H2/\m19 lB lN lC (zY (s15+1)) H2<m19 lB lN lC s15 H2))
 else
 slices_SortFunc_int_int.C lB lN lC (.func (.func 89) #[] #[vq (ad b)]) H2 (λ_ H8=>
 R (vs lB lN lC) H8))
namespace cz
theorem link{f:zW}(h:pt b f i j H a):C b f i j H a:=by
 refine T_en K0 52 func45 ?_
 intro w0 Q hQ
 unfold pt zY at h
 refine T_su [(0,vp b),(1,vs f i j)]<|aA 0<|T_nw (some 2) (λR=>vp (pa R)) (.cells #[vp b] 78) ?_
 intro R H1 e1 e2
 replace h:=h R H1 e1 e2
 refine T_pd [0] [(2,vp (pa R))]<|T_ed 1 [] []<|T_sz<|aA 1 ?_
 obtain⟨x,q3,h⟩:=h
 refine T_l1 8 78 q3 [] ?_
 rcases x with _ | xA
 ·rw[onPtr_none]at h
  exact T_ed 1 [8] [(9,vT)]<|T_tz 9<|aA 2<|T_nr 1 [4] [vN] hQ h
 rw[onPtr_some]at h
 refine T_ed 1 [8] [(9,vF)]<|T_fz 9<|T_kt<|aA 3<|T_ed 1 [9] [(5,vN)]<|T_sz<|aA 4 ?_
 obtain⟨af,q4,h⟩:=h
 refine T_l1 10 78 q4 [] ?_
 obtain⟨ae,rfl,h⟩:=h
 refine T_nd 2 [10] [(12,vq ae)] ?_
 obtain⟨xB,xN,xC,q5,h⟩:=h
 refine T_l1 13 155 q5 [12]<|T_ed 2 [13] [(14,vi xN),(15,vi 0)]<|T_bz 0 ?_
 obtain⟨u,m19,i6,i7⟩:=h
 refine cX (x:=K18) (σ:=zW×Nat×Nat×Int) (λs_=> [(1,vs f i j),(2,vp (pa R)),(5,vs s_.1 s_.2.1 s_.2.2.1),(14,vi xN),(15,vi s_.2.2.2)]) (λs_ H=>u s_.1 s_.2.1 s_.2.2.1 s_.2.2.2 H) (λs_ H=>m19 s_.1 s_.2.1 s_.2.2.1 s_.2.2.2 H) ((none,0,0,0):zW×Nat×Nat×Int) (by kernel_rfl) i6 sk ?_
 rintro⟨lB,lN,lC,s15⟩ H2 i8
 have h:=i7 lB lN lC s15 H2 i8
 refine T_su [(1,vs f i j),(2,vp (pa R)),(5,vs lB lN lC),(14,vi xN),(15,vi s15)]<|aA 5<|T_ed 1 [] [(16,.bool (decide (s15< (xN:Int))))]<|T_sz ?_
 revert h;refine iO_ (λc9 h=>?_) (λc9 h=>?_)
 ·refine aJ 16 (zX c9)<|T_kt<|T_sz<|T_bz 1<|aA 6<|T_ed 2 [16] [(6,vi s15)]<|aA 7 ?_
  obtain⟨ag,q11,h⟩:=h
  refine T_l1 18 78 q11 [] ?_
  obtain⟨ac,rfl,h⟩:=h
  refine T_nd 2 [18] [(20,vq ac)] ?_
  obtain⟨r,n,o,q12,h⟩:=h
  refine T_l1 21 155 q12 [20]<|T_nd 1 [] [(22,vi s15)] ?_
  obtain⟨g,rfl,q13,h⟩:=h
  refine T_xd (some 23) 155 161 72 g n o .i64 s15 underlying155 q13.1 q13.2 [21,22] [(23,vq (g.add (Int.toNat s15*72)))]<|T_ed 1 [23] [(7,vq (g.add (Int.toNat s15*72)))]<|aA 8<|T_nd 3 [] [(26,vq ((g.add (Int.toNat s15*72)).add 7))] ?_
  obtain⟨q,q14,h⟩:=h
  refine T_l1 27 3 q14 [26]<|T_nd 2 [27] [(29,.bool (decide (q>0)))] ?_
  revert h;refine iO_ (λc15 h=>?_) (λc15 h=>?_)
  ·refine N_bd 29 (zX c15)<|T_nd 4 [] [(33,.bool ((i:Int)==0))] ?_
   revert h;refine iO_ (λc17 h=>?_) (λc17 h=>?_)
   ·refine N_bd 33 (zK c17)<|T_ed 9 [7,29,33] [(42,vT)]<|T_tz 42<|T_rz 9<|T_nd 2 [5,6,42] [(43,vs lB lN lC),(44,vi s15)]<|T_nw (some 45) (λR=>vs (pa R) 1 1) (.cells #[vi s15] 3) ?_
    intro ab H3 e19 e20
    replace h:=h ab H3 e19 e20
    refine T_pd [44] [(45,vs (pa ab) 1 1)]<|N_op (some 46) (fl #[75,75] 75 #[vs lB lN lC,vs (pa ab) 1 1]) _ (λ_=>by kernel_rfl) (fd (T:=3) (sz:=1) (bytes:=8) (zero:=(vi 0:Value)) underlying75 underlying75 rfl (show prog.info? 3=some t3 from by kernel_rfl) (by kernel_rfl) (by kernel_rfl) (by decide) (by kernel_rfl) (by first | exact h | (simpa only[Value.cells,List.toList_toArray]using h))) ?_;clear h
    rintro _ H4 ⟨ap,y,rfl,h⟩
    exact T_pd [43,45] [(46,vs ap (lN+1) y)]<|T_nd 1 [46] [(5,vs ap (lN+1) y)]<|zq<|aD<|aE<|T_rz 10<|T_ed 2 [15] [(15,vi (zY (s15+1)))]<|aT ((ap,(lN+1),y,(zY (s15+1))):zW×Nat×Nat×Int) sk h
   refine N_bd 33 (zJ c17)<|T_nd 5 [7] [(34,vs f i j),(38,vq (g.add (Int.toNat s15*72)))] ?_
   obtain⟨aa,q21,h⟩:=h
   refine T_l1 39 3 q21 [38]<|T_c (some 40) h ?_;clear h
   rintro v H5 ⟨s,rfl,h⟩
   refine T_pd [34,39] [(40,.bool s)]<|T_ed 2 [29,33,40] [(42,.bool s)] ?_
   revert h;refine iO_ (λc22 h=>?_) (λc22 h=>?_)
   ·refine aJ 42 c22<|T_rz 9<|T_nd 2 [5,6,42] [(43,vs lB lN lC),(44,vi s15)]<|T_nw (some 45) (λR=>vs (pa R) 1 1) (.cells #[vi s15] 3) ?_
    intro z H6 e24 e25
    replace h:=h z H6 e24 e25
    refine T_pd [44] [(45,vs (pa z) 1 1)]<|N_op (some 46) (fl #[75,75] 75 #[vs lB lN lC,vs (pa z) 1 1]) _ (λ_=>by kernel_rfl) (fd (T:=3) (sz:=1) (bytes:=8) (zero:=(vi 0:Value)) underlying75 underlying75 rfl (show prog.info? 3=some t3 from by kernel_rfl) (by kernel_rfl) (by kernel_rfl) (by decide) (by kernel_rfl) (by first | exact h | (simpa only[Value.cells,List.toList_toArray]using h))) ?_;clear h
    rintro _ H7 ⟨p,e,rfl,h⟩
    exact T_pd [43,45] [(46,vs p (lN+1) e)]<|T_nd 1 [46] [(5,vs p (lN+1) e)]<|zq<|aD<|aE<|T_rz 10<|T_ed 2 [15] [(15,vi (zY (s15+1)))]<|aT ((p,(lN+1),e,(zY (s15+1))):zW×Nat×Nat×Int) sk h
   exact aK 42 (zZ c22)<|T_k<|aD<|aE<|T_rz 10<|T_ed 2 [6,15,42] [(15,vi (zY (s15+1)))]<|aT ((lB,lN,lC,(zY (s15+1))):zW×Nat×Nat×Int) sk h
  refine N_bd 29 (zQ c15)<|T_ed 13 [7,29] [(42,vF)]<|T_fz 42<|T_k ?_
  exact aD<|aE<|T_rz 10<|T_ed 2 [6,15,42] [(15,vi (zY (s15+1)))]<|aT ((lB,lN,lC,(zY (s15+1))):zW×Nat×Nat×Int) sk h
 refine aK 16 (zQ c9)<|zz 0<|aB<|aB<|aN<|aE<|aA 11<|T_n 2 [(5,vs lB lN lC),(48,vs lB lN lC),(49,.func (.func 89) #[] #[vp (pa R)])]<|T_c (some 50) h ?_;clear h
 intro v_2 H8 h
 exact T_pd [48,49] []<|T_e<|aA 12<|T_nr 2 [4] [vs lB lN lC] hQ h
end cz
/-! (*moraine/seg.Mem).Free -/
namespace ej
def K0:=Func.code f46
end ej
def ej.pt(m:zW)(H:zV)(R:zj):Prop:=
 eM m (
 R (vi 0) H) (λmA=>
 ∃x,hat H (mA.add 2)=some (vi x)/\
 R (vi x) H)
namespace ej
theorem link(h:pt b H a):C b H a:=by
 refine T_en K0 9 func46 ?_
 intro w0 Q hQ
 unfold pt at h
 refine T_su [(0,vp b)]<|aA 0<|T_ed 1 [] []<|T_sz<|aA 1<|T_nd 1 [] [(3,vp b)] ?_
 rcases b with _ | mA
 ·rw[onPtr_none]at h
  exact T_ne 1 [(0,vp none),(4,vT)]<|T_tz 4<|aA 2<|T_nr 1 [2] [vi 0] hQ h
 rw[onPtr_some]at h
 refine T_ne 1 [(0,vq mA),(4,vF)]<|T_fz 4<|T_kt<|aA 3<|T_n 3 [(7,vq (mA.add 2))] ?_
 obtain⟨x,q1,h⟩:=h
 exact T_l1 8 3 q1 [7]<|T_nr 1 [2] [vi x] hQ h
end ej
/-! (*moraine/seg.Mem).Taken.1 -/
namespace ee
def K0:=Func.code f89
def K2:=cb K0
def K3:=ca K2
end ee
def ee.pt(a b:Int)(p:zW)(H:zV)(R:zj):Prop:=
 ∃d,p=some d/\
 ∃x,hat H d=some (vp x)/\
 ∃xA,x=some xA/\
 ∃xB xN xC,hat H xA=some (vs xB xN xC)/\
 ∃f,xB=some f/\
 zv a xN/\
 ∃g,hat H ((f.add (Int.toNat a*72)).add 7)=some (vi g)/\
 ∃s,hat H d=some (vp s)/\
 ∃j,s=some j/\
 ∃r m n,hat H j=some (vs r m n)/\
 ∃e,r=some e/\
 zv b m/\
 ∃q,hat H ((e.add (Int.toNat b*72)).add 7)=some (vi q)/\
 cmp_Compare_int.C g q H (λv H1=> ∃o,v=vi o/\
 R (vi o) H1)
namespace ee
theorem link{R p:Int}(h:pt R p b H a):C R p b H a:=by
 refine T_en K0 23 func89 ?_
 intro w0 Q hQ
 unfold pt at h
 refine T_su [(0,vi R),(1,vi p),(2,vp b)]<|aA 0<|T_ed 1 [] []<|T_sz ?_
 obtain⟨d,rfl,x,q1,xA,rfl,xB,xN,xC,q2,f,rfl,q3,g,q4,s,q5,j,rfl,r,m,n,q6,e,rfl,q7,q,q8,h⟩:=h
 refine yW 1 (Code.ops K3) [(16,d,[vp (some xA)]),(16,xA,[vs (some f) xN xC]),(16,((f.add (Int.toNat R*72)).add 7),[vi g]),(16,d,[vp (some j)]),(16,j,[vs (some e) m n]),(16,((e.add (Int.toNat p*72)).add 7),[vi q])] 18 (bv 18 0) (show aI _ _ _ from⟨⟨q1,trivial⟩,⟨q2,trivial⟩,⟨q4,trivial⟩,⟨q5,trivial⟩,⟨q6,trivial⟩,⟨q8,trivial⟩,trivial⟩)<|T_g 0 (some 6) (vp (some xA)) (bv 18 1) [(0,vi R),(1,vi p),(2,vp (some d)),(6,vp (some xA))] (aQ 78 (vp (some d))) (yV 16 zw)<|aG 1 7 (vp (some xA)) (bv 18 3) [6]<|aG 2 8 (vp (some xA)) (bv 18 7) [7]<|T_g1 3 9 (vs (some f) xN xC) (bv 18 15) [8] (aQ 155 (vp (some xA))) (yV 16 yZ)<|aG 4 10 (vi R) (bv 18 31) [0]<|T_g1 5 11 (vp (some (f.add (Int.toNat R*72)))) (bv 18 63) [9,10] (bE 155 (vs (some f) xN xC) (vi R)) (λ_ w _ _ _=>fg (P:=prog) (t:=155) (elem:=161) (sz:=72) (a:=f) (len:=xN) (cap:=xC) (k:=.i64) (i:=R) underlying155 (λ_=>by kernel_rfl) q3.1 q3.2 w)<|aG 6 12 (vp (some ((f.add (Int.toNat R*72)).add 7))) (bv 18 127) [11]<|T_g1 7 13 (vi g) (bv 18 255) [12] (aQ 3 (vp (some ((f.add (Int.toNat R*72)).add 7)))) (yV 16 yX)<|T_g1 8 14 (vp (some j)) (bv 18 511) [2] (aQ 78 (vp (some d))) (yV 16 yQ)<|aG 9 15 (vp (some j)) (bv 18 1023) [14]<|aG 10 16 (vp (some j)) (bv 18 2047) [15]<|T_g1 11 17 (vs (some e) m n) (bv 18 4095) [16] (aQ 155 (vp (some j))) (yV 16 yJ)<|aG 12 18 (vi p) (bv 18 8191) [1]<|T_g1 13 19 (vp (some (e.add (Int.toNat p*72)))) (bv 18 16383) [17,18] (bE 155 (vs (some e) m n) (vi p)) (λ_ w _ _ _=>fg (P:=prog) (t:=155) (elem:=161) (sz:=72) (a:=e) (len:=m) (cap:=n) (k:=.i64) (i:=p) underlying155 (λ_=>by kernel_rfl) q7.1 q7.2 w)<|aG 14 20 (vp (some ((e.add (Int.toNat p*72)).add 7))) (bv 18 32767) [19]<|T_g1 15 21 (vi q) (bv 18 65535) [20] (aQ 3 (vp (some ((e.add (Int.toNat p*72)).add 7)))) (yV 16 yK)<|yY 16 (some 22) (bv 18 131071) 90 #[vi g,vi q] h ?_;clear h
 rintro v H1 ⟨o,rfl,h⟩
 refine⟨[(22,vi o)],pk,(show aI _ _ _ from⟨trivial,trivial,trivial,trivial,trivial,trivial,trivial⟩),?_⟩
 exact T_g 17 (some 5) (vi o) (bv 18 262143) [(5,vi o)] (pure (.value (vi o)):Sem Next) (λ_ _ _ _ _=>rfl)<|fE [(5,vi o)] sk<|yq<|aE<|fB [5] [vi o] hQ h
end ee
/-! (*moraine/seg.Mem).Give -/
namespace dA
def K0:=Func.code f105
end dA
def dA.pt(m:zW)(d:Int)(H:zV)(R:zj):Prop:=
 dG.C m d H (λv H1=> ∃x,v=vp x/\
 eM x (
 R (vi 19) H1) (λxA=>
 (aM H1 xA 0 72)/\ ∀H2,H2=aP H1 xA (List.replicate 8 (vi 0)++List.replicate 64 (vu 0):List Value) 0->
 ∃mA,m=some mA/\
 ∃b,hat H2 (mA.add 2)=some (vi b)/\
 (aM H2 (mA.add 2) 0 1)/\ ∀H3,H3=aP H2 (mA.add 2) [vi (zY (b+1))] 0->
 R (vi 0) H3))
namespace dA
theorem link{H:zV}(h:pt b d H a):C b d H a:=by
 refine T_en K0 21 func105 ?_
 intro w0 Q hQ
 unfold pt zY at h
 refine T_su [(0,vp b),(1,vi d)]<|aA 0<|T_ed 1 [] []<|aA 1<|T_nd 2 [1] [(6,vp b),(7,vi d)]<|T_c (some 8) h ?_;clear h
 rintro v H1 ⟨x,rfl,h⟩
 refine T_pd [6,7] [(8,vp x)]<|T_ed 1 [8] [(5,vp x)]<|T_sz<|aA 2<|T_nd 1 [] [(9,vp x)] ?_
 rcases x with _ | xA
 ·rw[onPtr_none]at h
  exact T_ed 1 [5,9] [(5,vp none),(10,vT)]<|T_tz 10<|aA 3<|T_nr 1 [4] [vi 19] hQ h
 rw[onPtr_some]at h
 refine T_ed 1 [5,9] [(5,vq xA),(10,vF)]<|T_fz 10<|T_kt<|aA 4<|T_nd 3 [5,10] [(12,.agg (List.replicate 8 (vi 0)++List.replicate 64 (vu 0):List Value).toArray),(13,vq xA)] ?_
 obtain⟨q2,h⟩:=h
 refine kE none (gZ 161 (vq xA) (.agg (List.replicate 8 (vi 0)++List.replicate 64 (vu 0):List Value).toArray)) (λHz=>Hz=aP H1 xA (List.replicate 8 (vi 0)++List.replicate 64 (vu 0):List Value) 0) (λ_=>by kernel_rfl) (by intro w hw;obtain⟨w1,g1,g2,g3⟩:=hC (P:=prog) (H:=H1) (t:=161) (a:=xA) (v:=(.agg (List.replicate 8 (vi 0)++List.replicate 64 (vu 0):List Value).toArray)) (List.replicate 8 (vi 0)++List.replicate 64 (vu 0):List Value) 72 (by kernel_rfl) (by kernel_rfl) (λ_=>by kernel_rfl) (by kernel_rfl) q2 w hw;exact⟨w1,g1,g2,g3⟩) ?_
 intro H2 e1
 replace h:=h H2 e1
 refine⟨[(0,vp b)],pk,?_⟩
 refine T_e<|aA 5<|T_n 1 [(14,vp b)] ?_
 obtain⟨mA,rfl,h⟩:=h
 refine T_n 2 [(14,vq mA),(16,vq (mA.add 2))] ?_
 obtain⟨m,q3,h⟩:=h
 refine T_l1 17 3 q3 [16]<|T_n 3 [(18,vi (zY (m+1))),(20,vq (mA.add 2))] ?_
 obtain⟨q5,h⟩:=h
 refine gL 3 (vi (zY (m+1))) q5 ?_
 intro H3 e4
 replace h:=h H3 e4
 refine⟨[],pk,?_⟩
 exact T_e<|aA 6<|T_nr 1 [4] [vi 0] hQ h
end dA
/-! (*moraine/space.Space).Words -/
namespace cG
def K0:=Func.code f48
def K2:=cb K0
def K8:=cb K2
def K9:=ca K8
def K10:=ca K9
def K12:=cb K10
def K14:=cb K12
def K17:=ca K14
def K19:=ca K17
def K21:=cb K19
def K22:=ca K21
def K25:=cb K22
def K26:=ca K25
def K27:=ca K26
end cG
def cG.pt(s e:zW)(b d:Nat)(H:zV)(R:zj):Prop:=
 eM s (
 R (.tuple #[]) H) (λsA=>
 ∃(j:zk) (m11:Int->zV->Nat),j 0 H/\ ∀s9 H1,j s9 H1->
 if s9<5 then(
 ∃(m:zk) (m28:Int->zV->Nat),m 0 H1/\ ∀g H2,m g H2->
 if g< (b:Int)then(
 ∃f,e=some f/\
 zv g b/\
 ∃x,hat H2 (f.add (Int.toNat g*1))=some (vi x)/\
 if x=s9 then(
 zv s9 5/\
 (aM H2 ((sA.add 1).add (Int.toNat s9*4)) 0 4)/\ ∀H3,H3=aP H2 ((sA.add 1).add (Int.toNat s9*4)) [vi 0,vi 0,vi 0,vi 0] 0->
 (m (zY (g+1)) H3/\m28 (zY (g+1)) H3<m28 g H2))
 else
 (m (zY (g+1)) H2/\m28 (zY (g+1)) H2<m28 g H2))
 else
 if(b:Int)=0 then(
 zv s9 5/\
 (aM H2 ((sA.add 1).add (Int.toNat s9*4)) 0 4)/\ ∀H4,H4=aP H2 ((sA.add 1).add (Int.toNat s9*4)) [vi 0,vi 0,vi 0,vi 0] 0->
 (j (zY (s9+1)) H4/\m11 (zY (s9+1)) H4<m11 s9 H1))
 else
 (j (zY (s9+1)) H2/\m11 (zY (s9+1)) H2<m11 s9 H1))
 else
 R (.tuple #[]) H1)
namespace cG
theorem link{e:zW}(h:pt b e i j H a):C b e i j H a:=by
 refine T_en K0 38 func48 ?_
 intro w0 Q hQ
 unfold pt zY at h
 refine T_su [(0,vp b),(1,vs e i j)]<|T_sz<|aA 0<|T_nd 1 [] [(7,vp b)] ?_
 rcases b with _ | sA
 ·rw[onPtr_none]at h
  exact T_ed 1 [0,7] [(0,vp none),(8,vT)]<|T_tz 8<|fB [] [] hQ h
 rw[onPtr_some]at h
 refine T_ed 1 [0,7] [(0,vq sA),(8,vF)]<|T_fz 8<|T_kt<|aA 1<|T_ed 1 [8] [(9,vi 0)]<|T_bz 0 ?_
 obtain⟨s,m11,i1,i2⟩:=h
 refine cX (x:=K10) (σ:=Int) (λs_=> [(0,vq sA),(1,vs e i j),(9,vi s_)]) (λs_ H=>s s_ H) (λs_ H=>m11 s_ H) (0:Int) (by kernel_rfl) i1 sk ?_
 rintro s9 H1 i3
 have h:=i2 s9 H1 i3
 refine T_su [(0,vq sA),(1,vs e i j),(9,vi s9)]<|aA 2<|T_ed 1 [] [(10,.bool (decide (s9<5)))]<|T_sz ?_
 revert h;refine iO_ (λc4 h=>?_) (λc4 h=>?_)
 ·refine aJ 10 (zX c4)<|T_kt<|T_sz<|T_bz 1<|aA 3<|T_ed 2 [10] [(4,vi s9)]<|T_sz<|aA 4<|T_ed 3 [] [(12,vs e i j),(13,vi i),(14,vi 0)]<|T_bz 2 ?_
  obtain⟨m,m28,i6,i7⟩:=h
  refine cX (x:=K27) (σ:=Int) (λs_=> [(0,vq sA),(1,vs e i j),(4,vi s9),(9,vi s9),(12,vs e i j),(13,vi i),(14,vi s_)]) (λs_ H=>m s_ H) (λs_ H=>m28 s_ H) (0:Int) (by kernel_rfl) i6 sk ?_
  rintro g H2 i8
  have h:=i7 g H2 i8
  refine T_su [(0,vq sA),(1,vs e i j),(4,vi s9),(9,vi s9),(12,vs e i j),(13,vi i),(14,vi g)]<|aA 5<|T_ed 1 [] [(15,.bool (decide (g< (i:Int))))]<|T_sz ?_
  revert h;refine iO_ (λc9 h=>?_) (λc9 h=>?_)
  ·refine aJ 15 (zX c9)<|T_kt<|T_sz<|T_bz 3<|aA 6<|T_ud [15] [] ?_
   obtain⟨f,rfl,q11,h⟩:=h
   refine T_xd (some 16) 75 3 1 f i j .i64 g underlying75 q11.1 q11.2 [1,12] [(1,vs (some f) i j),(12,vs (some f) i j),(16,vq (f.add (Int.toNat g*1)))] ?_
   obtain⟨x,q12,h⟩:=h
   refine T_l1 17 3 q12 [16]<|T_ed 1 [17] [(6,vi x)]<|aA 7<|T_ed 3 [6] [(20,.bool (x==s9))] ?_
   revert h;refine iO_ (λc13 h=>?_) (λc13 h=>?_)
   ·refine aJ 20 (zK c13)<|T_rz 8<|T_nd 5 [20] [(22,vi s9),(23,.agg #[vi 0,vi 0,vi 0,vi 0]),(25,vq (sA.add 1))] ?_
    obtain⟨q15,h⟩:=h
    refine T_v1 26 (bE 80 (vq (sA.add 1)) (vi s9)) (vq ((sA.add 1).add (Int.toNat s9*4))) (λw _=>bF (P:=prog) (t:=80) (elem:=79) (sz:=4) (n:=5) (a:=(sA.add 1)) (k:=.i64) (i:=s9) underlying80 (λ_=>by kernel_rfl) q15.1 q15.2 w) [22,25] ?_
    obtain⟨q17,h⟩:=h
    refine fT 79 [vi 0,vi 0,vi 0,vi 0] q17 ?_
    intro H3 e16
    replace h:=h H3 e16
    exact T_pd [23,26] []<|zq<|aD<|aE<|T_rz 9<|T_ed 2 [14] [(14,vi (zY (g+1)))]<|aT ((zY (g+1)):Int) sk h
   exact aK 20 (zJ c13)<|T_k<|aD<|aE<|T_rz 9<|T_ed 2 [14,20] [(14,vi (zY (g+1)))]<|aT ((zY (g+1)):Int) sk h
  refine aK 15 (zQ c9)<|zz 2<|aB<|aB<|aN<|aE<|aA 10<|T_ed 3 [12,13,14,15] [(30,.bool ((i:Int)==0))] ?_
  revert h;refine iO_ (λc18 h=>?_) (λc18 h=>?_)
  ·refine aJ 30 (zK c18)<|T_rz 11<|T_nd 5 [4,30] [(32,vi s9),(33,.agg #[vi 0,vi 0,vi 0,vi 0]),(35,vq (sA.add 1))] ?_
   obtain⟨q20,h⟩:=h
   refine T_v1 36 (bE 80 (vq (sA.add 1)) (vi s9)) (vq ((sA.add 1).add (Int.toNat s9*4))) (λw _=>bF (P:=prog) (t:=80) (elem:=79) (sz:=4) (n:=5) (a:=(sA.add 1)) (k:=.i64) (i:=s9) underlying80 (λ_=>by kernel_rfl) q20.1 q20.2 w) [32,35] ?_
   obtain⟨q22,h⟩:=h
   refine fT 79 [vi 0,vi 0,vi 0,vi 0] q22 ?_
   intro H4 e21
   replace h:=h H4 e21
   exact T_pd [33,36] []<|zq<|aD<|aE<|T_rz 12<|T_ed 2 [9] [(9,vi (zY (s9+1)))]<|aT ((zY (s9+1)):Int) sk h
  exact aK 30 (zJ c18)<|T_k<|aD<|aE<|T_rz 12<|T_ed 2 [4,9,30] [(9,vi (zY (s9+1)))]<|aT ((zY (s9+1)):Int) sk h
 exact aK 10 (zQ c4)<|zz 0<|aB<|aB<|aN<|fI (fn:=f48) [] hQ (show dY _ _ _ [] _ from .nil) h
end cG
/-! (*moraine/space.Space).Give -/
namespace cQ
def K0:=Func.code f63
def K2:=cb K0
def K4:=cb K2
def K11:=ca K4
def K14:=cb K11
def K16:=cb K14
def K17:=ca K16
end cQ
def cQ.pt(s:zW)(d:Int)(H:zV)(R:zj):Prop:=
 cD.C s H (λv H1=> ∃x,v=.bool x/\
 if x=true then(
 R (vi 19) H1)
 else
 ∃sA,s=some sA/\
 ∃af,hat H1 sA=some (vp af)/\
 bA.C af d H1 (λai H2=> ∃r p ab e j g f rb,ai=.tuple #[.agg #[vi r,vi p,vi ab,vi e,vi j,vi g,vi f],.bool rb]/\
 ∀b H3,b=H2.size->H3=H2.push (.cells #[vi 0,vi 0,vi 0,vi 0,vi 0,vi 0,vi 0] 108)->
 (aM H3 (ad b) 0 7)/\ ∀H4,H4=aP H3 (ad b) [vi r,vi p,vi ab,vi e,vi j,vi g,vi f] 0->
 if rb=true then(
 ∃o,hat H4 (ad b)=some (vi o)/\
 ∃y,hat H4 ((ad b).add 1)=some (vi y)/\
 zv o 5/\
 zv y 4/\
 ∃u,hat H4 (((sA.add 1).add (Int.toNat o*4)).add (Int.toNat y*1))=some (vi u)/\
 if u=(zY (d+1))then(
 ∃m,hat H4 (ad b)=some (vi m)/\
 ∃q,hat H4 ((ad b).add 1)=some (vi q)/\
 zv m 5/\
 zv q 4/\
 (aM H4 (((sA.add 1).add (Int.toNat m*4)).add (Int.toNat q*1)) 0 1)/\ ∀H5,H5=aP H4 (((sA.add 1).add (Int.toNat m*4)).add (Int.toNat q*1)) [vi 0] 0->
 ∃ag,hat H5 sA=some (vp ag)/\
 dA.C ag d H5 (λal H6=> ∃ah,al=vi ah/\
 R (vi ah) H6))
 else
 ∃aa,hat H4 sA=some (vp aa)/\
 dA.C aa d H4 (λak H7=> ∃ac,ak=vi ac/\
 R (vi ac) H7))
 else
 ∃z,hat H4 sA=some (vp z)/\
 dA.C z d H4 (λaj H8=> ∃ae,aj=vi ae/\
 R (vi ae) H8)))
namespace cQ
theorem link(h:pt b d H a):C b d H a:=by
 refine T_en K0 49 func63 ?_
 intro w0 Q hQ
 unfold pt zY at h
 refine T_su [(0,vp b),(1,vi d)]<|aA 0<|T_ed 1 [] []<|T_sz<|aA 1<|T_nd 1 [] [(7,vp b)]<|T_c (some 8) h ?_;clear h
 rintro v H1 ⟨x,rfl,h⟩
 refine T_pd [7] [(8,.bool x)]<|T_e ?_
 revert h;refine iO_ (λc1 h=>?_) (λc1 h=>?_)
 ·exact aJ 8 c1<|aA 2<|T_nr 1 [4] [vi 19] hQ h
 refine aK 8 (zZ c1)<|T_kt<|T_sz<|aA 3<|T_nd 1 [8] [(10,vp b)] ?_
 obtain⟨sA,rfl,h⟩:=h
 refine T_nd 2 [0,10] [(0,vq sA),(12,vq sA)] ?_
 obtain⟨af,q3,h⟩:=h
 refine T_l1 13 78 q3 [12]<|T_nd 1 [] [(14,vi d)]<|T_c (some 15) h ?_;clear h
 rintro ai H2 ⟨r,p,ab,e,j,g,f,rb,rfl,h⟩
 refine T_pd [13,14] [(15,.tuple #[.agg #[vi r,vi p,vi ab,vi e,vi j,vi g,vi f],.bool rb])]<|T_nd 3 [15] [(16,.agg #[vi r,vi p,vi ab,vi e,vi j,vi g,vi f]),(17,.bool rb)]<|T_nw (some 5) (λs=>vp (pa s)) (.cells #[vi 0,vi 0,vi 0,vi 0,vi 0,vi 0,vi 0] 108) ?_
 intro s H3 e4 e5
 replace h:=h s H3 e4 e5
 refine T_pd [] [(5,vp (pa s))] ?_
 obtain⟨q7,h⟩:=h
 refine fT 108 [vi r,vi p,vi ab,vi e,vi j,vi g,vi f] q7 ?_
 intro H4 e6
 replace h:=h H4 e6
 refine T_pd [16] []<|T_ed 1 [17] [(6,.bool rb)]<|T_sz<|oG 4<|T_q1 18 (.bool rb) [6]<|T_q1 19 (.bool rb) [18] ?_
 revert h;refine iO_ (λc8 h=>?_) (λc8 h=>?_)
 ·refine Q_bd 19 c8<|T_q1 20 (vq sA) []<|T_q1 21 (vp (pa s)) [] ?_
  obtain⟨o,q10,h⟩:=h
  refine kL (some 22) 3 q10 [21] [(22,vi o)]<|T_q1 23 (vq ((ad s).add 1)) [] ?_
  obtain⟨y,q11,h⟩:=h
  refine kL (some 24) 3 q11 [23] [(24,vi y)]<|T_q1 25 (vq sA) [20]<|T_q1 26 (vq (sA.add 1)) [25] ?_
  obtain⟨q12,h⟩:=h
  refine Q_op (some 27) (bE 80 (vp (some (sA.add 1))) (vi o)) (vp (some ((sA.add 1).add (Int.toNat o*4)))) (λ_=>by kernel_rfl) (λw _=>bF (P:=prog) (t:=80) (elem:=79) (sz:=4) (n:=5) (a:=(sA.add 1)) (k:=.i64) (i:=o) underlying80 (λ_=>by kernel_rfl) q12.1 q12.2 w) [(0,vp (some sA)),(1,vi d),(5,vp (pa s)),(19,.bool true),(24,vi y),(27,vp (some ((sA.add 1).add (Int.toNat o*4))))] pk ?_
  obtain⟨q13,h⟩:=h
  refine Q_op (some 28) (bE 79 (vp (some ((sA.add 1).add (Int.toNat o*4)))) (vi y)) (vp (some (((sA.add 1).add (Int.toNat o*4)).add (Int.toNat y*1)))) (λ_=>by kernel_rfl) (λw _=>bF (P:=prog) (t:=79) (elem:=3) (sz:=1) (n:=4) (a:=((sA.add 1).add (Int.toNat o*4))) (k:=.i64) (i:=y) underlying79 (λ_=>by kernel_rfl) q13.1 q13.2 w) [(0,vp (some sA)),(1,vi d),(5,vp (pa s)),(19,.bool true),(28,vp (some (((sA.add 1).add (Int.toNat o*4)).add (Int.toNat y*1))))] pk ?_
  obtain⟨u,q14,h⟩:=h
  refine T_ql (some 29) 3 q14 [(0,vq sA),(1,vi d),(5,vp (pa s)),(19,vT),(29,vi u)]<|T_q1 30 (vi d) []<|T_q1 31 (vi (zY (d+1))) [30]<|T_q1 32 (.bool (u==(zY (d+1)))) [29,31]<|T_q1 33 (.bool (u==(zY (d+1)))) [19,32]<|j4 [(0,vq sA),(1,vi d),(5,vp (pa s)),(33,.bool (u==(zY (d+1))))] sk<|T_qe ?_
  revert h;refine iO_ (λc15 h=>?_) (λc15 h=>?_)
  ·refine aJ 33 (zK c15) ?_
   obtain⟨m,q17,q,q18,q19,q20,h⟩:=h
   refine yW 5 (Code.ops K17) [(9,(ad s),[vi m]),(9,((ad s).add 1),[vi q])] 10 (bv 10 0) (show aI _ _ _ from⟨⟨q17,trivial⟩,⟨q18,trivial⟩,trivial⟩)<|T_gp 0 (some 34) (vp (some sA)) (bv 10 1) [(0,vp (some sA)),(1,vi d),(5,vp (pa s)),(34,vp (some sA))]<|aG 1 35 (vp (pa s)) (bv 10 3) []<|T_g1 2 36 (vi m) (bv 10 7) [35] (aQ 3 (vp (pa s))) (yV 9 zw)<|aG 3 37 (vp (some ((ad s).add 1))) (bv 10 15) [5]<|T_g1 4 38 (vi q) (bv 10 31) [37] (aQ 3 (vp (some ((ad s).add 1)))) (yV 9 yZ)<|aG 5 39 (vp (some sA)) (bv 10 63) [34]<|aG 6 40 (vp (some (sA.add 1))) (bv 10 127) [39]<|T_g1 7 41 (vp (some ((sA.add 1).add (Int.toNat m*4)))) (bv 10 255) [36,40] (bE 80 (vp (some (sA.add 1))) (vi m)) (λ_ w _ _ _=>bF (P:=prog) (t:=80) (elem:=79) (sz:=4) (n:=5) (a:=(sA.add 1)) (k:=.i64) (i:=m) underlying80 (λ_=>by kernel_rfl) q19.1 q19.2 w)<|T_g1 8 42 (vp (some (((sA.add 1).add (Int.toNat m*4)).add (Int.toNat q*1)))) (bv 10 511) [38,41] (bE 79 (vp (some ((sA.add 1).add (Int.toNat m*4)))) (vi q)) (λ_ w _ _ _=>bF (P:=prog) (t:=79) (elem:=3) (sz:=1) (n:=4) (a:=((sA.add 1).add (Int.toNat m*4))) (k:=.i64) (i:=q) underlying79 (λ_=>by kernel_rfl) q20.1 q20.2 w) ?_
   obtain⟨q22,h⟩:=h
   refine fX 9 none (bv 10 1023) (gZ 3 (vq (((sA.add 1).add (Int.toNat m*4)).add (Int.toNat q*1))) (vi 0)) (λHz=>Hz=aP H4 (((sA.add 1).add (Int.toNat m*4)).add (Int.toNat q*1)) [vi 0] 0) (by kernel_rfl) (λ_=>by kernel_rfl) (hC [vi 0] 1 (by kernel_rfl) (by kernel_rfl) (λ_=>by kernel_rfl) (by kernel_rfl) q22) (by kernel_rfl) ?_
   intro H5 e21
   replace h:=h H5 e21
   refine⟨[(0,vq sA),(1,vi d)],pk,(show aI _ _ _ from⟨trivial,trivial,trivial⟩),?_⟩
   refine fE [(0,vq sA),(1,vi d)] sk ?_
   refine yq<|aE<|aA 6<|T_n 3 [(1,vi d),(45,vq sA)] ?_
   obtain⟨ag,q23,h⟩:=h
   refine T_l1 46 78 q23 [45]<|T_nd 1 [1] [(47,vi d)]<|T_c (some 48) h ?_;clear h
   rintro al H6 ⟨ah,rfl,h⟩
   refine⟨[(48,vi ah)],pk,?_⟩
   exact T_nr 1 [4] [vi ah] hQ h
  refine aK 33 (zJ c15)<|T_kt<|aA 6<|T_n 3 [(1,vi d),(45,vq sA)] ?_
  obtain⟨aa,q24,h⟩:=h
  refine T_l1 46 78 q24 [45]<|T_nd 1 [1] [(47,vi d)]<|T_c (some 48) h ?_;clear h
  rintro ak H7 ⟨ac,rfl,h⟩
  refine⟨[(48,vi ac)],pk,?_⟩
  exact T_nr 1 [4] [vi ac] hQ h
 refine Q_bd 19 (zZ c8)<|T_q1 20 (undef) []<|T_q1 21 (undef) []<|T_q1 22 (undef) [21]<|T_q1 23 (undef) []<|T_q1 24 (undef) [23]<|T_q1 25 (undef) [20]<|T_q1 26 (undef) [25]<|T_q1 27 (undef) [22,26] ?_
 refine T_q1 28 (undef) [24,27]<|T_q1 29 (undef) [28]<|T_q1 30 (undef) []<|T_q1 31 (undef) [30]<|T_q1 32 (undef) [29,31]<|T_q1 33 vF [19,32]<|j4 [(0,vq sA),(1,vi d),(5,vp (pa s)),(33,vF)] sk<|T_qe<|T_fz 33<|T_kt<|aA 6<|T_n 3 [(1,vi d),(45,vq sA)] ?_
 obtain⟨z,q25,h⟩:=h
 refine T_l1 46 78 q25 [45]<|T_nd 1 [1] [(47,vi d)]<|T_c (some 48) h ?_;clear h
 rintro aj H8 ⟨ae,rfl,h⟩
 refine⟨[(48,vi ae)],pk,?_⟩
 exact T_nr 1 [4] [vi ae] hQ h
end cQ
/-! cmp.Compare[int] -/
namespace cmp_Compare_int
def K0:=Func.code f90
end cmp_Compare_int
def cmp_Compare_int.pt(x y:Int)(H:zV)(R:zj):Prop:=
 cmp_isNaN_int.C x H (λv H1=> ∃b,v=.bool b/\
 cmp_isNaN_int.C y H1 (λd H2=> ∃a,d=.bool a/\
 if b=true then(
 if a=true then(
 R (vi 0) H2)
 else
 R (vi (-1)) H2)
 else
 if a=true then(
 R (vi 1) H2)
 else
 if x<y then(
 R (vi (-1)) H2)
 else
 if x>y then(
 R (vi 1) H2)
 else
 R (vi 0) H2))
namespace cmp_Compare_int
theorem link(h:pt d g H a):C d g H a:=by
 refine T_en K0 20 func90 ?_
 intro w0 Q hQ
 unfold pt at h
 refine T_su [(0,vi d),(1,vi g)]<|aA 0<|T_ed 1 [] []<|aA 1<|T_nd 1 [] [(7,vi d)]<|T_c (some 8) h ?_;clear h
 rintro v H1 ⟨b,rfl,h⟩
 refine T_pd [7] [(8,.bool b)]<|T_ed 1 [8] [(5,.bool b)]<|aA 2<|T_nd 1 [] [(9,vi g)]<|T_c (some 10) h ?_;clear h
 rintro y H2 ⟨R,rfl,h⟩
 refine T_pd [9] [(10,.bool R)]<|T_ed 1 [10] [(6,.bool R)]<|T_sz<|aA 3<|T_ed 1 [5] [(11,.bool b)] ?_
 revert h;refine iO_ (λc1 h=>?_) (λc1 h=>?_)
 ·refine aJ 11 c1<|T_sz<|aA 4<|T_ne 1 [(12,.bool R)] ?_
  revert h;refine iO_ (λc3 h=>?_) (λc3 h=>?_)
  ·exact aJ 12 c3<|aA 5<|T_nr 1 [4] [vi 0] hQ h
  exact aK 12 (zZ c3)<|T_kt<|aA 6<|T_nr 1 [4] [vi (-1)] hQ h
 refine aK 11 (zZ c1)<|T_kt<|T_sz<|aA 7<|T_ed 1 [6,11] [(13,.bool R)] ?_
 revert h;refine iO_ (λc5 h=>?_) (λc5 h=>?_)
 ·exact aJ 13 c5<|aA 8<|T_nr 1 [4] [vi 1] hQ h
 refine aK 13 (zZ c5)<|T_kt<|T_sz<|aA 9<|T_ed 3 [13] [(16,.bool (decide (d<g)))] ?_
 revert h;refine iO_ (λc7 h=>?_) (λc7 h=>?_)
 ·exact aJ 16 (zX c7)<|aA 10<|T_nr 1 [4] [vi (-1)] hQ h
 refine aK 16 (zQ c7)<|T_kt<|T_sz<|aA 11<|T_ne 3 [(19,.bool (decide (d>g)))] ?_
 revert h;refine iO_ (λc9 h=>?_) (λc9 h=>?_)
 ·exact aJ 19 (zX c9)<|aA 12<|T_nr 1 [4] [vi 1] hQ h
 exact aK 19 (zQ c9)<|T_kt<|aA 13<|T_nr 1 [4] [vi 0] hQ h
end cmp_Compare_int
/-! cmp.isNaN[int] -/
namespace cmp_isNaN_int
def K0:=Func.code f129
end cmp_isNaN_int
def cmp_isNaN_int.pt(x:Int)(H:zV)(R:zj):Prop:=
 R (.bool (x !=x)) H
namespace cmp_isNaN_int
theorem link(h:pt d H a):C d H a:=by
 refine T_en K0 6 func129 ?_
 intro w0 Q hQ
 unfold pt at h
 exact T_su [(0,vi d)]<|aA 0<|T_ed 1 [] []<|aA 1<|T_nr 4 [2] [.bool (d !=d)] hQ h
end cmp_isNaN_int
/-! slices.Clone[[]moraine/api.Entry,moraine/api.Entry] -/
namespace bD
def K0:=Func.code f87
end bD
def bD.pt(sB:zW)(sN sC:Nat)(v:Int)(H:zV)(R:zj):Prop:=
 bW.C sB sN sC v H (λa H1=> ∃x,a=vi x/\
 R (.bool (decide (x>=0))) H1)
namespace bD
theorem link(h:pt b i j d H a):C b i j d H a:=by
 refine T_en K0 9 func87 ?_
 intro w0 Q hQ
 unfold pt at h
 refine T_su [(0,vs b i j),(1,vi d)]<|aA 0<|T_ed 1 [] []<|aA 1<|T_n 2 [(5,vs b i j),(6,vi d)]<|T_c (some 7) h ?_;clear h
 rintro R H1 ⟨x,rfl,h⟩
 refine⟨[(7,vi x)],pk,?_⟩
 exact T_nr 2 [4] [.bool (decide (x>=0))] hQ h
end bD
/-! slices.Index[[]int,int] -/
namespace bW
def K0:=Func.code f126
def K2:=cb K0
def K3:=ca K2
def K6:=cb K3
def K7:=ca K6
def K8:=ca K7
end bW
def bW.pt(sB:zW)(sN sC:Nat)(v:Int)(H:zV)(R:zj):Prop:=
 ∃(I9:zk) (m9:Int->zV->Nat),I9 0 H/\ ∀s8 H1,I9 s8 H1->
 if s8< (sN:Int)then(
 ∃b,sB=some b/\
 zv s8 sN/\
 ∃x,hat H1 (b.add (Int.toNat s8*1))=some (vi x)/\
 if v=x then(
 R (vi s8) H1)
 else
 (I9 (zY (s8+1)) H1/\m9 (zY (s8+1)) H1<m9 s8 H1))
 else
 R (vi (-1)) H1
namespace bW
theorem link(h:pt b i j d H a):C b i j d H a:=by
 refine T_en K0 19 func126 ?_
 intro w0 Q hQ
 unfold pt zY at h
 refine T_su [(0,vs b i j),(1,vi d)]<|aA 0<|T_ed 1 [] []<|T_sz<|aA 1<|T_ed 3 [] [(7,vi i),(8,vi 0)]<|T_bz 0 ?_
 obtain⟨I9,m9,i1,i2⟩:=h
 refine cX (x:=K8) (σ:=Int) (λs_=> [(0,vs b i j),(1,vi d),(7,vi i),(8,vi s_)]) (λs_ H=>I9 s_ H) (λs_ H=>m9 s_ H) (0:Int) (by kernel_rfl) i1 sk ?_
 rintro s8 H1 i3
 have h:=i2 s8 H1 i3
 refine T_su [(0,vs b i j),(1,vi d),(7,vi i),(8,vi s8)]<|aA 2<|T_ed 1 [] [(9,.bool (decide (s8< (i:Int))))]<|T_sz ?_
 revert h;refine iO_ (λc4 h=>?_) (λc4 h=>?_)
 ·refine aJ 9 (zX c4)<|T_kt<|T_sz<|T_bz 1<|aA 3<|T_ed 2 [9] [(5,vi s8)]<|aA 4<|T_nd 3 [] [(11,vi d),(12,vs b i j),(13,vi s8)] ?_
  obtain⟨R,rfl,q6,h⟩:=h
  refine T_xd (some 14) 75 3 1 R i j .i64 s8 underlying75 q6.1 q6.2 [0,12,13] [(0,vs (some R) i j),(14,vq (R.add (Int.toNat s8*1)))] ?_
  obtain⟨x,q7,h⟩:=h
  refine T_l1 15 3 q7 [14]<|T_ed 1 [11,15] [(16,.bool (d==x))] ?_
  revert h;refine iO_ (λc8 h=>?_) (λc8 h=>?_)
  ·exact aJ 16 (zK c8)<|aA 5<|T_nr 2 [4] [vi s8] hQ h
  exact aK 16 (zJ c8)<|T_k<|aD<|aE<|T_rz 6<|T_ed 2 [5,8,16] [(8,vi (zY (s8+1)))]<|aT ((zY (s8+1)):Int) sk h
 exact aK 9 (zQ c4)<|zz 0<|aB<|aB<|aN<|aE<|aA 7<|T_nr 1 [4] [vi (-1)] hQ h
end bW
/-! (*moraine/obj.Heap).Next -/
namespace dM
def K0:=Func.code f65
end dM
def dM.pt(hv:zW)(H:zV)(R:zj):Prop:=
 da.C hv H (λv H1=> ∃x,v=.bool x/\
 if x=true then(
 R (.tuple #[]) H1)
 else
 ∃a,hv=some a/\
 ∃b,hat H1 (a.add 3)=some (vu b)/\
 (aM H1 (a.add 3) 0 1)/\ ∀H2,H2=aP H1 (a.add 3) [vu (IntKind.wrap .u64 (b+1))] 0->
 R (.tuple #[]) H2)
namespace dM
set_option maxRecDepth 100000 in
theorem link(h:pt b H a):C b H a:=by
 refine T_en K0 12 func65 ?_
 intro w0 Q hQ
 unfold pt at h
 refine T_su [(0,vp b)]<|aA 0<|T_nd 1 [] [(2,vp b)]<|T_c (some 3) h ?_;clear h
 rintro v H1 ⟨x,rfl,h⟩
 refine T_pd [2] [(3,.bool x)]<|T_ed 1 [3] [(4,.bool (!x))] ?_
 revert h;refine iO_ (λc1 h=>?_) (λc1 h=>?_)
 ·exact aK 4 (congrArg Bool.not (c1))<|T_k<|fI (fn:=f65) [] hQ (show dY _ _ _ [] _ from .nil) h
 refine aJ 4 (congrArg Bool.not (zZ c1))<|T_rz 1<|T_n 1 [(5,vp b)] ?_
 obtain⟨R,rfl,h⟩:=h
 refine T_n 2 [(5,vq R),(7,vq (R.add 3))] ?_
 obtain⟨hv,q3,h⟩:=h
 refine T_l1 8 22 q3 [7]<|T_n 3 [(9,vu (IntKind.wrap .u64 (hv+1))),(11,vq (R.add 3))] ?_
 obtain⟨q5,h⟩:=h
 refine gL 22 (vu (IntKind.wrap .u64 (hv+1))) q5 ?_
 intro H2 e4
 replace h:=h H2 e4
 refine⟨[],pk,?_⟩
 exact zq<|fI (fn:=f65) [] hQ (show dY _ _ _ [] _ from .nil) h
end dM
/-! moraine/morainelaw12.queue -/
namespace bP
def K0:=Func.code f17
def K2:=cb K0
def K4:=cb K2
def K6:=cb K4
def K8:=cb K6
def K10:=cb K8
def K17:=ca K10
def K19:=ca K17
def K20:=ca K19
end bP
def bP.pt(hv:zW)(e:Int)(H:zV)(R:zj):Prop:=
 dd.C hv e 10 0 H (λv H1=> ∃ra rb,v=.tuple #[vu ra,vi rb]/\
 dd.C hv e 10 1 H1 (λn H2=> ∃a j,n=.tuple #[vu a,vi j]/\
 if(((rb !=0) || (j !=0)) || (!((ra==20)==(a==20))))=true then(
 R (.tuple #[vN,vF]) H2)
 else
 ∃(m:zW->Nat->Nat->zk) (m21:zW->Nat->Nat->Int->zV->Nat),m none 0 0 ra H2/\ ∀lB lN lC p H3,m lB lN lC p H3->
 if p=20 then(
 R (.tuple #[vs lB lN lC,vT]) H3)
 else
 bY.C hv p H3 (λq H4=> ∃f i,q=.tuple #[vu f,vi i]/\
 eh.C hv p H4 (λo H5=> ∃d g,o=.tuple #[vu d,vi g]/\
 if((((i !=0) || (g !=0)) || (decide ((lN:Int)>100000))) || (!((d==20)==(p==a))))=true then(
 R (.tuple #[vN,vF]) H5)
 else
 ∀b H6,b=H5.size->H6=H5.push (.cells #[vu f] 28)->
 fy 1 28 8 [vu 0] lB lN lC (some (ad b)) 1 H6 (λap k H7=>
 (m ap (lN+1) k d H7/\m21 ap (lN+1) k d H7<m21 lB lN lC p H3))))))
namespace bP
set_option maxRecDepth 100000 in
theorem link(h:pt b d H a):C b d H a:=by
 refine T_en K0 79 func17 ?_
 intro w0 Q hQ
 unfold pt at h
 refine T_su [(0,vp b),(1,vu d)]<|aA 0<|T_ed 2 [] []<|aA 1<|T_ed 1 [] [(6,vN)]<|aA 2<|T_nd 2 [] [(16,vp b),(17,vu d)]<|T_c (some 18) h ?_;clear h
 rintro v H1 ⟨ra,rb,rfl,h⟩
 refine T_pd [16,17] [(18,.tuple #[vu ra,vi rb])]<|T_ed 5 [18] [(7,vu ra),(8,vi rb)]<|aA 3<|T_nd 2 [1] [(22,vp b),(23,vu d)]<|T_c (some 24) h ?_;clear h
 rintro n H2 ⟨R,j,rfl,h⟩
 refine T_pd [22,23] [(24,.tuple #[vu R,vi j])]<|T_ed 5 [24] [(9,vu R),(10,vi j)]<|T_sz<|aA 4 ?_
 refine fx [(0,vp b),(6,vN),(7,vu ra),(9,vu R),(39,.bool (((rb !=0) || (j !=0)) || (!((ra==20)==(R==20)))))] ?_ ?_
 ·refine aE ?_
  revert h;refine iO_ (λc5 h=>?_) (λc5 h=>?_)
  ·exact aJ 39 c5<|aA 5<|T_nr 2 [4,5] [vN,vF] hQ h
  refine aK 39 (zZ c5)<|T_kt<|T_sz<|T_bz 0 ?_
  obtain⟨m,m21,i7,i8⟩:=h
  refine cX (x:=K20) (σ:=zW×Nat×Nat×Int) (λs_=> [(0,vp b),(6,vs s_.1 s_.2.1 s_.2.2.1),(7,vu s_.2.2.2),(9,vu R)]) (λs_ H=>m s_.1 s_.2.1 s_.2.2.1 s_.2.2.2 H) (λs_ H=>m21 s_.1 s_.2.1 s_.2.2.1 s_.2.2.2 H) ((none,0,0,ra):zW×Nat×Nat×Int) (by kernel_rfl) i7 sk ?_
  rintro⟨lB,lN,lC,p⟩ H3 i9
  have h:=i8 lB lN lC p H3 i9
  refine T_su [(0,vp b),(6,vs lB lN lC),(7,vu p),(9,vu R)]<|T_sz<|aA 6<|T_ed 2 [] [(41,.bool (p !=20))] ?_
  revert h;refine iO_ (λc10 h=>?_) (λc10 h=>?_)
  ·exact aK 41 (bne_eq_false_iff_eq.mpr c10)<|zz 0<|aB<|aB<|aN<|aE<|aA 13<|T_nr 3 [4,5] [vs lB lN lC,vT] hQ h
  refine aJ 41 (bne_iff_ne.mpr c10)<|T_kt<|T_bz 1<|aA 7<|T_nd 2 [41] [(43,vp b),(44,vu p)]<|T_c (some 45) h ?_;clear h
  rintro q H4 ⟨f,i,rfl,h⟩
  refine T_pd [43,44] [(45,.tuple #[vu f,vi i])]<|T_ed 5 [45] [(11,vu f),(12,vi i)]<|aA 8<|T_nd 2 [] [(49,vp b),(50,vu p)]<|T_c (some 51) h ?_;clear h
  rintro o H5 ⟨hv,g,rfl,h⟩
  refine T_pd [49,50] [(51,.tuple #[vu hv,vi g])]<|T_ed 5 [51] [(13,vu hv),(14,vi g)]<|T_sz<|aA 9 ?_
  refine fx [(0,vp b),(6,vs lB lN lC),(9,vu R),(11,vu f),(13,vu hv),(72,.bool ((((i !=0) || (g !=0)) || (decide ((lN:Int)>100000))) || (!((hv==20)==(p==R)))))] ?_ ?_
  ·refine aE ?_
   revert h;refine iO_ (λc18 h=>?_) (λc18 h=>?_)
   ·exact aJ 72 c18<|aA 10<|T_nr 2 [4,5] [vN,vF] hQ h
   refine aK 72 (zZ c18)<|T_kt<|aA 11<|T_n 2 [(0,vp b),(9,vu R),(13,vu hv),(73,vs lB lN lC),(74,vu f)]<|T_nw (some 75) (λe=>vs (pa e) 1 1) (.cells #[vu f] 28) ?_
   intro e H6 e20 e21
   replace h:=h e H6 e20 e21
   refine T_pd [74] [(75,vs (pa e) 1 1)]<|N_op (some 76) (fl #[32,32] 32 #[vs lB lN lC,vs (pa e) 1 1]) _ (λ_=>by kernel_rfl) (fd (T:=28) (sz:=1) (bytes:=8) (zero:=(vu 0:Value)) underlying32 underlying32 rfl (show prog.info? 28=some t28 from by kernel_rfl) (by kernel_rfl) (by kernel_rfl) (by decide) (by kernel_rfl) (by first | exact h | (simpa only[Value.cells,List.toList_toArray]using h))) ?_;clear h
   rintro _ H7 ⟨ap,k,rfl,h⟩
   exact T_pd [73,75] [(76,vs ap (lN+1) k)]<|T_ed 1 [76] [(6,vs ap (lN+1) k)]<|T_rz 12<|T_nd 2 [13] [(7,vu hv)]<|zq<|aD<|aE<|aT ((ap,(lN+1),k,hv):zW×Nat×Nat×Int) sk h
  intro hk
  refine T_n 3 [(0,vp b),(6,vs lB lN lC),(7,vu p),(9,vu R),(11,vu f),(13,vu hv),(14,vi g),(56,.bool (i !=0))] ?_
  by_cases c12:i=0
  ·have b13:(i !=0)=false:=bne_eq_false_iff_eq.mpr c12
   refine bT [(0,vp b),(6,vs lB lN lC),(7,vu p),(9,vu R),(11,vu f),(13,vu hv),(14,vi g),(56,vF)] (by rw[b13]) ?_
   refine T_nd 4 [14,56] [(60,.bool (g !=0))] ?_
   by_cases c14:g=0
   ·have b15:(g !=0)=false:=bne_eq_false_iff_eq.mpr c14
    refine N_bd 60 b15<|T_nd 5 [60] [(65,.bool (decide ((lN:Int)>100000)))] ?_
    by_cases c16:(lN:Int)>100000
    ·have b17:(decide ((lN:Int)>100000))=true:=zX c16
     refine N_bd 65 b17<|T_nd 7 [7,65] [(72,vT)] ?_
     refine zq<|S_bd 72 (b:=true) (v:=((((i !=0) || (g !=0)) || (decide ((lN:Int)>100000))) || (!((hv==20)==(p==R))))) (by simp only[b13,b15,b17,BL]) ?_
     exact hk
    have b17:(decide ((lN:Int)>100000))=false:=zQ c16
    refine N_bd 65 b17<|T_nd 7 [7,65] [(72,.bool (!((hv==20)==(p==R))))] ?_
    refine zq<|S_bd 72 (b:=(!((hv==20)==(p==R)))) (v:=((((i !=0) || (g !=0)) || (decide ((lN:Int)>100000))) || (!((hv==20)==(p==R))))) (by simp only[b13,b15,b17,BL]) ?_
    exact hk
   have b15:(g !=0)=true:=bne_iff_ne.mpr c14
   refine N_bd 60 b15<|T_nd 12 [7,60] [(72,vT)] ?_
   refine zq<|S_bd 72 (b:=true) (v:=((((i !=0) || (g !=0)) || (decide ((lN:Int)>100000))) || (!((hv==20)==(p==R))))) (by simp only[b13,b15,BL]) ?_
   exact hk
  have b13:(i !=0)=true:=bne_iff_ne.mpr c12
  refine bT [(0,vp b),(6,vs lB lN lC),(7,vu p),(9,vu R),(11,vu f),(13,vu hv),(14,vi g),(56,vT)] (by rw[b13]) ?_
  refine T_nd 16 [7,14,56] [(72,vT)]<|zq<|S_bd 72 (b:=true) (v:=((((i !=0) || (g !=0)) || (decide ((lN:Int)>100000))) || (!((hv==20)==(p==R))))) (by simp only[b13,BL]) ?_
  exact hk
 intro hk
 refine T_n 3 [(0,vp b),(6,vN),(7,vu ra),(9,vu R),(10,vi j),(29,.bool (rb !=0))] ?_
 by_cases c1:rb=0
 ·have b2:(rb !=0)=false:=bne_eq_false_iff_eq.mpr c1
  refine bT [(0,vp b),(6,vN),(7,vu ra),(9,vu R),(10,vi j),(29,vF)] (by rw[b2]) ?_
  refine T_nd 4 [10,29] [(33,.bool (j !=0))] ?_
  by_cases c3:j=0
  ·have b4:(j !=0)=false:=bne_eq_false_iff_eq.mpr c3
   refine N_bd 33 b4<|T_nd 6 [33] [(39,.bool (!((ra==20)==(R==20))))] ?_
   refine zq<|S_bd 39 (b:=(!((ra==20)==(R==20)))) (v:=(((rb !=0) || (j !=0)) || (!((ra==20)==(R==20))))) (by simp only[b2,b4,BL]) ?_
   exact hk
  have b4:(j !=0)=true:=bne_iff_ne.mpr c3
  refine N_bd 33 b4<|T_nd 6 [33] [(39,vT)] ?_
  refine zq<|S_bd 39 (b:=true) (v:=(((rb !=0) || (j !=0)) || (!((ra==20)==(R==20))))) (by simp only[b2,b4,BL]) ?_
  exact hk
 have b2:(rb !=0)=true:=bne_iff_ne.mpr c1
 refine bT [(0,vp b),(6,vN),(7,vu ra),(9,vu R),(10,vi j),(29,vT)] (by rw[b2]) ?_
 refine T_nd 10 [10,29] [(39,vT)]<|zq<|S_bd 39 (b:=true) (v:=(((rb !=0) || (j !=0)) || (!((ra==20)==(R==20))))) (by simp only[b2,BL]) ?_
 exact hk
end bP
/-! moraine/morainelaw12.awake -/
namespace bJ
def K0:=Func.code f9
end bJ
def bJ.pt(H:zV)(R:zj):Prop:=
 gG.C 40 H (λv H1=> ∃ra rb,v=.tuple #[vp ra,vi rb]/\
 if rb=0 then(
 eM ra (
 R vF H1) (λa=>
 ∀b H2,b=H1.size->H2=H1.push (.cells #[vu 20,vu 20] 28)->
 cY.C (some a) 10 0 (some (ad b)) 2 2 H2 (λah H3=> ∃o y,ah=.tuple #[vu o,vi y]/\
 cM.C (some a) 8 20 H3 (λau H4=> ∃n z,au=.tuple #[vu n,vi z]/\
 dI.C (some a) n 20 H4 (λao H5=> ∃q u,ao=.tuple #[vu q,vi u]/\
 eI.C (some a) 0 0 1 H5 (λal H6=> ∃d r,al=.tuple #[vp d,vi r]/\
 if r=0 then(
 aR.C d o H6 (λaj H7=> ∃x,aj=vu x/\
 aR.C d q H7 (λam H8=> ∃p,am=vu p/\
 bM.C d H8 (λ_ H9=>
 ∀t H10,t=H9.size->H10=H9.push (.cells #[vu n,vu x] 36)->
 dp.C d (some (ad t)) 1 1 H10 (λai ap=> ∃xB xN xC,ai=vs xB xN xC/\
 eP.C d ap (λ_ ag=>
 cx.C d ag (λ_ av=>
 dd.C (some a) x 10 0 av (λae aq=> ∃s m,ae=.tuple #[vu s,vi m]/\
 bY.C (some a) s aq (λaa an=> ∃f k,aa=.tuple #[vu f,vi k]/\
 bY.C (some a) p an (λab ak=> ∃e j,ab=.tuple #[vu e,vi j]/\
 bY.C (some a) e ak (λac af=> ∃i g,ac=.tuple #[vu i,vi g]/\
 R (.bool ((((((((xN:Int)==0) && (m==0)) && (k==0)) && (j==0)) && (f==e)) && (i==8)) && (g==0))) af)))))))))))
 else
 R vF H6))))))
 else
 R vF H1)
namespace bJ
set_option maxRecDepth 100000 in
theorem link(h:pt H a):C H a:=by
 refine T_en K0 124 func9 ?_
 intro w0 Q hQ
 unfold pt at h
 refine T_su []<|aA 0<|T_ne 1 []<|aA 1<|T_c (some 21) h ?_;clear h
 rintro v H1 ⟨ra,rb,rfl,h⟩
 refine⟨[(21,.tuple #[vp ra,vi rb])],pk,?_⟩
 refine T_ne 5 [(1,vp ra),(2,vi rb)]<|T_sz<|aA 2<|T_nd 3 [2] [(26,.bool (rb !=0))] ?_
 revert h;refine iO_ (λc1 h=>?_) (λc1 h=>?_)
 ·refine N_bd 26 (bne_eq_false_iff_eq.mpr c1)<|T_nd 1 [] [(27,vp ra)] ?_
  rcases ra with _ | R
  ·rw[onPtr_none]at h
   exact T_ne 2 [(1,vp none),(29,vT)]<|T_tz 29<|aA 3<|T_nr 1 [0] [vF] hQ h
  rw[onPtr_some]at h
  refine T_ne 2 [(1,vq R),(29,vF)]<|T_fz 29<|T_kt<|aA 4<|T_nd 1 [29] [(31,vq R)]<|T_nw (some 32) (λb=>vs (pa b) 2 2) (.cells #[vu 20,vu 20] 28) ?_
  intro b H2 e3 e4
  replace h:=h b H2 e3 e4
  refine T_pd [] [(32,vs (pa b) 2 2)]<|T_c (some 33) h ?_;clear h
  rintro ah H3 ⟨o,y,rfl,h⟩
  refine T_pd [31,32] [(33,.tuple #[vu o,vi y])]<|T_ed 5 [33] [(3,vu o)]<|aA 5<|T_nd 1 [] [(37,vq R)]<|T_c (some 38) h ?_;clear h
  rintro au H4 ⟨n,z,rfl,h⟩
  refine T_pd [37] [(38,.tuple #[vu n,vi z])]<|T_ed 5 [38] [(5,vu n)]<|aA 6<|T_nd 2 [] [(42,vq R),(43,vu n)]<|T_c (some 44) h ?_;clear h
  rintro ao H5 ⟨q,u,rfl,h⟩
  refine T_pd [42,43] [(44,.tuple #[vu q,vi u])]<|T_ed 5 [44] [(7,vu q)]<|aA 7<|T_nd 1 [] [(48,vq R)]<|T_c (some 49) h ?_;clear h
  rintro al H6 ⟨d,r,rfl,h⟩
  refine T_pd [48] [(49,.tuple #[vp d,vi r])]<|T_ed 5 [49] [(9,vp d),(10,vi r)]<|T_sz<|aA 8<|T_ed 2 [10] [(53,.bool (r !=0))] ?_
  revert h;refine iO_ (λc5 h=>?_) (λc5 h=>?_)
  ·refine aK 53 (bne_eq_false_iff_eq.mpr c5)<|T_kt<|aA 10<|T_nd 2 [3,53] [(54,vp d),(55,vu o)]<|T_c (some 56) h ?_;clear h
   rintro aj H7 ⟨x,rfl,h⟩
   refine T_pd [54,55] [(56,vu x)]<|T_nd 2 [7] [(57,vp d),(58,vu q)]<|T_c (some 59) h ?_;clear h
   rintro am H8 ⟨p,rfl,h⟩
   refine T_pd [57,58] [(59,vu p)]<|T_ed 2 [56,59] [(3,vu x),(7,vu p)]<|aA 11<|T_nd 1 [] [(60,vp d)]<|T_c (some 61) h ?_;clear h
   intro v_8 H9 h
   refine T_pd [60] []<|T_e<|aA 12<|T_nd 4 [5] [(62,vp d),(65,.agg #[vu n,vu x])]<|T_nw (some 66) (λb=>vs (pa b) 1 1) (.cells #[vu n,vu x] 36) ?_
   intro t H10 e7 e8
   replace h:=h t H10 e7 e8
   refine T_pd [65] [(66,vs (pa t) 1 1)]<|T_c (some 67) h ?_;clear h
   rintro ai ap ⟨xB,xN,xC,rfl,h⟩
   refine T_pd [62,66] [(67,vs xB xN xC)]<|T_ed 1 [67] [(11,vs xB xN xC)]<|aA 13<|T_nd 1 [] [(68,vp d)]<|T_c (some 69) h ?_;clear h
   intro v_10 ag h
   refine T_pd [68] []<|T_e<|aA 14<|T_nd 1 [9] [(70,vp d)]<|T_c (some 71) h ?_;clear h
   intro v_11 av h
   refine T_pd [70] []<|T_e<|aA 15<|T_nd 2 [3] [(73,vq R),(74,vu x)]<|T_c (some 75) h ?_;clear h
   rintro ae aq ⟨s,m,rfl,h⟩
   refine T_pd [73,74] [(75,.tuple #[vu s,vi m])]<|T_ed 5 [75] [(12,vu s),(13,vi m)]<|aA 16<|T_nd 2 [12] [(79,vq R),(80,vu s)]<|T_c (some 81) h ?_;clear h
   rintro aa an ⟨f,k,rfl,h⟩
   refine T_pd [79,80] [(81,.tuple #[vu f,vi k])]<|T_ed 5 [81] [(14,vu f),(15,vi k)]<|aA 17<|T_nd 2 [7] [(85,vq R),(86,vu p)]<|T_c (some 87) h ?_;clear h
   rintro ab ak ⟨e,j,rfl,h⟩
   refine T_pd [85,86] [(87,.tuple #[vu e,vi j])]<|T_ed 5 [87] [(16,vu e),(17,vi j)]<|aA 18<|T_nd 2 [1] [(91,vq R),(92,vu e)]<|T_c (some 93) h ?_;clear h
   rintro ac af ⟨i,g,rfl,h⟩
   refine T_pd [91,92] [(93,.tuple #[vu i,vi g])]<|T_ed 5 [93] [(18,vu i),(19,vi g)]<|aA 19 ?_
   refine fx [(0,.bool ((((((((xN:Int)==0) && (m==0)) && (k==0)) && (j==0)) && (f==e)) && (i==8)) && (g==0)))] ?_ ?_
   ·exact aE<|fB [0] [.bool ((((((((xN:Int)==0) && (m==0)) && (k==0)) && (j==0)) && (f==e)) && (i==8)) && (g==0))] hQ h
   intro hk
   refine T_n 4 [(13,vi m),(14,vu f),(15,vi k),(16,vu e),(17,vi j),(18,vu i),(19,vi g),(99,.bool ((xN:Int)==0))] ?_
   by_cases c9:(xN:Int)=0
   ·have b10:((xN:Int)==0)=true:=zK c9
    refine bT [(13,vi m),(14,vu f),(15,vi k),(16,vu e),(17,vi j),(18,vu i),(19,vi g),(99,vT)] (by rw[b10]) ?_
    refine T_nd 4 [13,99] [(103,.bool (m==0))] ?_
    by_cases c11:m=0
    ·have b12:(m==0)=true:=zK c11
     refine N_bd 103 b12<|T_nd 4 [15,103] [(107,.bool (k==0))] ?_
     by_cases c13:k=0
     ·have b14:(k==0)=true:=zK c13
      refine N_bd 107 b14<|T_nd 4 [17,107] [(111,.bool (j==0))] ?_
      by_cases c15:j=0
      ·have b16:(j==0)=true:=zK c15
       refine N_bd 111 b16<|T_nd 5 [14,16,111] [(116,.bool (f==e))] ?_
       by_cases c17:f=e
       ·have b18:(f==e)=true:=zK c17
        refine N_bd 116 b18<|T_n 4 [(19,vi g),(120,.bool (i==8))] ?_
        by_cases c19:i=8
        ·have b20:(i==8)=true:=zK c19
         refine bT [(19,vi g),(120,vT)] (by rw[b20]) ?_
         refine T_n 4 [(0,.bool (g==0))]<|zq<|fc [(0,.bool ((((((((xN:Int)==0) && (m==0)) && (k==0)) && (j==0)) && (f==e)) && (i==8)) && (g==0)))] (by simp only[b10,b12,b14,b16,b18,b20,BL]) ?_
         exact hk
        have b20:(i==8)=false:=zJ c19
        refine bT [(19,vi g),(120,vF)] (by rw[b20]) ?_
        refine T_n 4 [(0,vF)]<|zq<|fc [(0,.bool ((((((((xN:Int)==0) && (m==0)) && (k==0)) && (j==0)) && (f==e)) && (i==8)) && (g==0)))] (by simp only[b10,b12,b14,b16,b18,b20,BL]) ?_
        exact hk
       have b18:(f==e)=false:=zJ c17
       refine N_bd 116 b18<|T_n 8 [(0,vF)] ?_
       refine zq<|fc [(0,.bool ((((((((xN:Int)==0) && (m==0)) && (k==0)) && (j==0)) && (f==e)) && (i==8)) && (g==0)))] (by simp only[b10,b12,b14,b16,b18,BL]) ?_
       exact hk
      have b16:(j==0)=false:=zJ c15
      refine N_bd 111 b16<|T_n 13 [(0,vF)] ?_
      refine zq<|fc [(0,.bool ((((((((xN:Int)==0) && (m==0)) && (k==0)) && (j==0)) && (f==e)) && (i==8)) && (g==0)))] (by simp only[b10,b12,b14,b16,BL]) ?_
      exact hk
     have b14:(k==0)=false:=zJ c13
     refine N_bd 107 b14<|T_n 17 [(0,vF)] ?_
     refine zq<|fc [(0,.bool ((((((((xN:Int)==0) && (m==0)) && (k==0)) && (j==0)) && (f==e)) && (i==8)) && (g==0)))] (by simp only[b10,b12,b14,BL]) ?_
     exact hk
    have b12:(m==0)=false:=zJ c11
    refine N_bd 103 b12<|T_n 21 [(0,vF)] ?_
    refine zq<|fc [(0,.bool ((((((((xN:Int)==0) && (m==0)) && (k==0)) && (j==0)) && (f==e)) && (i==8)) && (g==0)))] (by simp only[b10,b12,BL]) ?_
    exact hk
   have b10:((xN:Int)==0)=false:=zJ c9
   refine bT [(13,vi m),(14,vu f),(15,vi k),(16,vu e),(17,vi j),(18,vu i),(19,vi g),(99,vF)] (by rw[b10]) ?_
   refine T_n 25 [(0,vF)]<|zq<|fc [(0,.bool ((((((((xN:Int)==0) && (m==0)) && (k==0)) && (j==0)) && (f==e)) && (i==8)) && (g==0)))] (by simp only[b10,BL]) ?_
   exact hk
  exact aJ 53 (bne_iff_ne.mpr c5)<|aA 9<|T_nr 1 [0] [vF] hQ h
 exact N_bd 26 (bne_iff_ne.mpr c1)<|T_ed 3 [26] [(29,vT)]<|T_tz 29<|aA 3<|T_nr 1 [0] [vF] hQ h
end bJ
/-! moraine/morainelaw12.WeakOrder -/
namespace bL
def K0:=Func.code f3
def K2:=cb K0
def K4:=cb K2
def K6:=cb K4
def K14:=cb K6
def K16:=cb K14
def K18:=cb K16
def K20:=cb K18
def K21:=ca K20
def K22:=cb K20
def K24:=cb K21
def K25:=ca K24
def K26:=ca K25
def K46:=ca K22
def K49:=cb K46
def K50:=ca K49
def K51:=ca K50
def K53:=cb K51
def K58:=ca K53
def K60:=ca K58
def K62:=cb K60
def K64:=cb K62
def K70:=cb K64
def K72:=cb K70
def K74:=cb K72
def K76:=cb K74
def K78:=cb K76
def K80:=cb K78
def K87:=ca K80
def K88:=cb K80
def K90:=cb K87
def K91:=ca K90
def K92:=ca K91
def K111:=cb K88
def K112:=ca K111
def K113:=ca K112
end bL
def bL.pt(d e:Int)(H:zV)(R:zj):Prop:=
 gG.C 300 H (λv H1=> ∃ra rb,v=.tuple #[vp ra,vi rb]/\
 if(((rb !=0) || (decide (d<0))) || (decide (d>300)))=true then(
 ∃J:Bool->zV->Prop,(
 if rb=0 then(
 bJ.C H1 (λbr H3=> ∃x,br=.bool x/\
 J x H3))
 else
 J false H1)/\ ∀s4 H2,J s4 H2->
 R (.bool s4) H2)
 else
 ∀b H4,b=H1.size->H4=H1.push (.cells #[vu 20,vu 20] 28)->
 cY.C ra 10 0 (some (ad b)) 2 2 H4 (λbu H5=> ∃n a8,bu=.tuple #[vu n,vi a8]/\
 ∃(a4:Int->zW->Nat->Nat->zW->Nat->Nat->zW->Nat->Nat->zk) (m27:Int->zW->Nat->Nat->zW->Nat->Nat->zW->Nat->Nat->Int->zV->Nat),a4 20 none 0 0 none 0 0 none 0 0 0 H5/\ ∀z entriesB entriesN entriesC lostB lostN lostC stayB stayN stayC i H6,a4 z entriesB entriesN entriesC lostB lostN lostC stayB stayN stayC i H6->
 if i<d then(
 cM.C ra (ishl .u64 (IntKind.wrap .u64 i) 3) 20 H6 (λbq H7=> ∃af a9,bq=.tuple #[vu af,vi a9]/\
 ∀a0 H8,a0=H7.size->H8=H7.push (.cells #[vu af,vu n] 36)->
 fy 2 36 16 [vu 0,vu 0] entriesB entriesN entriesC (some (ad a0)) 1 H8 (λap ac H9=>
 (0<=(Int.tmod i 64))/\
 if(iand .u64 (ishr .u64 e (Int.tmod i 64)) 1)=1 then(
 cM.C ra af z H9 (λbs be=> ∃ai ba,bs=.tuple #[vu ai,vi ba]/\
 ∀a2 H11,a2=be.size->H11=be.push (.cells #[vu (ishl .u64 (IntKind.wrap .u64 i) 3)] 28)->
 fy 1 28 8 [vu 0] stayB stayN stayC (some (ad a2)) 1 H11 (λan ak bf=>
 (a4 ai ap (entriesN+1) ac lostB lostN lostC an (stayN+1) ak (zY (i+1)) bf/\m27 ai ap (entriesN+1) ac lostB lostN lostC an (stayN+1) ak (zY (i+1)) bf<m27 z entriesB entriesN entriesC lostB lostN lostC stayB stayN stayC i H6))))
 else
 ∀a3 H13,a3=H9.size->H13=H9.push (.cells #[vu (ishl .u64 (IntKind.wrap .u64 i) 3)] 28)->
 fy 1 28 8 [vu 0] lostB lostN lostC (some (ad a3)) 1 H13 (λao am bm=>
 (a4 z ap (entriesN+1) ac ao (lostN+1) am stayB stayN stayC (zY (i+1)) bm/\m27 z ap (entriesN+1) ac ao (lostN+1) am stayB stayN stayC (zY (i+1)) bm<m27 z entriesB entriesN entriesC lostB lostN lostC stayB stayN stayC i H6)))))
 else
 ∃(a7:Int->Int->zW->Nat->Nat->zk) (m52:Int->Int->zW->Nat->Nat->Int->zV->Nat),a7 n z entriesB entriesN entriesC 0 H6/\ ∀m row_2 entriesB_2 entriesN_2 entriesC_2 nv H15,a7 m row_2 entriesB_2 entriesN_2 entriesC_2 nv H15->
 if nv<2 then(
 eI.C ra nv (zY (nv+1)) 11 H15 (λbz bi=> ∃r al,bz=.tuple #[vp r,vi al]/\
 if al=0 then(
 aR.C r m bi (λbo bn=> ∃f,bo=vu f/\
 aR.C r row_2 bn (λb0 bp=> ∃g,b0=vu g/\
 bM.C r bp (λ_ b1=>
 dp.C r entriesB_2 entriesN_2 entriesC_2 b1 (λbd bt=> ∃xB xN xC,bd=vs xB xN xC/\
 cx.C r bt (λ_ bx=>
 bP.C ra f bx (λbk bl=> ∃ab o s ag,bk=.tuple #[vs ab o s,.bool ag]/\
 if(((!ag) || ((o:Int) !=(lostN:Int))) || ((xN:Int) !=(stayN:Int)))=true then(
 R vF bl)
 else
 ∃(a6:zk) (m93:Int->zV->Nat),a6 0 bl/\ ∀p H23,a6 p H23->
 if p< (o:Int)then(
 ∃ae,ab=some ae/\
 zv p o/\
 ∃a1,hat H23 (ae.add (Int.toNat p*1))=some (vu a1)/\
 bY.C ra a1 H23 (λbh a5=> ∃ah bc,bh=.tuple #[vu ah,vi bc]/\
 ∃aa,lostB=some aa/\
 zv p lostN/\
 ∃au,hat a5 (aa.add (Int.toNat p*1))=some (vu au)/\
 if ah=au then(
 (a6 (zY (p+1)) a5/\m93 (zY (p+1)) a5<m93 p H23))
 else
 R vF a5))
 else
 ∃(aw:zk) (m114:Int->zV->Nat),aw 0 H23/\ ∀j H25,aw j H25->
 if j< (stayN:Int)then(
 ∃u,xB=some u/\
 zv j xN/\
 ∃az,hat H25 (u.add (Int.toNat j*2))=some (vu az)/\
 bY.C ra az H25 (λbg ax=> ∃aj bb,bg=.tuple #[vu aj,vi bb]/\
 ∃q,stayB=some q/\
 zv j stayN/\
 ∃av,hat ax (q.add (Int.toNat j*1))=some (vu av)/\
 if aj=av then(
 zv j xN/\
 ∃aq,hat ax ((u.add (Int.toNat j*2)).add 1)=some (vu aq)/\
 if aq=f then(
 (aw (zY (j+1)) ax/\m114 (zY (j+1)) ax<m114 j H25))
 else
 R vF ax)
 else
 R vF ax))
 else
 (a7 f g xB xN xC (zY (nv+1)) H25/\m52 f g xB xN xC (zY (nv+1)) H25<m52 m row_2 entriesB_2 entriesN_2 entriesC_2 nv H15))))))))
 else
 R vF bi))
 else
 bJ.C H15 (λbj bw=> ∃ay,bj=.bool ay/\
 R (.bool ay) bw)))
namespace bL
theorem link(h:pt d g H a):C d g H a:=by
 refine T_en K0 198 func3 ?_
 intro w0 Q hQ
 unfold pt zY at h
 refine T_su [(0,vi d),(1,vu g)]<|aA 0<|T_ed 1 [] []<|aA 1<|T_c (some 28) h ?_;clear h
 rintro v H1 ⟨ra,rb,rfl,h⟩
 refine T_pd [] [(28,.tuple #[vp ra,vi rb])]<|T_ed 5 [28] [(5,vp ra),(6,vi rb)]<|T_sz<|aA 2 ?_
 refine fx [(0,vi d),(1,vu g),(5,vp ra),(6,vi rb),(40,.bool (((rb !=0) || (decide (d<0))) || (decide (d>300))))] ?_ ?_
 ·refine aE ?_
  revert h;refine iO_ (λc5 h=>?_) (λc5 h=>?_)
  ·refine aJ 40 c5<|T_sz ?_
   obtain⟨J,h,j8⟩:=h
   refine pD (σ:=Bool) (λs_=> [(4,.bool s_)]) (λs_ H=>J s_ H) ?_ ?_
   ·rintro s4 H2 j9
    replace h:=j8 s4 H2 j9
    exact T_su [(4,.bool s4)]<|aE<|fB [4] [.bool s4] hQ h
   refine T_rz 3<|T_n 3 [(43,.bool (rb==0))] ?_
   revert h;refine iO_ (λc10 h=>?_) (λc10 h=>?_)
   ·have b11:(rb==0)=true:=zK c10
    refine bT [(43,vT)] (by rw[b11]) ?_
    clear b11
    refine T_c (some 44) h ?_;clear h
    rintro br H3 ⟨x,rfl,h⟩
    exact T_pd [] [(44,.bool x)]<|T_ne 2 [(4,.bool x)]<|mo (x:Bool) sk h
   have b11:(rb==0)=false:=zJ c10
   refine bT [(43,vF)] (by rw[b11]) ?_
   clear b11
   exact T_ne 3 [(4,vF)]<|mo (false:Bool) sk h
  refine aK 40 (zZ c5)<|T_kt<|aA 4<|T_n 1 [(0,vi d),(1,vu g),(5,vp ra),(47,vp ra)]<|T_nw (some 48) (λb=>vs (pa b) 2 2) (.cells #[vu 20,vu 20] 28) ?_
  intro b H4 e12 e13
  replace h:=h b H4 e12 e13
  refine T_pd [] [(48,vs (pa b) 2 2)]<|T_c (some 49) h ?_;clear h
  rintro bu H5 ⟨n,a8,rfl,h⟩
  refine T_pd [47,48] [(49,.tuple #[vu n,vi a8])]<|T_ed 5 [49] [(7,vu n)]<|aA 5<|T_ed 1 [] [(9,vu 20)]<|aA 6<|T_ed 1 [] [(10,vN)]<|aA 7<|T_ed 2 [] [(11,vN),(12,vN)]<|T_sz<|aA 8<|T_ed 1 [] [(13,vi 0)]<|T_bz 0 ?_
  obtain⟨a4,m27,i14,i15⟩:=h
  refine cX (x:=K26) (σ:=Int×zW×Nat×Nat×zW×Nat×Nat×zW×Nat×Nat×Int) (λs_=> [(0,vi d),(1,vu g),(5,vp ra),(7,vu n),(9,vu s_.1),(10,vs s_.2.1 s_.2.2.1 s_.2.2.2.1),(11,vs s_.2.2.2.2.1 s_.2.2.2.2.2.1 s_.2.2.2.2.2.2.1),(12,vs s_.2.2.2.2.2.2.2.1 s_.2.2.2.2.2.2.2.2.1 s_.2.2.2.2.2.2.2.2.2.1),(13,vi s_.2.2.2.2.2.2.2.2.2.2)]) (λs_ H=>a4 s_.1 s_.2.1 s_.2.2.1 s_.2.2.2.1 s_.2.2.2.2.1 s_.2.2.2.2.2.1 s_.2.2.2.2.2.2.1 s_.2.2.2.2.2.2.2.1 s_.2.2.2.2.2.2.2.2.1 s_.2.2.2.2.2.2.2.2.2.1 s_.2.2.2.2.2.2.2.2.2.2 H) (λs_ H=>m27 s_.1 s_.2.1 s_.2.2.1 s_.2.2.2.1 s_.2.2.2.2.1 s_.2.2.2.2.2.1 s_.2.2.2.2.2.2.1 s_.2.2.2.2.2.2.2.1 s_.2.2.2.2.2.2.2.2.1 s_.2.2.2.2.2.2.2.2.2.1 s_.2.2.2.2.2.2.2.2.2.2 H) ((20,none,0,0,none,0,0,none,0,0,0):Int×zW×Nat×Nat×zW×Nat×Nat×zW×Nat×Nat×Int) (by kernel_rfl) i14 sk ?_
  rintro⟨z,entriesB,entriesN,entriesC,lostB,lostN,lostC,stayB,stayN,stayC,i⟩ H6 i16
  have h:=i15 z entriesB entriesN entriesC lostB lostN lostC stayB stayN stayC i H6 i16
  refine T_su [(0,vi d),(1,vu g),(5,vp ra),(7,vu n),(9,vu z),(10,vs entriesB entriesN entriesC),(11,vs lostB lostN lostC),(12,vs stayB stayN stayC),(13,vi i)]<|T_sz<|aA 9<|T_ed 3 [] [(54,.bool (decide (i<d)))] ?_
  revert h;refine iO_ (λc17 h=>?_) (λc17 h=>?_)
  ·refine aJ 54 (zX c17)<|T_kt<|T_sz<|T_bz 1<|aA 11<|T_nd 4 [54] [(58,vp ra),(61,vu (ishl .u64 (IntKind.wrap .u64 i) 3))]<|T_c (some 62) h ?_;clear h
   rintro bq H7 ⟨af,a9,rfl,h⟩
   refine T_pd [58,61] [(62,.tuple #[vu af,vi a9])]<|T_ed 5 [62] [(14,vu af)]<|aA 12<|T_nd 4 [10] [(65,vs entriesB entriesN entriesC),(68,.agg #[vu af,vu n])]<|T_nw (some 69) (λb=>vs (pa b) 1 1) (.cells #[vu af,vu n] 36) ?_
   intro a0 H8 e19 e20
   replace h:=h a0 H8 e19 e20
   refine T_pd [68] [(69,vs (pa a0) 1 1)]<|N_op (some 70) (fl #[31,31] 31 #[vs entriesB entriesN entriesC,vs (pa a0) 1 1]) _ (λ_=>by kernel_rfl) (fd (T:=36) (sz:=2) (bytes:=16) (zero:=(.agg #[vu 0,vu 0]:Value)) underlying31 underlying31 rfl (show prog.info? 36=some t36 from by kernel_rfl) (by kernel_rfl) (by kernel_rfl) (by decide) (by kernel_rfl) (by first | exact h | (simpa only[Value.cells,List.toList_toArray]using h))) ?_;clear h
   rintro _ H9 ⟨ap,ac,rfl,h⟩
   refine T_pd [65,69] [(70,vs ap (entriesN+1) ac)]<|T_ed 1 [70] [(10,vs ap (entriesN+1) ac)]<|aA 13<|T_nd 3 [] [(71,vu g),(73,vi (Int.tmod i 64))] ?_
   obtain⟨q21,h⟩:=h
   refine T_v1 74 (binN .shr 22 (vu g) (vi (Int.tmod i 64))) (vu (ishr .u64 g (Int.tmod i 64))) (λw _=>ow (P:=prog) (t:=22) (k:=.u64) (k':=.i64) (x:=g) (y:=(Int.tmod i 64)) q21 w) [71,73]<|T_ed 2 [74] [(76,.bool ((iand .u64 (ishr .u64 g (Int.tmod i 64)) 1)==1))] ?_
   revert h;refine iO_ (λc22 h=>?_) (λc22 h=>?_)
   ·refine aJ 76 (zK c22)<|aA 14<|T_nd 3 [9,14,76] [(78,vp ra),(79,vu af),(80,vu z)]<|T_c (some 81) h ?_;clear h
    rintro bs be ⟨ai,ba,rfl,h⟩
    refine T_pd [78,79,80] [(81,.tuple #[vu ai,vi ba])]<|T_ed 4 [81] [(9,vu ai)]<|T_rz 15<|T_nd 4 [12] [(84,vs stayB stayN stayC),(87,vu (ishl .u64 (IntKind.wrap .u64 i) 3))]<|T_nw (some 88) (λb=>vs (pa b) 1 1) (.cells #[vu (ishl .u64 (IntKind.wrap .u64 i) 3)] 28) ?_
    intro a2 H11 e24 e25
    replace h:=h a2 H11 e24 e25
    refine T_pd [87] [(88,vs (pa a2) 1 1)]<|N_op (some 89) (fl #[32,32] 32 #[vs stayB stayN stayC,vs (pa a2) 1 1]) _ (λ_=>by kernel_rfl) (fd (T:=28) (sz:=1) (bytes:=8) (zero:=(vu 0:Value)) underlying32 underlying32 rfl (show prog.info? 28=some t28 from by kernel_rfl) (by kernel_rfl) (by kernel_rfl) (by decide) (by kernel_rfl) (by first | exact h | (simpa only[Value.cells,List.toList_toArray]using h))) ?_;clear h
    rintro _ bf ⟨an,ak,rfl,h⟩
    exact T_pd [84,88] [(89,vs an (stayN+1) ak)]<|T_nd 1 [89] [(12,vs an (stayN+1) ak)]<|zq<|aD<|aE<|T_rz 10<|T_ed 3 [13] [(13,vi (zY (i+1)))]<|aT ((ai,ap,(entriesN+1),ac,lostB,lostN,lostC,an,(stayN+1),ak,(zY (i+1))):Int×zW×Nat×Nat×zW×Nat×Nat×zW×Nat×Nat×Int) sk h
   refine aK 76 (zJ c22)<|T_rz 16<|T_nd 4 [11,14,76] [(90,vs lostB lostN lostC),(93,vu (ishl .u64 (IntKind.wrap .u64 i) 3))]<|T_nw (some 94) (λb=>vs (pa b) 1 1) (.cells #[vu (ishl .u64 (IntKind.wrap .u64 i) 3)] 28) ?_
   intro a3 H13 e26 e27
   replace h:=h a3 H13 e26 e27
   refine T_pd [93] [(94,vs (pa a3) 1 1)]<|N_op (some 95) (fl #[32,32] 32 #[vs lostB lostN lostC,vs (pa a3) 1 1]) _ (λ_=>by kernel_rfl) (fd (T:=28) (sz:=1) (bytes:=8) (zero:=(vu 0:Value)) underlying32 underlying32 rfl (show prog.info? 28=some t28 from by kernel_rfl) (by kernel_rfl) (by kernel_rfl) (by decide) (by kernel_rfl) (by first | exact h | (simpa only[Value.cells,List.toList_toArray]using h))) ?_;clear h
   rintro _ bm ⟨ao,am,rfl,h⟩
   exact T_pd [90,94] [(95,vs ao (lostN+1) am)]<|T_nd 1 [95] [(11,vs ao (lostN+1) am)]<|zq<|aD<|aE<|T_rz 10<|T_ed 3 [13] [(13,vi (zY (i+1)))]<|aT ((z,ap,(entriesN+1),ac,ao,(lostN+1),am,stayB,stayN,stayC,(zY (i+1))):Int×zW×Nat×Nat×zW×Nat×Nat×zW×Nat×Nat×Int) sk h
  refine aK 54 (zQ c17)<|zz 0<|aB<|aB<|aN<|aE<|T_sz<|aA 17<|T_ed 1 [0,1,13,54] [(16,vi 0)]<|T_bz 2 ?_
  obtain⟨a7,m52,i28,i29⟩:=h
  refine cX (x:=K51) (σ:=Int×Int×zW×Nat×Nat×Int) (λs_=> [(5,vp ra),(7,vu s_.1),(9,vu s_.2.1),(10,vs s_.2.2.1 s_.2.2.2.1 s_.2.2.2.2.1),(11,vs lostB lostN lostC),(12,vs stayB stayN stayC),(16,vi s_.2.2.2.2.2)]) (λs_ H=>a7 s_.1 s_.2.1 s_.2.2.1 s_.2.2.2.1 s_.2.2.2.2.1 s_.2.2.2.2.2 H) (λs_ H=>m52 s_.1 s_.2.1 s_.2.2.1 s_.2.2.2.1 s_.2.2.2.2.1 s_.2.2.2.2.2 H) ((n,z,entriesB,entriesN,entriesC,0):Int×Int×zW×Nat×Nat×Int) (by kernel_rfl) i28 sk ?_
  rintro⟨m,row_2,entriesB_2,entriesN_2,entriesC_2,nv⟩ H15 i30
  have h:=i29 m row_2 entriesB_2 entriesN_2 entriesC_2 nv H15 i30
  refine T_su [(5,vp ra),(7,vu m),(9,vu row_2),(10,vs entriesB_2 entriesN_2 entriesC_2),(11,vs lostB lostN lostC),(12,vs stayB stayN stayC),(16,vi nv)]<|T_sz<|aA 18<|T_ed 2 [] [(97,.bool (decide (nv<2)))] ?_
  revert h;refine iO_ (λc31 h=>?_) (λc31 h=>?_)
  ·refine aJ 97 (zX c31)<|T_kt<|T_sz<|T_bz 3<|aA 20<|T_nd 4 [97] [(101,vp ra),(102,vi nv),(104,vi (zY (nv+1)))]<|T_c (some 105) h ?_;clear h
   rintro bz bi ⟨r,al,rfl,h⟩
   refine T_pd [101,102,104] [(105,.tuple #[vp r,vi al])]<|T_ed 5 [105] [(17,vp r),(18,vi al)]<|T_sz<|aA 21<|T_ed 2 [18] [(109,.bool (al !=0))] ?_
   revert h;refine iO_ (λc33 h=>?_) (λc33 h=>?_)
   ·refine aK 109 (bne_eq_false_iff_eq.mpr c33)<|T_kt<|aA 23<|T_nd 2 [7,109] [(110,vp r),(111,vu m)]<|T_c (some 112) h ?_;clear h
    rintro bo bn ⟨f,rfl,h⟩
    refine T_pd [110,111] [(112,vu f)]<|T_nd 2 [9] [(113,vp r),(114,vu row_2)]<|T_c (some 115) h ?_;clear h
    rintro b0 bp ⟨R,rfl,h⟩
    refine T_pd [113,114] [(115,vu R)]<|T_ed 2 [112,115] [(7,vu f),(9,vu R)]<|aA 24<|T_nd 1 [] [(116,vp r)]<|T_c (some 117) h ?_;clear h
    intro v_9 b1 h
    refine T_pd [116] []<|T_e<|aA 25<|T_nd 2 [10] [(118,vp r),(119,vs entriesB_2 entriesN_2 entriesC_2)]<|T_c (some 120) h ?_;clear h
    rintro bd bt ⟨xB,xN,xC,rfl,h⟩
    refine T_pd [118,119] [(120,vs xB xN xC)]<|T_ed 1 [120] [(10,vs xB xN xC)]<|aA 26<|T_nd 1 [17] [(121,vp r)]<|T_c (some 122) h ?_;clear h
    intro v_11 bx h
    refine T_pd [121] []<|T_e<|aA 27<|T_nd 2 [] [(124,vp ra),(125,vu f)]<|T_c (some 126) h ?_;clear h
    rintro bk bl ⟨ab,o,s,ag,rfl,h⟩
    refine T_pd [124,125] [(126,.tuple #[vs ab o s,.bool ag])]<|T_ed 5 [126] [(19,vs ab o s),(20,.bool ag)]<|T_sz<|aA 28 ?_
    refine fx [(5,vp ra),(7,vu f),(9,vu R),(10,vs xB xN xC),(11,vs lostB lostN lostC),(12,vs stayB stayN stayC),(16,vi nv),(19,vs ab o s),(144,.bool (((!ag) || ((o:Int) !=(lostN:Int))) || ((xN:Int) !=(stayN:Int))))] ?_ ?_
    ·refine aE ?_
     revert h;refine iO_ (λc39 h=>?_) (λc39 h=>?_)
     ·exact aJ 144 c39<|aA 29<|T_nr 1 [4] [vF] hQ h
     refine aK 144 (zZ c39)<|T_kt<|T_sz<|aA 30<|T_ne 1 [(5,vp ra),(7,vu f),(9,vu R),(10,vs xB xN xC),(11,vs lostB lostN lostC),(12,vs stayB stayN stayC),(16,vi nv),(19,vs ab o s),(21,vi 0)]<|T_bz 4 ?_
     obtain⟨a6,m93,i41,i42⟩:=h
     refine cX (x:=K92) (σ:=Int) (λs_=> [(5,vp ra),(7,vu f),(9,vu R),(10,vs xB xN xC),(11,vs lostB lostN lostC),(12,vs stayB stayN stayC),(16,vi nv),(19,vs ab o s),(21,vi s_)]) (λs_ H=>a6 s_ H) (λs_ H=>m93 s_ H) (0:Int) (by kernel_rfl) i41 sk ?_
     rintro p H23 i43
     have h:=i42 p H23 i43
     refine T_su [(5,vp ra),(7,vu f),(9,vu R),(10,vs xB xN xC),(11,vs lostB lostN lostC),(12,vs stayB stayN stayC),(16,vi nv),(19,vs ab o s),(21,vi p)]<|T_sz<|aA 31<|T_ed 4 [] [(148,.bool (decide (p< (o:Int))))] ?_
     revert h;refine iO_ (λc44 h=>?_) (λc44 h=>?_)
     ·refine aJ 148 (zX c44)<|T_kt<|T_sz<|T_bz 5<|aA 33<|T_nd 3 [148] [(152,vp ra),(153,vs ab o s),(154,vi p)] ?_
      obtain⟨ae,rfl,q46,h⟩:=h
      refine T_xd (some 155) 32 28 1 ae o s .i64 p underlying32 q46.1 q46.2 [19,153,154] [(19,vs (some ae) o s),(155,vq (ae.add (Int.toNat p*1)))] ?_
      obtain⟨a1,q47,h⟩:=h
      refine T_l1 156 28 q47 [155]<|T_c (some 157) h ?_;clear h
      rintro bh a5 ⟨ah,bc,rfl,h⟩
      refine T_pd [152,156] [(157,.tuple #[vu ah,vi bc])]<|T_ed 5 [157] [(22,vu ah)]<|aA 34<|T_nd 3 [22] [(160,vu ah),(161,vs lostB lostN lostC),(162,vi p)] ?_
      obtain⟨aa,rfl,q48,h⟩:=h
      refine T_xd (some 163) 32 28 1 aa lostN lostC .i64 p underlying32 q48.1 q48.2 [11,161,162] [(11,vs (some aa) lostN lostC),(163,vq (aa.add (Int.toNat p*1)))] ?_
      obtain⟨au,q49,h⟩:=h
      refine T_l1 164 28 q49 [163]<|T_ed 1 [160,164] [(165,.bool (ah !=au))] ?_
      revert h;refine iO_ (λc50 h=>?_) (λc50 h=>?_)
      ·exact aK 165 (bne_eq_false_iff_eq.mpr c50)<|T_k<|aD<|aE<|T_rz 32<|T_ed 3 [21,165] [(21,vi (zY (p+1)))]<|aT ((zY (p+1)):Int) sk h
      exact aJ 165 (bne_iff_ne.mpr c50)<|aA 35<|T_nr 1 [4] [vF] hQ h
     refine aK 148 (zQ c44)<|zz 4<|aB<|aB<|aN<|aE<|aA 36<|T_ed 1 [19,21,148] [(24,vi 0)]<|T_bz 6 ?_
     obtain⟨aw,m114,i52,i53⟩:=h
     refine cX (x:=K113) (σ:=Int) (λs_=> [(5,vp ra),(7,vu f),(9,vu R),(10,vs xB xN xC),(11,vs lostB lostN lostC),(12,vs stayB stayN stayC),(16,vi nv),(24,vi s_)]) (λs_ H=>aw s_ H) (λs_ H=>m114 s_ H) (0:Int) (by kernel_rfl) i52 sk ?_
     rintro j H25 i54
     have h:=i53 j H25 i54
     refine T_su [(5,vp ra),(7,vu f),(9,vu R),(10,vs xB xN xC),(11,vs lostB lostN lostC),(12,vs stayB stayN stayC),(16,vi nv),(24,vi j)]<|T_sz<|aA 37<|T_ed 4 [] [(169,.bool (decide (j< (stayN:Int))))] ?_
     revert h;refine iO_ (λc55 h=>?_) (λc55 h=>?_)
     ·refine aJ 169 (zX c55)<|T_kt<|T_sz<|T_bz 7<|aA 39<|T_nd 3 [169] [(173,vp ra),(174,vs xB xN xC),(175,vi j)] ?_
      obtain⟨u,rfl,q57,h⟩:=h
      refine T_xd (some 176) 31 36 2 u xN xC .i64 j underlying31 q57.1 q57.2 [10,174,175] [(10,vs (some u) xN xC),(176,vq (u.add (Int.toNat j*2)))]<|T_nd 1 [176] [(177,vq (u.add (Int.toNat j*2)))] ?_
      obtain⟨az,q58,h⟩:=h
      refine T_l1 178 28 q58 [177]<|T_c (some 179) h ?_;clear h
      rintro bg ax ⟨aj,bb,rfl,h⟩
      refine T_pd [173,178] [(179,.tuple #[vu aj,vi bb])]<|T_ed 5 [179] [(25,vu aj)]<|aA 40<|T_nd 3 [25] [(182,vu aj),(183,vs stayB stayN stayC),(184,vi j)] ?_
      obtain⟨q,rfl,q59,h⟩:=h
      refine T_xd (some 185) 32 28 1 q stayN stayC .i64 j underlying32 q59.1 q59.2 [12,183,184] [(12,vs (some q) stayN stayC),(185,vq (q.add (Int.toNat j*1)))] ?_
      obtain⟨av,q60,h⟩:=h
      refine T_l1 186 28 q60 [185]<|T_nd 2 [182,186] [(188,.bool (aj !=av))] ?_
      revert h;refine iO_ (λc61 h=>?_) (λc61 h=>?_)
      ·refine N_bd 188 (bne_eq_false_iff_eq.mpr c61)<|T_nd 2 [] [(189,vs (some u) xN xC),(190,vi j)] ?_
       obtain⟨q63,h⟩:=h
       refine T_xd (some 191) 31 36 2 u xN xC .i64 j underlying31 q63.1 q63.2 [189,190] [(191,vq (u.add (Int.toNat j*2)))]<|T_nd 1 [191] [(192,vq ((u.add (Int.toNat j*2)).add 1))] ?_
       obtain⟨aq,q64,h⟩:=h
       refine T_l1 193 28 q64 [192]<|T_ed 3 [188,193] [(196,.bool (aq !=f))] ?_
       revert h;refine iO_ (λc65 h=>?_) (λc65 h=>?_)
       ·exact aK 196 (bne_eq_false_iff_eq.mpr c65)<|T_k<|aD<|aE<|T_rz 38<|T_ed 3 [24,196] [(24,vi (zY (j+1)))]<|aT ((zY (j+1)):Int) sk h
       exact aJ 196 (bne_iff_ne.mpr c65)<|aA 41<|T_nr 1 [4] [vF] hQ h
      exact N_bd 188 (bne_iff_ne.mpr c61)<|T_ed 8 [188] [(196,vT)]<|T_tz 196<|aA 41<|T_nr 1 [4] [vF] hQ h
     exact aK 169 (zQ c55)<|zz 6<|aB<|aB<|aN<|aD<|aE<|T_rz 19<|T_ed 3 [16,24,169] [(16,vi (zY (nv+1)))]<|aT ((f,R,xB,xN,xC,(zY (nv+1))):Int×Int×zW×Nat×Nat×Int) sk h
    intro hk
    refine T_n 3 [(5,vp ra),(7,vu f),(9,vu R),(10,vs xB xN xC),(11,vs lostB lostN lostC),(12,vs stayB stayN stayC),(16,vi nv),(19,vs ab o s),(131,.bool (!ag))] ?_
    by_cases c35:ag=true
    ·have b36:(!ag)=false:=congrArg Bool.not (c35)
     have b362:ag=true:=c35
     refine bT [(5,vp ra),(7,vu f),(9,vu R),(10,vs xB xN xC),(11,vs lostB lostN lostC),(12,vs stayB stayN stayC),(16,vi nv),(19,vs ab o s),(131,vF)] (by simp only[b36,b362,Bool.not_true,Bool.not_false]) ?_
     refine T_nd 7 [131] [(138,.bool ((o:Int) !=(lostN:Int)))] ?_
     by_cases c37:(o:Int)=(lostN:Int)
     ·have b38:((o:Int) !=(lostN:Int))=false:=bne_eq_false_iff_eq.mpr c37
      refine N_bd 138 b38<|T_nd 6 [138] [(144,.bool ((xN:Int) !=(stayN:Int)))] ?_
      refine zq<|S_bd 144 (b:=((xN:Int) !=(stayN:Int))) (v:=(((!ag) || ((o:Int) !=(lostN:Int))) || ((xN:Int) !=(stayN:Int)))) (by simp only[b36,b38,BL]) ?_
      exact hk
     have b38:((o:Int) !=(lostN:Int))=true:=bne_iff_ne.mpr c37
     refine N_bd 138 b38<|T_nd 6 [138] [(144,vT)] ?_
     refine zq<|S_bd 144 (b:=true) (v:=(((!ag) || ((o:Int) !=(lostN:Int))) || ((xN:Int) !=(stayN:Int)))) (by simp only[b36,b38,BL]) ?_
     exact hk
    have b36:(!ag)=true:=congrArg Bool.not (zZ c35)
    have b362:ag=false:=zZ c35
    refine bT [(5,vp ra),(7,vu f),(9,vu R),(10,vs xB xN xC),(11,vs lostB lostN lostC),(12,vs stayB stayN stayC),(16,vi nv),(19,vs ab o s),(131,vT)] (by simp only[b36,b362,Bool.not_true,Bool.not_false]) ?_
    refine T_nd 13 [131] [(144,vT)]<|zq<|S_bd 144 (b:=true) (v:=(((!ag) || ((o:Int) !=(lostN:Int))) || ((xN:Int) !=(stayN:Int)))) (by simp only[b36,BL]) ?_
    exact hk
   exact aJ 109 (bne_iff_ne.mpr c33)<|aA 22<|T_nr 1 [4] [vF] hQ h
  refine aK 97 (zQ c31)<|zz 2<|aB<|aB<|aN<|aE<|aA 42<|T_nu []<|T_c (some 197) h ?_;clear h
  rintro bj bw ⟨ay,rfl,h⟩
  refine⟨[(197,.bool ay)],pk,?_⟩
  exact T_nr 1 [4] [.bool ay] hQ h
 intro hk
 refine T_n 3 [(0,vi d),(1,vu g),(5,vp ra),(6,vi rb),(33,.bool (rb !=0))] ?_
 by_cases c1:rb=0
 ·have b2:(rb !=0)=false:=bne_eq_false_iff_eq.mpr c1
  refine bT [(0,vi d),(1,vu g),(5,vp ra),(6,vi rb),(33,vF)] (by rw[b2]) ?_
  refine T_nd 4 [33] [(37,.bool (decide (d<0)))] ?_
  by_cases c3:d<0
  ·have b4:(decide (d<0))=true:=zX c3
   refine N_bd 37 b4<|T_nd 3 [37] [(40,vT)] ?_
   refine zq<|S_bd 40 (b:=true) (v:=(((rb !=0) || (decide (d<0))) || (decide (d>300)))) (by simp only[b2,b4,BL]) ?_
   exact hk
  have b4:(decide (d<0))=false:=zQ c3
  refine N_bd 37 b4<|T_nd 3 [37] [(40,.bool (decide (d>300)))] ?_
  refine zq<|S_bd 40 (b:=(decide (d>300))) (v:=(((rb !=0) || (decide (d<0))) || (decide (d>300)))) (by simp only[b2,b4,BL]) ?_
  exact hk
 have b2:(rb !=0)=true:=bne_iff_ne.mpr c1
 refine bT [(0,vi d),(1,vu g),(5,vp ra),(6,vi rb),(33,vT)] (by rw[b2]) ?_
 refine T_nd 7 [33] [(40,vT)]<|zq<|S_bd 40 (b:=true) (v:=(((rb !=0) || (decide (d<0))) || (decide (d>300)))) (by simp only[b2,BL]) ?_
 exact hk
end bL
