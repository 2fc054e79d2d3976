/- Printed: what each function asks, and that it is sound. -/
import Derived.Test.YtfhbhckhmnleoaaGreatFnsC
set_option linter.unusedSimpArgs false
set_option linter.unusedVariables false
set_option maxRecDepth 100000
set_option maxHeartbeats 1000000
noncomputable section
namespace Go.Proofs.YtfhbhckhmnleoaaGreat
open Go Go.Proofs.Tryz
variable{H:zV}{d:zW}{R:zv}
namespace iZ
def K0:=Func.code f12
def K2:=cb K0
def K4:=cb K2
def zd:=cb K4
def Ad:=ca zd
def zG:=cb zd
def Ap:=cb Ad
def zC:=ca Ap
def zT:=ca zC
def zI:=cb zG
def zN:=cb zI
def AJ:=cb zN
def Ao:=ca AJ
def As:=cb AJ
def AZ:=cb Ao
def BN:=ca AZ
def BG:=ca BN
def B3:=ca As
def BV:=cb B3
def BO:=ca BV
def K64:=ca BO
def Ck:=cb K64
def Bm:=cb Ck
def BR:=ca Bm
def BC:=ca BR
def Ci:=cb BC
def K77:=cb Ci
end iZ
def iZ.pt(hv:zW)(g d o:Int)(H:zV)(R:zv):Prop:=
 fE hv (
 R (.tuple #[vp none,vi 1]) H) (λf=>
 ∃x,hat H f=some (vp x)/\
 fE x (
 R (.tuple #[vp none,vi 1]) H) (λxA=>
 if(((((decide (g<0)) || (decide (g>=4))) || (decide (d<g))) || (decide (d>(zY (g+1))))) || (decide (o<0)))=true then(
 R (.tuple #[vp none,vi 1]) H)
 else
 ∃(b6:zW->Nat->Nat->zw) (m19:zW->Nat->Nat->Int->zV->Nat),b6 none 0 0 0 H/\ ∀e gensN gensC s54 H1,b6 e gensN gensC s54 H1->
 if s54< (zY (g+1))then(
 ∀b H2,b=H1.size->H2=H1.push (.cells #[vi s54] 3)->
 bI 1 3 8 [vi 0] e gensN gensC (some (ad b)) 1 H2 (λap bj H3=>
 (b6 ap (gensN+1) bj (zY (s54+1)) H3/\m19 ap (gensN+1) bj (zY (s54+1)) H3<m19 e gensN gensC s54 H1)))
 else
 ∃bx,hat H1 f=some (vp bx)/\
 ∃b4,bx=some b4/\
 ∃bz,hat H1 b4=some (vp bz)/\
 ∃b1,bz=some b1/\
 ∃bg,hat H1 b1=some (vp bg)/\
 cF.C bg e gensN gensC H1 (λv H4=> ∃xB xN xC,v=vs xB xN xC/\
 ∃b2,hat H4 f=some (vp b2)/\
 ∃bu,b2=some bu/\
 ∃bt,hat H4 bu=some (vp bt)/\
 ∃bw,bt=some bw/\
 ∃bp,hat H4 bw=some (vp bp)/\
 iE.C bp H4 (λci H5=> ∃a5,ci=vi a5/\
 if(zY ((zY (a5-(zY (2*(xN:Int)))))-8))<o then(
 R (.tuple #[vp none,vi 2]) H5)
 else
 ∀a6 H6,a6=H5.size->H6=H5.push (.map #[] 0)->
 ∀bh H7,bh=H6.size->H7=H6.push (.map #[] 0)->
 ∀m H8,m=H7.size->H8=H7.push (.cells ([Vq f,vi d]++List.replicate 1024 (vi 0)++[.map (some a6),.map (some bh),VN,vi 0]:List Value).toArray 106)->
 ∃(b0:zw) (m48:Int->zV->Nat),b0 0 H8/\ ∀y H9,b0 y H9->
 if y< (xN:Int)then(
 ∃ao,xB=some ao/\
 yZ y xN/\
 ∃am,hat H9 (ao.add (Int.toNat y*1))=some (vi am)/\
 yZ am 1024/\
 (aH H9 (((ad m).add 2).add (Int.toNat am*1)) 0 1)/\ ∀br,br=aP H9 (((ad m).add 2).add (Int.toNat am*1)) [vi 1] 0->
 (b0 (zY (y+1)) br/\m48 (zY (y+1)) br<m48 y H9))
 else
 ∃a8,hat H9 f=some (vp a8)/\
 ∃bd,a8=some bd/\
 ∃bm,hat H9 bd=some (vp bm)/\
 ∃a7,bm=some a7/\
 ∃av,hat H9 a7=some (vp av)/\
 ∀bo H11,bo=H9.size->H11=H9.push (.cells #[vi d] 3)->
 cF.C av (some (ad bo)) 1 1 H11 (λcj cg=> ∃aq j r,cj=vs aq j r/\
 ∃(bs:zw) (m65:Int->zV->Nat),bs 0 cg/\ ∀p H13,bs p H13->
 if p< (j:Int)then(
 ∃s,aq=some s/\
 yZ p j/\
 ∃q,hat H13 (s.add (Int.toNat p*1))=some (vi q)/\
 ∃ba,hat H13 f=some (vp ba)/\
 ∃bc,ba=some bc/\
 ∃bl,hat H13 bc=some (vp bl)/\
 ∃bi,bl=some bi/\
 ∃a0,hat H13 bi=some (vp a0)/\
 bA.C a0 q H13 (λck ce=> ∃an aj a2 af ac ab ae rb,ck=.tuple #[.agg #[vi an,vi aj,vi a2,vi af,vi ac,vi ab,vi ae],.bool rb]/\
 ∀aa H15,aa=ce.size->H15=ce.push (.cells #[vi 0,vi 0,vi 0,vi 0,vi 0,vi 0,vi 0] 108)->
 (aH H15 (ad aa) 0 7)/\ ∀ay,ay=aP H15 (ad aa) [vi an,vi aj,vi a2,vi af,vi ac,vi ab,vi ae] 0->
 ∃ag,hat ay ((ad m).add 1026)=some (.map ag)/\
 ∃ai,hat ay ((ad m).add 1027)=some (.map ai)/\
 ∃ak,hat ay ((ad aa).add 2)=some (vi ak)/\
 ∃ah,hat ay ((ad aa).add 2)=some (vi ah)/\
 ∃mr,ag=some mr/\
 ∃es cl ks,ay[mr]?=some (.map es cl)/\va (aY .i64) es.toList ks/\Born es cl/\
 ∀a4 cl_2 stamp x_21 H17,H17=aL ay mr (.map a4 cl_2)->va (aY .i64) a4.toList (yr ks q x_21)->Born a4 cl_2->lO a4 (vi q) stamp->
 aM H17 ((ad aa).add 2) 0 [vi ak]/\aM H17 ((ad aa).add 2) 0 [vi ah]/\ ∃bk cl_3 ks_2 k,H17[mr]?=some (.map bk cl_3)/\va (aY .i64) bk.toList ks_2/\Born bk cl_3/\lO bk (vi k) stamp/\
 ∀a9 H18,H18=aL H17 mr (.map a9 cl_3)->va (aY .i64) a9.toList (yr ks_2 k (vi ak))->Born a9 cl_3->
 aM H18 ((ad aa).add 2) 0 [vi ah]/\ ∃al,ai=some al/\
 ∃bq cl_4 ks_3,H18[al]?=some (.map bq cl_4)/\va (aY .i64) bq.toList ks_3/\Born bq cl_4/\
 ∀a3 cl_5 stamp_2 x_22 H19,H19=aL H18 al (.map a3 cl_5)->va (aY .i64) a3.toList (yr ks_3 q x_22)->Born a3 cl_5->lO a3 (vi q) stamp_2->
 aM H19 ((ad aa).add 2) 0 [vi ah]/\ ∃bn cl_6 ks_4 k_2,H19[al]?=some (.map bn cl_6)/\va (aY .i64) bn.toList ks_4/\Born bn cl_6/\lO bn (vi k_2) stamp_2/\
 ∀be H20,H20=aL H19 al (.map be cl_6)->va (aY .i64) be.toList (yr ks_4 k_2 (vi ah))->Born be cl_6->
 (bs (zY (p+1)) H20/\m65 (zY (p+1)) H20<m65 p H13)))
 else
 ∃bf,hat H13 f=some (vp bf)/\
 ∃bb,bf=some bb/\
 ∃az,hat H13 bb=some (vp az)/\
 dR.C az e gensN gensC H13 (λ_ cd=>
 ∃a1,hat cd f=some (vp a1)/\
 eI.C a1 g cd (λch cc=> ∃ax au aw,ch=vs ax au aw/\
 (aH cc ((ad m).add 1028) 0 1)/\ ∀b8,b8=aP cc ((ad m).add 1028) [vs ax au aw] 0->
 R (.tuple #[Vq (ad m),vi 0]) b8)))))))
theorem iZ.link{g hv o:Int}(h:pt d g hv o H R):C d g hv o H R:=by
 refine p0 K0 181 func12 ?_
 intro w0 Q hQ
 unfold pt zY at h
 refine kT [(0,vp d),(1,vi g),(2,vi hv),(3,vi o)]<|ar 0<|eT 2 [] []<|ge<|ar 1<|eH 1 [] [(20,vp d)] ?_
 rcases d with _ | f
 ·rw[onPtr_none]at h
  exact eT 31 [0,20] [(0,vp none),(51,VT)]<|wc 51<|ar 2<|hV 2 [8,9] [vp none,vi 1] hQ h
 rw[onPtr_some]at h
 refine eH 5 [0,20] [(0,Vq f),(22,VF),(25,Vq f)]<|have⟨x,q1,h⟩:=h;hH 26 49 q1 [25] ?_
 rcases x with _ | xA
 ·rw[onPtr_none]at h
  exact eT 25 [22,26] [(51,VT)]<|wc 51<|ar 2<|hV 2 [8,9] [vp none,vi 1] hQ h
 rw[onPtr_some]at h
 refine eH 7 [22,26] [(33,.bool (decide (g<0)))]<|iX [(0,Vq f),(1,vi g),(2,vi hv),(3,vi o),(51,.bool (((((decide (g<0)) || (decide (g>=4))) || (decide (hv<g))) || (decide (hv>(zY (g+1))))) || (decide (o<0))))] ?_ ?_
 ·refine aC<|qx h (λc10 h=>?_) (λc10 h=>?_)
  ·exact aJ 51 c10<|ar 2<|hV 2 [8,9] [vp none,vi 1] hQ h
  refine aK 51 (zZ c10)<|kd<|ar 3<|u5 1 [(0,Vq f),(1,vi g),(2,vi hv),(3,vi o),(10,VN)]<|ge<|ar 4<|eT 3 [] [(53,vi (zY (g+1))),(54,vi 0)]<|o0 0<|have⟨b6,m19,i12,i13⟩:=h;bJ (x:=zT) (σ:=zW×Nat×Nat×Int) (λs_=> [(0,Vq f),(1,vi g),(2,vi hv),(3,vi o),(10,vs s_.1 s_.2.1 s_.2.2.1),(53,vi (zY (g+1))),(54,vi s_.2.2.2)]) (λs_ H=>b6 s_.1 s_.2.1 s_.2.2.1 s_.2.2.2 H) (λs_ H=>m19 s_.1 s_.2.1 s_.2.2.1 s_.2.2.2 H) ((none,0,0,0):zW×Nat×Nat×Int) (by kernel_rfl) i12 sk ?_
  rintro⟨e,gensN,gensC,s54⟩ H1 i14
  have h:=i13 e gensN gensC s54 H1 i14
  refine kT [(0,Vq f),(1,vi g),(2,vi hv),(3,vi o),(10,vs e gensN gensC),(53,vi (zY (g+1))),(54,vi s54)]<|ar 5<|eT 1 [] [(55,.bool (decide (s54< (zY (g+1)))))]<|ge<|qx h (λc15 h=>?_) (λc15 h=>?_)
  ·refine aJ 55 (zX c15)<|kd<|ge<|o0 1<|ar 6<|eT 2 [55] [(11,vi s54)]<|nx 7<|eH 2 [10,11] [(57,vs e gensN gensC),(58,vi s54)]<|sv (some 59) (λb=>vs (pa b) 1 1) (.cells #[vi s54] 3) ?_
   intro b H2 e17 e18
   replace h:=h b H2 e17 e18
   refine kb [58] [(59,vs (pa b) 1 1)]<|yO (some 60) (cG #[75,75] 75 #[vs e gensN gensC,vs (pa b) 1 1]) _ (λ_=>by kernel_rfl) (bK (T:=3) (sz:=1) (bytes:=8) (zero:=(vi 0:Value)) underlying75 underlying75 rfl (show prog.info? 3=some t3 from by kernel_rfl) (by kernel_rfl) (by kernel_rfl) (by decide) (by kernel_rfl) (by first | exact h | (simpa only[Value.cells,List.toList_toArray]using h))) ?_;clear h
   rintro _ H3 ⟨ap,bj,rfl,h⟩
   exact kb [57,59] [(60,vs ap (gensN+1) bj)]<|eH 1 [60] [(10,vs ap (gensN+1) bj)]<|zq<|aA<|aC<|nx 8<|eT 2 [54] [(54,vi (zY (s54+1)))]<|aR ((ap,(gensN+1),bj,(zY (s54+1))):zW×Nat×Nat×Int) sk h
  refine aK 55 (zQ c15)<|zk 0<|aB<|aB<|aN<|aC<|ar 9<|eH 3 [53,54,55] [(64,Vq f)]<|have⟨bx,q19,h⟩:=h;hH 65 49 q19 [64] ?_
  obtain⟨b4,rfl,ha⟩:=h
  refine eH 2 [65] [(67,Vq b4)]<|have⟨bz,q20,h⟩:=ha;hH 68 52 q20 [67] ?_
  obtain⟨b1,rfl,hb⟩:=h
  refine eH 2 [68] [(70,Vq b1)]<|have⟨bg,q21,h⟩:=hb;hH 71 78 q21 [70]<|eH 1 [] [(72,vs e gensN gensC)]<|zt 73 [71,72] h λxB xN xC H4 h=>eT 1 [73] [(12,vs xB xN xC)]<|ge<|ar 10<|eH 3 [] [(76,Vq f)]<|have⟨b2,q22,h⟩:=h;hH 77 49 q22 [76] ?_
  obtain⟨bu,rfl,hc⟩:=h
  refine eH 2 [77] [(79,Vq bu)]<|have⟨bt,q23,h⟩:=hc;hH 80 52 q23 [79] ?_
  obtain⟨bw,rfl,hd⟩:=h
  refine eH 2 [80] [(82,Vq bw)]<|have⟨bp,q24,h⟩:=hd;hH 83 78 q24 [82]<|sa 84 [83] h λa5 H5 h=>eT 7 [3,84] [(91,.bool (decide ((zY ((zY (a5-(zY (2*(xN:Int)))))-8))<o)))]<|qx h (λc25 h=>?_) (λc25 h=>?_)
  ·exact aJ 91 (zX c25)<|ar 11<|hV 2 [8,9] [vp none,vi 2] hQ h
  refine aK 91 (zQ c25)<|kd<|ar 12<|eH 2 [91] [(92,Vq f),(93,vi hv)]<|sv (some 94) (λb=> .map (some b)) (.map #[] 0)<|λa6 H6 e27 e28=>have h:=h a6 H6 e27 e28;kb [] [(94,.map (some a6))]<|sv (some 95) (λb=> .map (some b)) (.map #[] 0)<|λbh H7 e29 e30=>have h:=h bh H7 e29 e30;kb [] [(95,.map (some bh))]<|eH 1 [92,93,94,95] [(96,.agg ([Vq f,vi hv]++List.replicate 1024 (vi 0)++[.map (some a6),.map (some bh),VN,vi 0]:List Value).toArray)]<|sv (some 97) (λb=>vp (pa b)) (.cells ([Vq f,vi hv]++List.replicate 1024 (vi 0)++[.map (some a6),.map (some bh),VN,vi 0]:List Value).toArray 106)<|λm H8 e31 e32=>have h:=h m H8 e31 e32;kb [96] [(97,vp (pa m))]<|eT 1 [97] [(13,vp (pa m))]<|ge<|ar 13<|eT 3 [12] [(98,vs xB xN xC),(99,vi xN),(100,vi 0)]<|o0 2<|have⟨b0,m48,i33,i34⟩:=h;bJ (x:=BG) (σ:=Int) (λs_=> [(0,Vq f),(1,vi g),(2,vi hv),(10,vs e gensN gensC),(13,vp (pa m)),(98,vs xB xN xC),(99,vi xN),(100,vi s_)]) (λs_ H=>b0 s_ H) (λs_ H=>m48 s_ H) (0:Int) (by kernel_rfl) i33 sk ?_
  rintro y H9 i35
  have h:=i34 y H9 i35
  refine kT [(0,Vq f),(1,vi g),(2,vi hv),(10,vs e gensN gensC),(13,vp (pa m)),(98,vs xB xN xC),(99,vi xN),(100,vi y)]<|ar 14<|eT 1 [] [(101,.bool (decide (y< (xN:Int))))]<|ge<|qx h (λc36 h=>?_) (λc36 h=>?_)
  ·refine aJ 101 (zX c36)<|kd<|ge<|o0 3<|ar 15<|yA [101] [] ?_
   obtain⟨ao,rfl,q38,he⟩:=h
   exact yp (some 102) 75 3 1 ao xN xC .i64 y underlying75 q38.1 q38.2 [98] [(98,vs (some ao) xN xC),(102,Vq (ao.add (Int.toNat y*1)))]<|have⟨am,q39,h⟩:=he;hH 103 3 q39 [102]<|eT 1 [103] [(15,vi am)]<|nx 16<|eH 4 [15] [(105,vi am),(107,Vq ((ad m).add 2))]<|have⟨q40,h⟩:=h;yI 108 (bD 103 (Vq ((ad m).add 2)) (vi am)) (Vq (((ad m).add 2).add (Int.toNat am*1))) (λw _=>bO (P:=prog) (t:=103) (elem:=3) (sz:=1) (n:=1024) (a:=((ad m).add 2)) (k:=.i64) (i:=am) underlying103 (λ_=>by kernel_rfl) q40.1 q40.2 w) [105,107]<|have⟨q42,h⟩:=h;eQ 3 (vi 1) q42<|λbr e41=>have h:=h br e41;kb [108] []<|zq<|aA<|aC<|nx 17<|eT 2 [100] [(100,vi (zY (y+1)))]<|aR ((zY (y+1)):Int) sk h
  refine aK 101 (zQ c36)<|zk 2<|aB<|aB<|aN<|aC<|ge<|ar 18<|eH 3 [98,99,100,101] [(112,Vq f)]<|have⟨a8,q43,h⟩:=h;hH 113 49 q43 [112] ?_
  obtain⟨bd,rfl,hf⟩:=h
  refine eH 2 [113] [(115,Vq bd)]<|have⟨bm,q44,h⟩:=hf;hH 116 52 q44 [115] ?_
  obtain⟨a7,rfl,hg⟩:=h
  refine eH 2 [116] [(118,Vq a7)]<|have⟨av,q45,h⟩:=hg;hH 119 78 q45 [118]<|eH 1 [2] [(120,vi hv)]<|sv (some 121) (λb=>vs (pa b) 1 1) (.cells #[vi hv] 3)<|λbo H11 e46 e47=>have h:=h bo H11 e46 e47;kb [120] [(121,vs (pa bo) 1 1)]<|zt 122 [119,121] h λaq j r cg h=>eT 2 [] [(123,vi j),(124,vi 0)]<|o0 4<|have⟨bs,m65,i48,i49⟩:=h;bJ (x:=K64) (σ:=Int) (λs_=> [(0,Vq f),(1,vi g),(10,vs e gensN gensC),(13,vp (pa m)),(122,vs aq j r),(123,vi j),(124,vi s_)]) (λs_ H=>bs s_ H) (λs_ H=>m65 s_ H) (0:Int) (by kernel_rfl) i48 sk ?_
  rintro p H13 i50
  have h:=i49 p H13 i50
  refine kT [(0,Vq f),(1,vi g),(10,vs e gensN gensC),(13,vp (pa m)),(122,vs aq j r),(123,vi j),(124,vi p)]<|ar 19<|eT 1 [] [(125,.bool (decide (p< (j:Int))))]<|ge<|qx h (λc51 h=>?_) (λc51 h=>?_)
  ·refine aJ 125 (zX c51)<|kd<|ge<|o0 5<|ar 20<|yA [125] [] ?_
   obtain⟨s,rfl,q53,hh⟩:=h
   refine yp (some 126) 75 3 1 s j r .i64 p underlying75 q53.1 q53.2 [122] [(122,vs (some s) j r),(126,Vq (s.add (Int.toNat p*1)))]<|have⟨q,q54,h⟩:=hh;hH 127 3 q54 [126]<|eT 1 [127] [(17,vi q)]<|ar 21<|eH 3 [] [(131,Vq f)]<|have⟨ba,q55,h⟩:=h;hH 132 49 q55 [131] ?_
   obtain⟨bc,rfl,hi⟩:=h
   refine eH 2 [132] [(134,Vq bc)]<|have⟨bl,q56,h⟩:=hi;hH 135 52 q56 [134] ?_
   obtain⟨bi,rfl,hj⟩:=h
   refine eH 2 [135] [(137,Vq bi)]<|have⟨a0,q57,h⟩:=hj;hH 138 78 q57 [137]<|eH 1 [] [(139,vi q)]<|zE 140 [138,139] h λan aj a2 af ac ab ae rb ce h=>eH 3 [140] [(141,.agg #[vi an,vi aj,vi a2,vi af,vi ac,vi ab,vi ae]),(142,.bool rb)]<|sv (some 18) (λb=>vp (pa b)) (.cells #[vi 0,vi 0,vi 0,vi 0,vi 0,vi 0,vi 0] 108)<|λaa H15 e58 e59=>have h:=h aa H15 e58 e59;kb [] [(18,vp (pa aa))]<|have⟨q61,h⟩:=h;fK 108 [vi an,vi aj,vi a2,vi af,vi ac,vi ab,vi ae] q61<|λay e60=>have h:=h ay e60;kb [141] []<|eT 1 [142] []<|have⟨ag,q62,ai,q63,ak,q64,ah,q65,h⟩:=h;yq 22 (Code.ops K77) [(14,((ad m).add 1026),[.map ag]),(14,((ad m).add 1027),[.map ai]),(16,((ad aa).add 2),[vi ak]),(19,((ad aa).add 2),[vi ah])] 20 (bv 20 0) (show aE _ _ _ from⟨⟨q62,trivial⟩,⟨q63,trivial⟩,⟨q64,trivial⟩,⟨q65,trivial⟩,trivial⟩)<|y9 0 (some 143) (vp (pa m)) (bv 20 1) [(0,Vq f),(1,vi g),(10,vs e gensN gensC),(13,vp (pa m)),(17,vi q),(18,vp (pa aa)),(122,vs (some s) j r),(123,vi j),(124,vi p),(143,vp (pa m))]<|aG 1 144 (vp (pa m)) (bv 20 3) [143]<|aG 2 145 (Vq ((ad m).add 1026)) (bv 20 7) [144]<|nc 3 146 (.map ag) (bv 20 15) [145] (aQ 102 (Vq ((ad m).add 1026))) (yY 14 yX)<|aG 4 147 (vi q) (bv 20 31) []<|aG 5 148 (vp (pa m)) (bv 20 63) []<|aG 6 149 (vp (pa m)) (bv 20 127) [148]<|aG 7 150 (Vq ((ad m).add 1027)) (bv 20 255) [149]<|nc 8 151 (.map ai) (bv 20 511) [150] (aQ 102 (Vq ((ad m).add 1027))) (yY 14 yQ)<|aG 9 152 (vi q) (bv 20 1023) [17]<|aG 10 153 (Vq ((ad aa).add 2)) (bv 20 2047) []<|nc 11 154 (vi ak) (bv 20 4095) [153] (aQ 3 (Vq ((ad aa).add 2))) (yY 16 yJ)<|aG 12 155 (Vq ((ad aa).add 2)) (bv 20 8191) [18]<|nc 13 156 (vi ah) (bv 20 16383) [155] (aQ 3 (Vq ((ad aa).add 2))) (yY 19 yK) ?_
   obtain⟨mr,rfl,es,cl,ks,q68,q69,q73,hl⟩:=h
   refine ob 14 (some 157) (bv 20 32767) (nD 102 (.map (some mr)) (vi q)) (λu Hz=> ∃es2 cl2 sp v0,Hz=aL ay mr (.map es2 cl2)/\va (aY .i64) es2.toList (yr ks q v0)/\Born es2 cl2/\lO es2 (vi q) sp/\u=.tuple #[v0,vi sp]) (by kernel_rfl) (λ_=>by kernel_rfl) (pp (kk:=(aY .i64)) (z:=vi 0) underlying102 underlying3 (λ_=>by kernel_rfl) q68 q69 q73) (by kernel_rfl) ?_
   rintro _ H17 ⟨a4,cl_2,stamp,x_21,e71,e72,e74,e75,rfl⟩
   refine have h:=hl a4 cl_2 stamp x_21 H17 e71 e72 e74 e75;have⟨f66,f67,h⟩:=h;⟨[(0,Vq f),(1,vi g),(10,vs e gensN gensC),(13,vp (pa m)),(122,vs (some s) j r),(123,vi j),(124,vi p),(146,.map (some mr)),(151,.map ai),(152,vi q),(154,vi ak),(156,vi ah),(157,.tuple #[x_21,vi stamp])],pk,(show aE _ _ _ from⟨trivial,trivial,f66,f67,trivial⟩),?_⟩
   refine zh 15 (some 158) (vi stamp) (bv 20 65535) [(0,Vq f),(1,vi g),(10,vs e gensN gensC),(13,vp (pa m)),(122,vs (some s) j r),(123,vi j),(124,vi p),(146,.map (some mr)),(151,.map ai),(152,vi q),(154,vi ak),(156,vi ah),(158,vi stamp)] (pure (.value (vi stamp)):Sem Next) (λ_ _ _ _ _=>rfl)<|have⟨bk,cl_3,ks_2,k,q77,q78,q79,q80,h⟩:=h;fF 16 none (bv 20 131071) (o8 102 (.map (some mr)) (vi stamp) (vi ak)) (λHz=> ∃es2,Hz=aL H17 mr (.map es2 cl_3)/\va (aY .i64) es2.toList (yr ks_2 k (vi ak))/\Born es2 cl_3) (by kernel_rfl) (λ_=>by kernel_rfl) (pq (kk:=(aY .i64)) q77 q78 q79 q80) (by kernel_rfl) ?_
   rintro H18 ⟨a9,e81,e82,e83⟩
   refine have h:=h a9 H18 e81 e82 e83;have⟨f76,h⟩:=h;⟨[(0,Vq f),(1,vi g),(10,vs e gensN gensC),(13,vp (pa m)),(122,vs (some s) j r),(123,vi j),(124,vi p),(151,.map ai),(152,vi q),(156,vi ah)],pk,(show aE _ _ _ from⟨trivial,trivial,trivial,f76,trivial⟩),?_⟩
   obtain⟨al,rfl,bq,cl_4,ks_3,q85,q86,q90,hm⟩:=h
   refine ob 17 (some 159) (bv 20 262143) (nD 102 (.map (some al)) (vi q)) (λu Hz=> ∃es2 cl2 sp v0,Hz=aL H18 al (.map es2 cl2)/\va (aY .i64) es2.toList (yr ks_3 q v0)/\Born es2 cl2/\lO es2 (vi q) sp/\u=.tuple #[v0,vi sp]) (by kernel_rfl) (λ_=>by kernel_rfl) (pp (kk:=(aY .i64)) (z:=vi 0) underlying102 underlying3 (λ_=>by kernel_rfl) q85 q86 q90) (by kernel_rfl) ?_
   rintro _ H19 ⟨a3,cl_5,stamp_2,x_22,e88,e89,e91,e92,rfl⟩
   refine have h:=hm a3 cl_5 stamp_2 x_22 H19 e88 e89 e91 e92;have⟨f84,h⟩:=h;⟨[(0,Vq f),(1,vi g),(10,vs e gensN gensC),(13,vp (pa m)),(122,vs (some s) j r),(123,vi j),(124,vi p),(151,.map (some al)),(156,vi ah),(159,.tuple #[x_22,vi stamp_2])],pk,(show aE _ _ _ from⟨trivial,trivial,trivial,f84,trivial⟩),?_⟩
   refine zh 18 (some 160) (vi stamp_2) (bv 20 524287) [(0,Vq f),(1,vi g),(10,vs e gensN gensC),(13,vp (pa m)),(122,vs (some s) j r),(123,vi j),(124,vi p),(151,.map (some al)),(156,vi ah),(160,vi stamp_2)] (pure (.value (vi stamp_2)):Sem Next) (λ_ _ _ _ _=>rfl)<|have⟨bn,cl_6,ks_4,k_2,q93,q94,q95,q96,h⟩:=h;fF 19 none (bv 20 1048575) (o8 102 (.map (some al)) (vi stamp_2) (vi ah)) (λHz=> ∃es2,Hz=aL H19 al (.map es2 cl_6)/\va (aY .i64) es2.toList (yr ks_4 k_2 (vi ah))/\Born es2 cl_6) (by kernel_rfl) (λ_=>by kernel_rfl) (pq (kk:=(aY .i64)) q93 q94 q95 q96) (by kernel_rfl) ?_
   rintro H20 ⟨be,e97,e98,e99⟩
   refine have h:=h be H20 e97 e98 e99;⟨[(0,Vq f),(1,vi g),(10,vs e gensN gensC),(13,vp (pa m)),(122,vs (some s) j r),(123,vi j),(124,vi p)],pk,(show aE _ _ _ from⟨trivial,trivial,trivial,trivial,trivial⟩),?_⟩
   exact eP [(0,Vq f),(1,vi g),(10,vs e gensN gensC),(13,vp (pa m)),(122,vs (some s) j r),(123,vi j),(124,vi p)] sk<|yz<|aA<|aC<|nx 23<|u5 2 [(0,Vq f),(1,vi g),(10,vs e gensN gensC),(13,vp (pa m)),(122,vs (some s) j r),(123,vi j),(124,vi (zY (p+1)))]<|aR ((zY (p+1)):Int) sk h
  refine aK 125 (zQ c51)<|zk 4<|aB<|aB<|aN<|aC<|ar 24<|eH 3 [122,123,124,125] [(164,Vq f)]<|have⟨bf,q100,h⟩:=h;hH 165 49 q100 [164] ?_
  obtain⟨bb,rfl,hn⟩:=h
  refine eH 2 [165] [(167,Vq bb)] ?_
  obtain⟨az,q101,h⟩:=hn
  refine hH 168 52 q101 [167]<|eH 1 [10] [(169,vs e gensN gensC)]<|zf (some 170) h ?_;clear h
  exact λv_5 cd h=>kb [168,169] []<|ym<|ar 25<|eH 4 [0] [(171,vp (pa m)),(174,Vq f)]<|have⟨a1,q102,h⟩:=h;hH 175 49 q102 [174]<|eH 1 [1] [(176,vi g)]<|zt 177 [175,176] h λax au aw cc h=>eH 2 [171] [(179,Vq ((ad m).add 1028))]<|have⟨q104,h⟩:=h;eQ 104 (vs ax au aw) q104<|λb8 e103=>have h:=h b8 e103;kb [177,179] []<|ym<|ar 26<|hV 3 [8,9] [vp (pa m),vi 0] hQ h
 refine λhk=>Ab [(0,Vq f),(1,vi g),(2,vi hv),(3,vi o),(33,.bool (decide (g<0)))] ?_
 by_cases c2:g<0
 ·have b3:(decide (g<0))=true:=zX c2
  exact bW [(0,Vq f),(1,vi g),(2,vi hv),(3,vi o),(33,VT)] (by rw[b3])<|eH 18 [33] [(51,VT)]<|zq<|vb 51 (b:=true) (v:=(((((decide (g<0)) || (decide (g>=4))) || (decide (hv<g))) || (decide (hv>(zY (g+1))))) || (decide (o<0)))) (by simp only[b3,BL])<|hk
 have b3:(decide (g<0))=false:=zQ c2
 refine bW [(0,Vq f),(1,vi g),(2,vi hv),(3,vi o),(33,VF)] (by rw[b3])<|eH 4 [33] [(37,.bool (decide (g>=4)))] ?_
 by_cases c4:g>=4
 ·have b5:(decide (g>=4))=true:=zX c4
  exact oo 37 b5<|eH 14 [37] [(51,VT)]<|zq<|vb 51 (b:=true) (v:=(((((decide (g<0)) || (decide (g>=4))) || (decide (hv<g))) || (decide (hv>(zY (g+1))))) || (decide (o<0)))) (by simp only[b3,b5,BL])<|hk
 have b5:(decide (g>=4))=false:=zQ c4
 refine oo 37 b5<|eH 5 [37] [(42,.bool (decide (hv<g)))] ?_
 by_cases c6:hv<g
 ·have b7:(decide (hv<g))=true:=zX c6
  exact oo 42 b7<|eH 9 [42] [(51,VT)]<|zq<|vb 51 (b:=true) (v:=(((((decide (g<0)) || (decide (g>=4))) || (decide (hv<g))) || (decide (hv>(zY (g+1))))) || (decide (o<0)))) (by simp only[b3,b5,b7,BL])<|hk
 have b7:(decide (hv<g))=false:=zQ c6
 refine oo 42 b7<|eH 6 [42] [(48,.bool (decide (hv>(zY (g+1)))))] ?_
 by_cases c8:hv>(zY (g+1))
 ·have b9:(decide (hv>(zY (g+1))))=true:=zX c8
  exact oo 48 b9<|eH 3 [48] [(51,VT)]<|zq<|vb 51 (b:=true) (v:=(((((decide (g<0)) || (decide (g>=4))) || (decide (hv<g))) || (decide (hv>(zY (g+1))))) || (decide (o<0)))) (by simp only[b3,b5,b7,b9,BL])<|hk
 have b9:(decide (hv>(zY (g+1))))=false:=zQ c8
 exact oo 48 b9<|eH 3 [48] [(51,.bool (decide (o<0)))]<|zq<|vb 51 (b:=(decide (o<0))) (v:=(((((decide (g<0)) || (decide (g>=4))) || (decide (hv<g))) || (decide (hv>(zY (g+1))))) || (decide (o<0)))) (by simp only[b3,b5,b7,b9,BL])<|hk
namespace aZ
def K0:=Func.code f13
def K2:=cb K0
def K4:=cb K2
def zu:=cb K4
def zL:=cb zu
def Ak:=cb zL
def AK:=cb Ak
def AB:=cb AK
def zN:=ca AB
def Bf:=cb AB
def Bp:=cb Bf
def AJ:=ca Bp
def AX:=cb AJ
def AZ:=ca AX
def BN:=ca AZ
end aZ
def aZ.pt(tv:zW)(wv:Int)(H:zV)(R:zv):Prop:=
 dH.C tv wv H (λv H1=> ∃x,v=.bool x/\
 if x=true then(
 cW.C tv wv H1 (λbt H2=> ∃ra rb,bt=.tuple #[vu ra,.bool rb]/\
 if rb=true then(
 R (vu ra) H2)
 else
 ∃d,tv=some d/\
 ∃ay,hat H2 d=some (vp ay)/\
 bN.C ay wv H2 (λb1 H3=> ∃f,b1=vi f/\
 if f=0 then(
 R (vu wv) H3)
 else
 gH.C wv H3 (λb3 H4=> ∃a bg,b3=.tuple #[vi a,.bool bg]/\
 ∃a8,hat H4 d=some (vp a8)/\
 ∃bd,a8=some bd/\
 ∃bc,hat H4 bd=some (vp bc)/\
 ∃a9,bc=some a9/\
 ∃a7,hat H4 a9=some (vp a7)/\
 ∃ba,a7=some ba/\
 ∃a3,hat H4 ba=some (vp a3)/\
 bA.C a3 (zY (Int.tdiv a 64)) H4 (λbr H5=> ∃s r af m j i k ah,br=.tuple #[.agg #[vi s,vi r,vi af,vi m,vi j,vi i,vi k],.bool ah]/\
 ∀b H6,b=H5.size->H6=H5.push (.cells #[vi 0,vi 0,vi 0,vi 0,vi 0,vi 0,vi 0] 108)->
 (aH H6 (ad b) 0 7)/\ ∀H7,H7=aP H6 (ad b) [vi s,vi r,vi af,vi m,vi j,vi i,vi k] 0->
 ∃bk,hat H7 d=some (vp bk)/\
 ∃t,bk=some t/\
 ∃bm,hat H7 t=some (vp bm)/\
 ∃u,bm=some u/\
 ∃q,hat H7 u=some (vp q)/\
 ∃y,hat H7 (d.add 1)=some (vi y)/\
 ∃z,hat H7 ((ad b).add 1)=some (vi z)/\
 cJ.C q y z f H7 (λbq H8=> ∃e n,bq=.tuple #[vi e,vi n]/\
 if n=0 then(
 ∃(bb:zw) (m47:Int->zV->Nat),bb 0 H8/\ ∀g H9,bb g H9->
 if g<f then(
 ∃a2,hat H9 d=some (vp a2)/\
 ∃aj,a2=some aj/\
 ∃al,hat H9 aj=some (vp al)/\
 ∃au,al=some au/\
 ∃az,hat H9 au=some (vp az)/\
 ∃ax,az=some ax/\
 ∃ab,hat H9 ax=some (vp ab)/\
 cD.C ab (zY (a+g)) H9 (λbs a6=> ∃o bf,bs=.tuple #[vu o,vi bf]/\
 ∃ak,hat a6 d=some (vp ak)/\
 ∃am,ak=some am/\
 ∃ap,hat a6 am=some (vp ap)/\
 ∃a1,ap=some a1/\
 ∃an,hat a6 a1=some (vp an)/\
 ∃a4,an=some a4/\
 ∃aa,hat a6 a4=some (vp aa)/\
 bR.C aa (zY (e+g)) o a6 (λbw bi=> ∃bn,bw=vi bn/\
 (bb (zY (g+1)) bi/\m47 (zY (g+1)) bi<m47 g H9))))
 else
 jQ.C 6 e H9 (λbx a5=> ∃p bh,bx=.tuple #[vu p,vi bh]/\
 ∃aq,hat a5 d=some (vp aq)/\
 ∃aw,aq=some aw/\
 ∃av,hat a5 aw=some (vp av)/\
 ∃ao,av=some ao/\
 ∃ai,hat a5 ao=some (vp ai)/\
 ∃a0,ai=some a0/\
 ∃ac,hat a5 a0=some (vp ac)/\
 bR.C ac a p a5 (λbp b0=> ∃bj,bp=vi bj/\
 cK.C wv b0 (λbl bz=> ∃ag,bl=vi ag/\
 jQ.C ag e bz (λbo bu=> ∃ae be,bo=.tuple #[vu ae,vi be]/\
 R (vu ae) bu)))))
 else
 R (vu wv) H8))))))
 else
 R (vu wv) H1)
theorem aZ.link{wv:Int}(h:pt d wv H R):C d wv H R:=by
 refine p0 K0 163 func13 ?_
 intro w0 Q hQ
 unfold pt zY at h
 refine kT [(0,vp d),(1,vu wv)]<|ar 0<|eT 1 [] []<|ge<|ar 1<|eH 2 [] [(21,vp d),(22,vu wv)]<|sa 23 [21,22] h λx H1 h=>eT 1 [23] [(24,.bool (!x))]<|qx h (λc1 h=>?_) (λc1 h=>?_)
 ·refine aK 24 (congrArg Bool.not (c1))<|kd<|ge<|ar 3<|eH 2 [24] [(27,vp d),(28,vu wv)]<|yD 29 [27,28] h λra rb H2 h=>eT 5 [29] [(5,vu ra),(6,.bool rb)]<|ar 4<|eT 1 [6] [(32,.bool rb)]<|qx h (λc3 h=>?_) (λc3 h=>?_)
  ·exact aJ 32 c3<|ar 5<|hV 2 [4] [vu ra] hQ h
  refine aK 32 (zZ c3)<|kd<|ar 6<|eH 1 [5,32] [(34,vp d)] ?_
  obtain⟨tv,rfl,ha⟩:=h
  refine eH 2 [0,34] [(0,Vq tv),(36,Vq tv)]<|have⟨ay,q5,h⟩:=ha;hH 37 23 q5 [36]<|eH 1 [] [(38,vu wv)]<|sa 39 [37,38] h λf H3 h=>eT 1 [39] [(7,vi f)]<|ge<|ar 7<|eT 2 [] [(41,.bool (f==0))]<|qx h (λc6 h=>?_) (λc6 h=>?_)
  ·exact aJ 41 (zK c6)<|ar 8<|hV 2 [4] [vu wv] hQ h
  refine aK 41 (zJ c6)<|kd<|ar 9<|eH 1 [41] [(44,vu wv)]<|yD 45 [44] h λa bg H4 h=>eT 5 [45] [(8,vi a)]<|ar 10<|eH 3 [] [(51,Vq tv)]<|have⟨a8,q8,h⟩:=h;hH 52 23 q8 [51] ?_
  obtain⟨bd,rfl,hb⟩:=h
  refine eH 2 [52] [(54,Vq bd)]<|have⟨bc,q9,h⟩:=hb;hH 55 49 q9 [54] ?_
  obtain⟨a9,rfl,hc⟩:=h
  refine eH 2 [55] [(57,Vq a9)]<|have⟨a7,q10,h⟩:=hc;hH 58 52 q10 [57] ?_
  obtain⟨ba,rfl,hd⟩:=h
  refine eH 2 [58] [(60,Vq ba)]<|have⟨a3,q11,h⟩:=hd;hH 61 78 q11 [60]<|eH 2 [] [(63,vi (zY (Int.tdiv a 64)))]<|zE 64 [61,63] h λs r af m j i k ah H5 h=>eH 3 [64] [(65,.agg #[vi s,vi r,vi af,vi m,vi j,vi i,vi k]),(66,.bool ah)]<|sv (some 10) (λb=>vp (pa b)) (.cells #[vi 0,vi 0,vi 0,vi 0,vi 0,vi 0,vi 0] 108)<|λb H6 e12 e13=>have h:=h b H6 e12 e13;kb [] [(10,vp (pa b))]<|have⟨q15,h⟩:=h;fK 108 [vi s,vi r,vi af,vi m,vi j,vi i,vi k] q15<|λH7 e14=>have h:=h H7 e14;kb [65] []<|eT 1 [66] []<|ge ?_
  obtain⟨bk,q16,t,rfl,bm,q17,u,rfl,q,q18,y,q19,z,q20,he⟩:=h
  refine yq 11 (Code.ops zN) [(17,tv,[Vq t]),(17,t,[Vq u]),(17,u,[vp q]),(17,(tv.add 1),[vi y]),(17,((ad b).add 1),[vi z])] 23 (bv 23 0) (show aE _ _ _ from⟨⟨q16,trivial⟩,⟨q17,trivial⟩,⟨q18,trivial⟩,⟨q19,trivial⟩,⟨q20,trivial⟩,trivial⟩)<|y9 0 (some 68) (Vq tv) (bv 23 1) [(0,Vq tv),(1,vu wv),(7,vi f),(8,vi a),(10,vp (pa b)),(68,Vq tv)]<|aG 1 69 (Vq tv) (bv 23 3) [68]<|aG 2 70 (Vq tv) (bv 23 7) [69]<|nc 3 71 (Vq t) (bv 23 15) [70] (aQ 23 (Vq tv)) (yY 17 yX)<|aG 4 72 (Vq t) (bv 23 31) [71]<|aG 5 73 (Vq t) (bv 23 63) [72]<|nc 6 74 (Vq u) (bv 23 127) [73] (aQ 49 (Vq t)) (yY 17 yQ)<|aG 7 75 (Vq u) (bv 23 255) [74]<|aG 8 76 (Vq u) (bv 23 511) [75]<|nc 9 77 (vp q) (bv 23 1023) [76] (aQ 52 (Vq u)) (yY 17 yJ)<|aG 10 78 (Vq tv) (bv 23 2047) []<|aG 11 79 (Vq tv) (bv 23 4095) [78]<|aG 12 80 (Vq (tv.add 1)) (bv 23 8191) [79]<|nc 13 81 (vi y) (bv 23 16383) [80] (aQ 3 (Vq (tv.add 1))) (yY 17 yK)<|aG 14 82 (Vq ((ad b).add 1)) (bv 23 32767) [10]<|nc 15 83 (vi z) (bv 23 65535) [82] (aQ 3 (Vq ((ad b).add 1))) (yY 17 yV)<|aG 16 84 (vi f) (bv 23 131071) []<|yx 17 (some 85) (bv 23 262143) 53 #[vp q,vi y,vi z,vi f] he ?_;clear he
  rintro bq H8 ⟨e,n,rfl,h⟩
  refine⟨[(0,Vq tv),(1,vu wv),(7,vi f),(8,vi a),(85,.tuple #[vi e,vi n])],pk,(show aE _ _ _ from⟨trivial,trivial,trivial,trivial,trivial,trivial⟩),?_⟩
  refine zh 18 (some 67) (.tuple #[vi e,vi n]) (bv 23 524287) [(0,Vq tv),(1,vu wv),(7,vi f),(8,vi a),(67,.tuple #[vi e,vi n])] (pure (.value (.tuple #[vi e,vi n])):Sem Next) (λ_ _ _ _ _=>rfl)<|nc 19 86 (vi e) (bv 23 1048575) [] (pure (.value (vi e)):Sem Next) (λ_ _ _ _ _=>rfl)<|nc 20 87 (vi n) (bv 23 2097151) [67] (pure (.value (vi n)):Sem Next) (λ_ _ _ _ _=>rfl)<|nc 21 12 (vi e) (bv 23 4194303) [86] (pure (.value (vi e)):Sem Next) (λ_ _ _ _ _=>rfl)<|nc 22 13 (vi n) (bv 23 8388607) [87] (pure (.value (vi n)):Sem Next) (λ_ _ _ _ _=>rfl)<|eP [(0,Vq tv),(1,vu wv),(7,vi f),(8,vi a),(12,vi e),(13,vi n)] sk<|yz<|aC<|ge<|ar 12<|u5 2 [(0,Vq tv),(1,vu wv),(7,vi f),(8,vi a),(12,vi e),(89,.bool (n !=0))]<|qx h (λc21 h=>?_) (λc21 h=>?_)
  ·refine aK 89 (bne_eq_false_iff_eq.mpr c21)<|kd<|ge<|ar 14<|eT 2 [7,89] [(91,vi f),(92,vi 0)]<|o0 0<|have⟨bb,m47,i23,i24⟩:=h;bJ (x:=BN) (σ:=Int) (λs_=> [(0,Vq tv),(1,vu wv),(8,vi a),(12,vi e),(91,vi f),(92,vi s_)]) (λs_ H=>bb s_ H) (λs_ H=>m47 s_ H) (0:Int) (by kernel_rfl) i23 sk ?_
   rintro g H9 i25
   have h:=i24 g H9 i25
   refine kT [(0,Vq tv),(1,vu wv),(8,vi a),(12,vi e),(91,vi f),(92,vi g)]<|ar 15<|eT 1 [] [(93,.bool (decide (g<f)))]<|ge<|qx h (λc26 h=>?_) (λc26 h=>?_)
   ·refine aJ 93 (zX c26)<|kd<|ge<|o0 1<|ar 16<|eT 2 [93] [(14,vi g)]<|ar 17<|eH 3 [] [(98,Vq tv)]<|have⟨a2,q28,h⟩:=h;hH 99 23 q28 [98] ?_
    obtain⟨aj,rfl,hf⟩:=h
    refine eH 2 [99] [(101,Vq aj)]<|have⟨al,q29,h⟩:=hf;hH 102 49 q29 [101] ?_
    obtain⟨au,rfl,hg⟩:=h
    refine eH 2 [102] [(104,Vq au)]<|have⟨az,q30,h⟩:=hg;hH 105 52 q30 [104] ?_
    obtain⟨ax,rfl,hh⟩:=h
    refine eH 2 [105] [(107,Vq ax)]<|have⟨ab,q31,h⟩:=hh;hH 108 78 q31 [107]<|eH 3 [] [(111,vi (zY (a+g)))]<|yD 112 [108,111] h λo bf a6 h=>eT 5 [112] [(15,vu o)]<|nx 18<|eH 3 [] [(117,Vq tv)]<|have⟨ak,q32,h⟩:=h;hH 118 23 q32 [117] ?_
    obtain⟨am,rfl,hi⟩:=h
    refine eH 2 [118] [(120,Vq am)]<|have⟨ap,q33,h⟩:=hi;hH 121 49 q33 [120] ?_
    obtain⟨a1,rfl,hj⟩:=h
    refine eH 2 [121] [(123,Vq a1)]<|have⟨an,q34,h⟩:=hj;hH 124 52 q34 [123] ?_
    obtain⟨a4,rfl,hk⟩:=h
    refine eH 2 [124] [(126,Vq a4)] ?_
    obtain⟨aa,q35,h⟩:=hk
    refine hH 127 78 q35 [126]<|eH 4 [14,15] [(130,vi (zY (e+g))),(131,vu o)]<|zf (some 132) h ?_;clear h
    rintro bw bi ⟨bn,rfl,h⟩
    exact kb [127,130,131] []<|zq<|aA<|aC<|nx 19<|eT 2 [92] [(92,vi (zY (g+1)))]<|aR ((zY (g+1)):Int) sk h
   refine aK 93 (zQ c26)<|zk 0<|aB<|aB<|aN<|aC<|ar 20<|eH 1 [91,92,93] [(135,vi e)]<|yD 136 [135] h λp bh a5 h=>eT 5 [136] [(17,vu p)]<|ar 21<|eH 3 [0] [(141,Vq tv)]<|have⟨aq,q36,h⟩:=h;hH 142 23 q36 [141] ?_
   obtain⟨aw,rfl,hl⟩:=h
   refine eH 2 [142] [(144,Vq aw)]<|have⟨av,q37,h⟩:=hl;hH 145 49 q37 [144] ?_
   obtain⟨ao,rfl,hm⟩:=h
   refine eH 2 [145] [(147,Vq ao)]<|have⟨ai,q38,h⟩:=hm;hH 148 52 q38 [147] ?_
   obtain⟨a0,rfl,hn⟩:=h
   refine eH 2 [148] [(150,Vq a0)] ?_
   obtain⟨ac,q39,h⟩:=hn
   refine hH 151 78 q39 [150]<|eH 2 [8,17] [(152,vi a),(153,vu p)]<|zf (some 154) h ?_;clear h
   rintro bp b0 ⟨bj,rfl,h⟩
   exact kb [151,152,153] []<|ym<|ar 22<|eH 1 [1] [(156,vu wv)]<|sa 157 [156] h λag bz h=>eH 1 [12] [(158,vi e)]<|zm 159 (λae be=>[(159,.tuple #[vu ae,vi be])]) h λae be bu h=>u5 5 [(19,vu ae)]<|ar 23<|hV 2 [4] [vu ae] hQ h
  exact aJ 89 (bne_iff_ne.mpr c21)<|ar 13<|hV 2 [4] [vu wv] hQ h
 exact aJ 24 (congrArg Bool.not (zZ c1))<|ar 2<|hV 2 [4] [vu wv] hQ h
def cU.K0:=Func.code f14
def cU.K1:=ca K0
def cU.K2:=ca K1
def cU.pt(tv:zW)(H:zV)(R:zv):Prop:=
 ∃(I3:zV->Prop) (m3:zV->Nat),I3 H/\ ∀H1,I3 H1->
 bL.C tv H1 (λv H2=> ∃x,v=.bool x/\
 if x=true then(
 R (.tuple #[]) H2)
 else
 dT.C tv H2 (λb H3=> ∃a,b=.bool a/\
 if a=true then(
 (I3 H3/\m3 H3<m3 H1))
 else
 R (.tuple #[]) H3))
theorem cU.link(h:pt d H R):C d H R:=by
 refine p0 K0 9 func14 ?_
 intro w0 Q hQ
 unfold pt at h
 refine kT [(0,vp d)]<|o0 0<|have⟨I3,m3,i1,i2⟩:=h;bJ (x:=K2) (σ:=Unit) (λs_=> [(0,vp d)]) (λs_ H=>I3 H) (λs_ H=>m3 H) (():Unit) (by kernel_rfl) i1 sk ?_
 rintro _ H1 i3
 have h:=i2 H1 i3
 refine kT [(0,vp d)]<|ge<|ar 0<|eH 1 [] [(2,vp d)]<|sa 3 [2] h λx H2 h=>eH 2 [3] [(5,.bool (!x))]<|qx h (λc4 h=>?_) (λc4 h=>?_)
 ·have b5:(!x)=false:=congrArg Bool.not (c4)
  have b52:x=true:=c4
  refine oo 5 (b:=(!x)) (v:=false) (by simp only[b5,b52,Bool.not_true,Bool.not_false]) ?_
  clear b5 b52
  exact eT 3 [5] [(8,VF)]<|yn 8<|zk 0<|aB<|aB<|aN<|gF (fn:=f14) [] hQ (show bS _ _ _ [] _ from .nil) h
 have b5:(!x)=true:=congrArg Bool.not (zZ c4)
 have b52:x=false:=zZ c4
 refine oo 5 (b:=(!x)) (v:=true) (by simp only[b5,b52,Bool.not_true,Bool.not_false]) ?_
 clear b5 b52
 refine eH 1 [] [(6,vp d)]<|sa 7 [6] h λa H3 h=>eT 1 [5,7] [(8,.bool a)]<|qx h (λc6 h=>?_) (λc6 h=>?_)
 ·exact aJ 8 c6<|kd<|o0 1<|yR<|aA<|aC<|aR (s:=()) (():Unit) sk h
 exact aK 8 (zZ c6)<|zk 0<|aB<|aB<|aN<|gF (fn:=f14) [] hQ (show bS _ _ _ [] _ from .nil) h
namespace dG
def K0:=Func.code f16
def K2:=cb K0
def K7:=ca K2
def K8:=cb K2
def zu:=cb K7
def K11:=ca zu
def zd:=ca K11
def Bc:=ca K8
def zI:=cb Bc
def AB:=ca zI
def zN:=ca AB
def AD:=cb zN
def Be:=cb AD
def Bk:=ca Be
def Ao:=ca Bk
def AX:=cb Ao
end dG
def dG.pt(tv:zW)(H:zV)(R:zv):Prop:=
 bL.C tv H (λv H1=> ∃x,v=.bool x/\
 if x=true then(
 R (.tuple #[]) H1)
 else
 ∃d,tv=some d/\
 ∃g:List Value,g.length=1024/\aM H1 (d.add 2) 0 g/\
 ∃(aa:zw) (m13:Int->zV->Nat),aa 0 H1/\ ∀e H2,aa e H2->
 if e<1024 then(
 ∃s,((0<=e/\e< (1024:Int))/\((g:List Value).toArray)[Int.toNat e]?=some (vi s))/\
 if s=1 then(
 ∃ac,hat H2 d=some (vp ac)/\
 ∃ae,ac=some ae/\
 ∃ab,hat H2 ae=some (vp ab)/\
 ∃af,ab=some af/\
 ∃z,hat H2 af=some (vp z)/\
 eJ.C z e H2 (λaj H3=> ∃al,aj=vi al/\
 (aa (zY (e+1)) H3/\m13 (zY (e+1)) H3<m13 e H2)))
 else
 (aa (zY (e+1)) H2/\m13 (zY (e+1)) H2<m13 e H2))
 else
 ∃xB xN xC,hat H2 (d.add 1028)=some (vs xB xN xC)/\
 ∃(ag:zw) (m34:Int->zV->Nat),ag 0 H2/\ ∀f H4,ag f H4->
 if f< (xN:Int)then(
 ∃j,xB=some j/\
 yZ f xN/\
 ∃p m,aM H4 (j.add (Int.toNat f*2)) 0 [vi p,vi m]/\
 ∀b H5,b=H4.size->H5=H4.push (.cells #[vi 0,vi 0] 127)->
 (aH H5 (ad b) 0 2)/\ ∀H6,H6=aP H5 (ad b) [vi p,vi m] 0->
 ∃ai,hat H6 d=some (vp ai)/\
 ∃o,ai=some o/\
 ∃r,hat H6 o=some (vp r)/\
 ∃q,hat H6 (ad b)=some (vi q)/\
 ∃u,hat H6 ((ad b).add 1)=some (vi u)/\
 dJ.C r q u H6 (λak H7=> ∃ah,ak=vi ah/\
 (ag (zY (f+1)) H7/\m34 (zY (f+1)) H7<m34 f H4)))
 else
 ∃y,hat H4 d=some (vp y)/\
 gP.C y H4 (λ_ H8=>
 (aH H8 (d.add 1029) 0 1)/\ ∀H9,H9=aP H8 (d.add 1029) [vi 1] 0->
 R (.tuple #[]) H9))
theorem dG.link(h:pt d H R):C d H R:=by
 refine p0 K0 61 func16 ?_
 intro w0 Q hQ
 unfold pt zY at h
 refine kT [(0,vp d)]<|ge<|ar 0<|eH 1 [] [(6,vp d)]<|sa 7 [6] h λx H1 h=>ym<|qx h (λc1 h=>?_) (λc1 h=>?_)
 ·exact aJ 7 c1<|iV [] [] hQ h
 refine aK 7 (zZ c1)<|kd<|ge<|ar 1<|eH 1 [7] [(8,vp d)] ?_
 obtain⟨tv,rfl,ha⟩:=h
 refine u8 2 [(0,Vq tv),(10,Vq (tv.add 2))] ?_
 obtain⟨g,l4,q3,h⟩:=ha
 refine yI 11 (aQ 103 (Vq (tv.add 2))) (.agg (g).toArray) (jY (eO (λ_=>by kernel_rfl) (λw=>by rw[l4];kernel_rfl) q3)) [10]<|eT 1 [] [(12,vi 0)]<|o0 0 ?_
 refine have⟨aa,m13,i5,i6⟩:=h;bJ (x:=zd) (σ:=Int) (λs_=> [(0,Vq tv),(11,.agg (g).toArray),(12,vi s_)]) (λs_ H=>aa s_ H) (λs_ H=>m13 s_ H) (0:Int) (by kernel_rfl) i5 sk ?_
 rintro e H2 i7
 have h:=i6 e H2 i7
 refine kT [(0,Vq tv),(11,.agg (g).toArray),(12,vi e)]<|ar 2<|eT 1 [] [(13,.bool (decide (e<1024)))]<|ge<|qx h (λc8 h=>?_) (λc8 h=>?_)
 ·refine aJ 13 (zX c8)<|kd<|ge<|o0 1<|ar 3<|eH 1 [13] [(14,vi e)]<|have⟨s,q10,h⟩:=h;yI 15 (mD 103 (.agg (g).toArray) (vi e)) (vi s) (λw _=>jZ (P:=prog) (t:=103) (elem:=3) (n:=1024) underlying103 (λ_=>by kernel_rfl) (λ_=>by kernel_rfl) q10.1.1 q10.1.2 q10.2 w) []<|eT 2 [14,15] [(2,vi e),(3,vi s)]<|ar 4<|eT 2 [3] [(17,.bool (s==1))]<|qx h (λc11 h=>?_) (λc11 h=>?_)
  ·refine aJ 17 (zK c11)<|nx 5<|eH 3 [17] [(20,Vq tv)]<|have⟨ac,q13,h⟩:=h;hH 21 23 q13 [20] ?_
   obtain⟨ae,rfl,hb⟩:=h
   refine eH 2 [21] [(23,Vq ae)]<|have⟨ab,q14,h⟩:=hb;hH 24 49 q14 [23] ?_
   obtain⟨af,rfl,hc⟩:=h
   refine eH 2 [24] [(26,Vq af)] ?_
   obtain⟨z,q15,h⟩:=hc
   refine hH 27 52 q15 [26]<|eH 1 [2] [(28,vi e)]<|zf (some 29) h ?_;clear h
   rintro aj H3 ⟨al,rfl,h⟩
   exact kb [27,28] []<|zq<|aA<|aC<|nx 6<|eT 2 [12] [(12,vi (zY (e+1)))]<|aR ((zY (e+1)):Int) sk h
  exact aK 17 (zJ c11)<|yR<|aA<|aC<|nx 6<|eT 2 [2,12,17] [(12,vi (zY (e+1)))]<|aR ((zY (e+1)):Int) sk h
 refine aK 13 (zQ c8)<|zk 0<|aB<|aB<|aN<|aC<|ge<|ar 7<|eH 3 [11,12,13] [(33,Vq (tv.add 1028))]<|have⟨xB,xN,xC,q16,h⟩:=h;hH 34 104 q16 [33]<|eT 2 [] [(35,vi xN),(36,vi 0)]<|o0 2<|have⟨ag,m34,i17,i18⟩:=h;bJ (x:=zN) (σ:=Int) (λs_=> [(0,Vq tv),(34,vs xB xN xC),(35,vi xN),(36,vi s_)]) (λs_ H=>ag s_ H) (λs_ H=>m34 s_ H) (0:Int) (by kernel_rfl) i17 sk ?_
 rintro f H4 i19
 have h:=i18 f H4 i19
 refine kT [(0,Vq tv),(34,vs xB xN xC),(35,vi xN),(36,vi f)]<|ar 8<|eT 1 [] [(37,.bool (decide (f< (xN:Int))))]<|ge<|qx h (λc20 h=>?_) (λc20 h=>?_)
 ·refine aJ 37 (zX c20)<|kd<|ge<|o0 3<|ar 9<|yA [37] [] ?_
  obtain⟨j,rfl,q22,hd⟩:=h
  refine yp (some 38) 104 127 2 j xN xC .i64 f underlying104 q22.1 q22.2 [34] [(34,vs (some j) xN xC),(38,Vq (j.add (Int.toNat f*2)))]<|have⟨p,m,q23,h⟩:=hd;zr 39 127 q23 [38]<|sv (some 5) (λb=>vp (pa b)) (.cells #[vi 0,vi 0] 127)<|λb H5 e24 e25=>have h:=h b H5 e24 e25;kb [] [(5,vp (pa b))]<|have⟨q27,h⟩:=h;fK 127 [vi p,vi m] q27<|λH6 e26=>have h:=h H6 e26;kb [39] []<|ym ?_
  obtain⟨ai,q28,o,rfl,r,q29,q,q30,u,q31,he⟩:=h
  refine yq 10 (Code.ops AX) [(11,tv,[Vq o]),(11,o,[vp r]),(11,(ad b),[vi q]),(11,((ad b).add 1),[vi u])] 12 (bv 12 0) (show aE _ _ _ from⟨⟨q28,trivial⟩,⟨q29,trivial⟩,⟨q30,trivial⟩,⟨q31,trivial⟩,trivial⟩)<|y9 0 (some 40) (Vq tv) (bv 12 1) [(0,Vq tv),(5,vp (pa b)),(34,vs (some j) xN xC),(35,vi xN),(36,vi f),(40,Vq tv)]<|aG 1 41 (Vq tv) (bv 12 3) [40]<|aG 2 42 (Vq tv) (bv 12 7) [41]<|nc 3 43 (Vq o) (bv 12 15) [42] (aQ 23 (Vq tv)) (yY 11 yX)<|aG 4 44 (Vq o) (bv 12 31) [43]<|aG 5 45 (Vq o) (bv 12 63) [44]<|nc 6 46 (vp r) (bv 12 127) [45] (aQ 49 (Vq o)) (yY 11 yQ)<|aG 7 47 (vp (pa b)) (bv 12 255) []<|nc 8 48 (vi q) (bv 12 511) [47] (aQ 3 (vp (pa b))) (yY 11 yJ)<|aG 9 49 (Vq ((ad b).add 1)) (bv 12 1023) [5]<|nc 10 50 (vi u) (bv 12 2047) [49] (aQ 3 (Vq ((ad b).add 1))) (yY 11 yK)<|yx 11 (some 51) (bv 12 4095) 64 #[vp r,vi q,vi u] he ?_;clear he
  rintro ak H7 ⟨ah,rfl,h⟩
  refine⟨[(0,Vq tv),(34,vs (some j) xN xC),(35,vi xN),(36,vi f)],pk,(show aE _ _ _ from⟨trivial,trivial,trivial,trivial,trivial⟩),?_⟩
  exact eP [(0,Vq tv),(34,vs (some j) xN xC),(35,vi xN),(36,vi f)] sk<|yz<|aA<|aC<|nx 11<|u5 2 [(0,Vq tv),(34,vs (some j) xN xC),(35,vi xN),(36,vi (zY (f+1)))]<|aR ((zY (f+1)):Int) sk h
 refine aK 37 (zQ c20)<|zk 2<|aB<|aB<|aN<|aC<|ar 12<|u8 3 [(0,Vq tv),(55,Vq tv)] ?_
 obtain⟨y,q32,h⟩:=h
 refine hH 56 23 q32 [55]<|zf (some 57) h ?_;clear h
 refine λv_4 H8 h=>kb [56] []<|ym<|nx 13<|u8 3 [(60,Vq (tv.add 1029))]<|have⟨q34,h⟩:=h;eQ 3 (vi 1) q34<|λH9 e33=>have h:=h H9 e33;⟨[],pk,?_⟩
 exact zq<|gF (fn:=f16) [] hQ (show bS _ _ _ [] _ from .nil) h
theorem dG.linkD{tv:zW}{H:zV}{R:zv}(h:pt tv H R):CD tv H (λH=> ∃v,R v H):=by
 refine vo (fn:=f16) (c:=K0) 61 func16 (by kernel_rfl) (by kernel_rfl) (Nat.le_of_ble_eq_true (by kernel_rfl)) ?_
 intro w0 Q hQ
 unfold pt zY at h
 refine kT [(0,vp tv)]<|ge<|ar 0<|eH 1 [] [(6,vp tv)]<|sa 7 [6] h λx H1 h=>ym<|qx h (λc1 h=>?_) (λc1 h=>?_)
 ·refine aJ 7 c1<|zx ?_
  show At _ _ _ _ _ (Q .ret)
  exact wF (fn:=f16) [] hQ (show bS _ _ _ [] _ from .nil) h
 refine aK 7 (zZ c1)<|kd<|ge<|ar 1<|eH 1 [7] [(8,vp tv)] ?_
 obtain⟨d,rfl,ha⟩:=h
 refine u8 2 [(0,Vq d),(10,Vq (d.add 2))] ?_
 obtain⟨g,l4,q3,h⟩:=ha
 refine yI 11 (aQ 103 (Vq (d.add 2))) (.agg (g).toArray) (jY (eO (λ_=>by kernel_rfl) (λw=>by rw[l4];kernel_rfl) q3)) [10]<|eT 1 [] [(12,vi 0)]<|o0 0 ?_
 refine have⟨aa,m13,i5,i6⟩:=h;bJ (x:=zd) (σ:=Int) (λs_=> [(0,Vq d),(11,.agg (g).toArray),(12,vi s_)]) (λs_ H=>aa s_ H) (λs_ H=>m13 s_ H) (0:Int) (by kernel_rfl) i5 sk ?_
 rintro e H2 i7
 have h:=i6 e H2 i7
 refine kT [(0,Vq d),(11,.agg (g).toArray),(12,vi e)]<|ar 2<|eT 1 [] [(13,.bool (decide (e<1024)))]<|ge<|qx h (λc8 h=>?_) (λc8 h=>?_)
 ·refine aJ 13 (zX c8)<|kd<|ge<|o0 1<|ar 3<|eH 1 [13] [(14,vi e)]<|have⟨s,q10,h⟩:=h;yI 15 (mD 103 (.agg (g).toArray) (vi e)) (vi s) (λw _=>jZ (P:=prog) (t:=103) (elem:=3) (n:=1024) underlying103 (λ_=>by kernel_rfl) (λ_=>by kernel_rfl) q10.1.1 q10.1.2 q10.2 w) []<|eT 2 [14,15] [(2,vi e),(3,vi s)]<|ar 4<|eT 2 [3] [(17,.bool (s==1))]<|qx h (λc11 h=>?_) (λc11 h=>?_)
  ·refine aJ 17 (zK c11)<|nx 5<|eH 3 [17] [(20,Vq d)]<|have⟨ac,q13,h⟩:=h;hH 21 23 q13 [20] ?_
   obtain⟨ae,rfl,hb⟩:=h
   refine eH 2 [21] [(23,Vq ae)]<|have⟨ab,q14,h⟩:=hb;hH 24 49 q14 [23] ?_
   obtain⟨af,rfl,hc⟩:=h
   refine eH 2 [24] [(26,Vq af)] ?_
   obtain⟨z,q15,h⟩:=hc
   refine hH 27 52 q15 [26]<|eH 1 [2] [(28,vi e)]<|zf (some 29) h ?_;clear h
   rintro aj H3 ⟨al,rfl,h⟩
   exact kb [27,28] []<|zq<|aA<|aC<|nx 6<|eT 2 [12] [(12,vi (zY (e+1)))]<|aR ((zY (e+1)):Int) sk h
  exact aK 17 (zJ c11)<|yR<|aA<|aC<|nx 6<|eT 2 [2,12,17] [(12,vi (zY (e+1)))]<|aR ((zY (e+1)):Int) sk h
 refine aK 13 (zQ c8)<|zk 0<|aB<|aB<|aN<|aC<|ge<|ar 7<|eH 3 [11,12,13] [(33,Vq (d.add 1028))]<|have⟨xB,xN,xC,q16,h⟩:=h;hH 34 104 q16 [33]<|eT 2 [] [(35,vi xN),(36,vi 0)]<|o0 2<|have⟨ag,m34,i17,i18⟩:=h;bJ (x:=zN) (σ:=Int) (λs_=> [(0,Vq d),(34,vs xB xN xC),(35,vi xN),(36,vi s_)]) (λs_ H=>ag s_ H) (λs_ H=>m34 s_ H) (0:Int) (by kernel_rfl) i17 sk ?_
 rintro f H4 i19
 have h:=i18 f H4 i19
 refine kT [(0,Vq d),(34,vs xB xN xC),(35,vi xN),(36,vi f)]<|ar 8<|eT 1 [] [(37,.bool (decide (f< (xN:Int))))]<|ge<|qx h (λc20 h=>?_) (λc20 h=>?_)
 ·refine aJ 37 (zX c20)<|kd<|ge<|o0 3<|ar 9<|yA [37] [] ?_
  obtain⟨j,rfl,q22,hd⟩:=h
  refine yp (some 38) 104 127 2 j xN xC .i64 f underlying104 q22.1 q22.2 [34] [(34,vs (some j) xN xC),(38,Vq (j.add (Int.toNat f*2)))]<|have⟨p,m,q23,h⟩:=hd;zr 39 127 q23 [38]<|sv (some 5) (λb=>vp (pa b)) (.cells #[vi 0,vi 0] 127)<|λb H5 e24 e25=>have h:=h b H5 e24 e25;kb [] [(5,vp (pa b))]<|have⟨q27,h⟩:=h;fK 127 [vi p,vi m] q27<|λH6 e26=>have h:=h H6 e26;kb [39] []<|ym ?_
  obtain⟨ai,q28,o,rfl,r,q29,q,q30,u,q31,he⟩:=h
  refine yq 10 (Code.ops AX) [(11,d,[Vq o]),(11,o,[vp r]),(11,(ad b),[vi q]),(11,((ad b).add 1),[vi u])] 12 (bv 12 0) (show aE _ _ _ from⟨⟨q28,trivial⟩,⟨q29,trivial⟩,⟨q30,trivial⟩,⟨q31,trivial⟩,trivial⟩)<|y9 0 (some 40) (Vq d) (bv 12 1) [(0,Vq d),(5,vp (pa b)),(34,vs (some j) xN xC),(35,vi xN),(36,vi f),(40,Vq d)]<|aG 1 41 (Vq d) (bv 12 3) [40]<|aG 2 42 (Vq d) (bv 12 7) [41]<|nc 3 43 (Vq o) (bv 12 15) [42] (aQ 23 (Vq d)) (yY 11 yX)<|aG 4 44 (Vq o) (bv 12 31) [43]<|aG 5 45 (Vq o) (bv 12 63) [44]<|nc 6 46 (vp r) (bv 12 127) [45] (aQ 49 (Vq o)) (yY 11 yQ)<|aG 7 47 (vp (pa b)) (bv 12 255) []<|nc 8 48 (vi q) (bv 12 511) [47] (aQ 3 (vp (pa b))) (yY 11 yJ)<|aG 9 49 (Vq ((ad b).add 1)) (bv 12 1023) [5]<|nc 10 50 (vi u) (bv 12 2047) [49] (aQ 3 (Vq ((ad b).add 1))) (yY 11 yK)<|yx 11 (some 51) (bv 12 4095) 64 #[vp r,vi q,vi u] he ?_;clear he
  rintro ak H7 ⟨ah,rfl,h⟩
  refine⟨[(0,Vq d),(34,vs (some j) xN xC),(35,vi xN),(36,vi f)],pk,(show aE _ _ _ from⟨trivial,trivial,trivial,trivial,trivial⟩),?_⟩
  exact eP [(0,Vq d),(34,vs (some j) xN xC),(35,vi xN),(36,vi f)] sk<|yz<|aA<|aC<|nx 11<|u5 2 [(0,Vq d),(34,vs (some j) xN xC),(35,vi xN),(36,vi (zY (f+1)))]<|aR ((zY (f+1)):Int) sk h
 refine aK 37 (zQ c20)<|zk 2<|aB<|aB<|aN<|aC<|ar 12<|u8 3 [(0,Vq d),(55,Vq d)] ?_
 obtain⟨y,q32,h⟩:=h
 refine hH 56 23 q32 [55]<|zf (some 57) h ?_;clear h
 refine λv_4 H8 h=>kb [56] []<|ym<|nx 13<|u8 3 [(60,Vq (d.add 1029))]<|have⟨q34,h⟩:=h;eQ 3 (vi 1) q34<|λH9 e33=>have h:=h H9 e33;⟨[],pk,?_⟩
 exact zq<|vq (fn:=f16) [] hQ (show bS _ _ _ [] _ from .nil) h
variable{H:zV}{d:zW}{R:zv}{i:Int}
namespace dM
def K0:=Func.code f27
def K2:=cb K0
def K8:=cb K2
def K9:=ca K8
def zu:=ca K9
def zd:=cb zu
def zG:=cb zd
def zC:=ca zG
def Ac:=ca zC
def AC:=cb Ac
def Ak:=ca AC
end dM
def dM.pt(tv:zW)(H:zV)(R:zv):Prop:=
 bL.C tv H (λv H1=> ∃x,v=.bool x/\
 if x=true then(
 R (.tuple #[]) H1)
 else
 ∃d,tv=some d/\
 ∃xB xN xC,hat H1 (d.add 1028)=some (vs xB xN xC)/\
 ∃(a1:zw) (m11:Int->zV->Nat),a1 0 H1/\ ∀e H2,a1 e H2->
 if e< (xN:Int)then(
 ∃f,xB=some f/\
 yZ e xN/\
 ∃av ao,aM H2 (f.add (Int.toNat e*2)) 0 [vi av,vi ao]/\
 ∀b H3,b=H2.size->H3=H2.push (.cells #[vi 0,vi 0] 127)->
 (aH H3 (ad b) 0 2)/\ ∀H4,H4=aP H3 (ad b) [vi av,vi ao] 0->
 ∃a4,hat H4 d=some (vp a4)/\
 ∃am,a4=some am/\
 ∃a5,hat H4 am=some (vp a5)/\
 ∃al,a5=some al/\
 ∃a6,hat H4 al=some (vp a6)/\
 ∃an,a6=some an/\
 ∃au,hat H4 an=some (vp au)/\
 ∃ax,hat H4 (ad b)=some (vi ax)/\
 (
 bA.C au ax H4 (λa7 H5=> ∃aa y ak r q p o rb,a7=.tuple #[.agg #[vi aa,vi y,vi ak,vi r,vi q,vi p,vi o],.bool rb]/\
 ∀ac H6,ac=H5.size->H6=H5.push (.cells #[vi 0,vi 0,vi 0,vi 0,vi 0,vi 0,vi 0] 108)->
 (aH H6 (ad ac) 0 7)/\ ∀H7,H7=aP H6 (ad ac) [vi aa,vi y,vi ak,vi r,vi q,vi p,vi o] 0->
 ∃aq,hat H7 (ad b)=some (vi aq)/\
 ∃aw,hat H7 ((ad b).add 1)=some (vi aw)/\
 ∃ap,hat H7 ((ad ac).add 2)=some (vi ap)/\
 ∃ah,hat H7 ((ad b).add 1)=some (vi ah)/\
 ∃a0,hat H7 ((ad ac).add 1)=some (vi a0)/\
 cI.C (some d) aq (zY (aw*16)) (if(zY ((zY (ah+1))*16))<ap then(zY ((zY (ah+1))*16))else ap) a0 H7 (λ_ H8=>
 (a1 (zY (e+1)) H8/\m11 (zY (e+1)) H8<m11 e H2))))/\(
 ∀z H9,z=H4.size->H9=H4.push (.cells #[vi 0,vi 0,vi 0,vi 0,vi 0,vi 0,vi 0] 108)->aM H9 d 0 [Vq am]/\aM H9 am 0 [Vq al]/\aM H9 al 0 [Vq an]/\aM H9 an 0 [vp au]/\aM H9 (ad b) 0 [vi ax]/\
 bA.C au ax H9 (λa8 a2=> ∃u s ab j n m g ag,a8=.tuple #[.agg #[vi u,vi s,vi ab,vi j,vi n,vi m,vi g],.bool ag]/\
 (aH a2 (ad z) 0 7)/\ ∀ay,ay=aP a2 (ad z) [vi u,vi s,vi ab,vi j,vi n,vi m,vi g] 0->
 ∃af,hat ay (ad b)=some (vi af)/\
 ∃ai,hat ay ((ad b).add 1)=some (vi ai)/\
 ∃ae,hat ay ((ad z).add 2)=some (vi ae)/\
 ∃aj,hat ay ((ad b).add 1)=some (vi aj)/\
 ∃az,hat ay ((ad z).add 1)=some (vi az)/\
 cI.C (some d) af (zY (ai*16)) (if(zY ((zY (aj+1))*16))<ae then(zY ((zY (aj+1))*16))else ae) az ay (λ_ a3=>
 (a1 (zY (e+1)) a3/\m11 (zY (e+1)) a3<m11 e H2)))))
 else
 R (.tuple #[]) H2)
theorem dM.link(h:pt d H R):C d H R:=by
 refine p0 K0 53 func27 ?_
 intro w0 Q hQ
 unfold pt zY at h
 refine kT [(0,vp d)]<|ge<|ar 0<|eH 1 [] [(6,vp d)]<|sa 7 [6] h λx H1 h=>ym<|qx h (λc1 h=>?_) (λc1 h=>?_)
 ·exact aJ 7 c1<|iV [] [] hQ h
 refine aK 7 (zZ c1)<|kd<|ar 1<|eH 1 [7] [(8,vp d)] ?_
 obtain⟨tv,rfl,ha⟩:=h
 refine u8 2 [(0,Vq tv),(10,Vq (tv.add 1028))]<|have⟨xB,xN,xC,q3,h⟩:=ha;hH 11 104 q3 [10]<|eT 2 [] [(12,vi xN),(13,vi 0)]<|o0 0<|have⟨a1,m11,i4,i5⟩:=h;bJ (x:=zu) (σ:=Int) (λs_=> [(0,Vq tv),(11,vs xB xN xC),(12,vi xN),(13,vi s_)]) (λs_ H=>a1 s_ H) (λs_ H=>m11 s_ H) (0:Int) (by kernel_rfl) i4 sk ?_
 rintro e H2 i6
 have h:=i5 e H2 i6
 refine kT [(0,Vq tv),(11,vs xB xN xC),(12,vi xN),(13,vi e)]<|ar 2<|eT 1 [] [(14,.bool (decide (e< (xN:Int))))]<|ge<|qx h (λc7 h=>?_) (λc7 h=>?_)
 ·refine aJ 14 (zX c7)<|kd<|ge<|o0 1<|ar 3<|yA [14] [] ?_
  obtain⟨f,rfl,q9,hb⟩:=h
  refine yp (some 15) 104 127 2 f xN xC .i64 e underlying104 q9.1 q9.2 [11] [(11,vs (some f) xN xC),(15,Vq (f.add (Int.toNat e*2)))]<|have⟨av,ao,q10,h⟩:=hb;zr 16 127 q10 [15]<|sv (some 3) (λb=>vp (pa b)) (.cells #[vi 0,vi 0] 127)<|λb H3 e11 e12=>have h:=h b H3 e11 e12;kb [] [(3,vp (pa b))]<|have⟨q14,h⟩:=h;fK 127 [vi av,vi ao] q14<|λH4 e13=>have h:=h H4 e13;kb [16] []<|ym<|ge ?_
  obtain⟨a4,q15,am,rfl,a5,q16,al,rfl,a6,q17,an,rfl,au,q18,ax,q19,hc⟩:=h
  have h:=hc
  refine yq 4 (Code.ops Ak) [(15,tv,[Vq am]),(15,am,[Vq al]),(15,al,[Vq an]),(15,an,[vp au]),(15,(ad b),[vi ax])] 22 (bv 22 0) (show aE _ _ _ from⟨⟨q15,trivial⟩,⟨q16,trivial⟩,⟨q17,trivial⟩,⟨q18,trivial⟩,⟨q19,trivial⟩,trivial⟩)<|y9 0 (some 18) (Vq tv) (bv 22 1) [(0,Vq tv),(3,vp (pa b)),(11,vs (some f) xN xC),(12,vi xN),(13,vi e),(18,Vq tv)]<|aG 1 19 (Vq tv) (bv 22 3) [18]<|aG 2 20 (Vq tv) (bv 22 7) [19]<|nc 3 21 (Vq am) (bv 22 15) [20] (aQ 23 (Vq tv)) (yY 15 yX)<|aG 4 22 (Vq am) (bv 22 31) [21]<|aG 5 23 (Vq am) (bv 22 63) [22]<|nc 6 24 (Vq al) (bv 22 127) [23] (aQ 49 (Vq am)) (yY 15 yQ)<|aG 7 25 (Vq al) (bv 22 255) [24]<|aG 8 26 (Vq al) (bv 22 511) [25]<|nc 9 27 (Vq an) (bv 22 1023) [26] (aQ 52 (Vq al)) (yY 15 yJ)<|aG 10 28 (Vq an) (bv 22 2047) [27]<|aG 11 29 (Vq an) (bv 22 4095) [28]<|nc 12 30 (vp au) (bv 22 8191) [29] (aQ 78 (Vq an)) (yY 15 yK)<|aG 13 31 (vp (pa b)) (bv 22 16383) []<|nc 14 32 (vi ax) (bv 22 32767) [31] (aQ 3 (vp (pa b))) (yY 15 yV)<|pj 15 19 (by kernel_rfl) ?fa1 ?fb1
  case' fa1=>
   replace h:=h.1
   refine pl 15 (some 33) (bv 22 65535) 47 #[vp au,vi ax] (by kernel_rfl) (λ_=>by kernel_rfl) h (by kernel_rfl) ?_;clear h
   rintro a7 H5 ⟨aa,y,ak,r,q,p,o,rb,rfl,h⟩
   refine⟨[(0,Vq tv),(3,vp (pa b)),(11,vs (some f) xN xC),(12,vi xN),(13,vi e),(33,.tuple #[.agg #[vi aa,vi y,vi ak,vi r,vi q,vi p,vi o],.bool rb])],pk,(show aE _ _ _ from⟨trivial,trivial,trivial,trivial,trivial,trivial⟩),?_⟩
   refine zh 16 (some 17) (.tuple #[.agg #[vi aa,vi y,vi ak,vi r,vi q,vi p,vi o],.bool rb]) (bv 22 131071) [(0,Vq tv),(3,vp (pa b)),(11,vs (some f) xN xC),(12,vi xN),(13,vi e),(17,.tuple #[.agg #[vi aa,vi y,vi ak,vi r,vi q,vi p,vi o],.bool rb])] (pure (.value (.tuple #[.agg #[vi aa,vi y,vi ak,vi r,vi q,vi p,vi o],.bool rb])):Sem Next) (λ_ _ _ _ _=>rfl)<|nc 17 34 (.agg #[vi aa,vi y,vi ak,vi r,vi q,vi p,vi o]) (bv 22 262143) [] (pure (.value (.agg #[vi aa,vi y,vi ak,vi r,vi q,vi p,vi o])):Sem Next) (λ_ _ _ _ _=>rfl)<|nc 18 35 (.bool rb) (bv 22 524287) [17] (pure (.value (.bool rb)):Sem Next) (λ_ _ _ _ _=>rfl)<|mX 19 (some 4) (bv 22 1048575) (λb=>vp (pa b)) (.cells #[vi 0,vi 0,vi 0,vi 0,vi 0,vi 0,vi 0] 108) (by kernel_rfl) (λ_=>by kernel_rfl) (by kernel_rfl)<|λac H6 e20 e21=>have h:=h ac H6 e20 e21;⟨[(0,Vq tv),(3,vp (pa b)),(4,vp (pa ac)),(11,vs (some f) xN xC),(12,vi xN),(13,vi e),(34,.agg #[vi aa,vi y,vi ak,vi r,vi q,vi p,vi o]),(35,.bool rb)],pk,(show aE _ _ _ from⟨trivial,trivial,trivial,trivial,trivial,trivial⟩),?_⟩
  case' fb1=>
   refine have h:=h.2;rZ 19 (some 4) (bv 22 557055) (λb=>vp (pa b)) (.cells #[vi 0,vi 0,vi 0,vi 0,vi 0,vi 0,vi 0] 108) (by kernel_rfl) (λ_=>by kernel_rfl) (by kernel_rfl)<|λac H9 e34 e35=>have h:=h ac H9 e34 e35;have⟨f29,f30,f31,f32,f33,h⟩:=h;⟨[(0,Vq tv),(3,vp (pa b)),(4,vp (pa ac)),(11,vs (some f) xN xC),(12,vi xN),(13,vi e),(30,vp au),(32,vi ax)],pk,(show aE _ _ _ from⟨f29,f30,f31,f32,f33,trivial⟩),?_⟩
   refine yx 15 (some 33) (bv 22 589823) 47 #[vp au,vi ax] h ?_;clear h
   rintro a8 H6 ⟨aa,y,ak,r,q,p,o,rb,rfl,h⟩
   refine⟨[(0,Vq tv),(3,vp (pa b)),(4,vp (pa ac)),(11,vs (some f) xN xC),(12,vi xN),(13,vi e),(33,.tuple #[.agg #[vi aa,vi y,vi ak,vi r,vi q,vi p,vi o],.bool rb])],pk,(show aE _ _ _ from⟨trivial,trivial,trivial,trivial,trivial,trivial⟩),?_⟩
   refine zh 16 (some 17) (.tuple #[.agg #[vi aa,vi y,vi ak,vi r,vi q,vi p,vi o],.bool rb]) (bv 22 655359) [(0,Vq tv),(3,vp (pa b)),(4,vp (pa ac)),(11,vs (some f) xN xC),(12,vi xN),(13,vi e),(17,.tuple #[.agg #[vi aa,vi y,vi ak,vi r,vi q,vi p,vi o],.bool rb])] (pure (.value (.tuple #[.agg #[vi aa,vi y,vi ak,vi r,vi q,vi p,vi o],.bool rb])):Sem Next) (λ_ _ _ _ _=>rfl)<|nc 17 34 (.agg #[vi aa,vi y,vi ak,vi r,vi q,vi p,vi o]) (bv 22 786431) [] (pure (.value (.agg #[vi aa,vi y,vi ak,vi r,vi q,vi p,vi o])):Sem Next) (λ_ _ _ _ _=>rfl)<|nc 18 35 (.bool rb) (bv 22 1048575) [17] (pure (.value (.bool rb)):Sem Next) (λ_ _ _ _ _=>rfl) ?_
  all_goals
   refine have⟨q23,h⟩:=h;fF 20 none (bv 22 2097151) (jH 108 (vp (pa ac)) (.agg #[vi aa,vi y,vi ak,vi r,vi q,vi p,vi o])) (λHz=>Hz=aP H6 (ad ac) [vi aa,vi y,vi ak,vi r,vi q,vi p,vi o] 0) (by kernel_rfl) (λ_=>by kernel_rfl) (iO [vi aa,vi y,vi ak,vi r,vi q,vi p,vi o] 7 (by kernel_rfl) (by kernel_rfl) (λ_=>by kernel_rfl) (by kernel_rfl) q23) (by kernel_rfl)<|λH7 e22=>have h:=h H7 e22;⟨[(0,Vq tv),(3,vp (pa b)),(4,vp (pa ac)),(11,vs (some f) xN xC),(12,vi xN),(13,vi e),(35,.bool rb)],pk,(show aE _ _ _ from⟨trivial,trivial,trivial,trivial,trivial,trivial⟩),?_⟩
   refine zh 21 (some 5) (.bool rb) (bv 22 4194303) [(0,Vq tv),(3,vp (pa b)),(4,vp (pa ac)),(11,vs (some f) xN xC),(12,vi xN),(13,vi e)] (pure (.value (.bool rb)):Sem Next) (λ_ _ _ _ _=>rfl)<|eP [(0,Vq tv),(3,vp (pa b)),(4,vp (pa ac)),(11,vs (some f) xN xC),(12,vi xN),(13,vi e)] sk<|yz<|aC<|nx 5<|u8 2 [(0,Vq tv),(3,vp (pa b)),(4,vp (pa ac)),(11,vs (some f) xN xC),(12,vi xN),(13,vi e),(36,Vq tv),(37,vp (pa b))]<|have⟨aq,q24,h⟩:=h;hH 38 3 q24 [37]<|eH 1 [] [(39,Vq ((ad b).add 1))]<|have⟨aw,q25,h⟩:=h;hH 40 3 q25 [39]<|eH 2 [40] [(41,vi (zY (aw*16))),(42,Vq ((ad ac).add 2))]<|have⟨ap,q26,h⟩:=h;hH 43 3 q26 [42]<|eH 1 [3] [(44,Vq ((ad b).add 1))]<|have⟨ah,q27,h⟩:=h;hH 45 3 q27 [44]<|eH 4 [4,43,45] [(48,vi (if(zY ((zY (ah+1))*16))<ap then(zY ((zY (ah+1))*16))else ap)),(49,Vq ((ad ac).add 1))] ?_
   obtain⟨a0,q28,h⟩:=h
   refine hH 50 3 q28 [49]<|zf (some 51) h ?_;clear h
   exact λv_3 H8 h=>kb [36,38,41,48,50] []<|zq<|aA<|aC<|nx 6<|eT 2 [13] [(13,vi (zY (e+1)))]<|aR ((zY (e+1)):Int) sk h
 exact aK 14 (zQ c7)<|zk 0<|aB<|aB<|aN<|gF (fn:=f27) [] hQ (show bS _ _ _ [] _ from .nil) h
def bH.K0:=Func.code f28
def bH.pt(tv:zW)(wv:Int)(H:zV)(R:zv):Prop:=
 dH.C tv wv H (λv H1=> ∃x,v=.bool x/\
 if x=true then(
 cW.C tv wv H1 (λa H2=> ∃ra rb,a=.tuple #[vu ra,.bool rb]/\
 R (.bool rb) H2))
 else
 R VT H1)
theorem bH.link(h:pt d i H R):C d i H R:=by
 refine p0 K0 18 func28 ?_
 intro w0 Q hQ
 unfold pt at h
 refine kT [(0,vp d),(1,vu i)]<|ar 0<|eT 1 [] []<|ge<|ar 1<|eH 2 [] [(7,vp d),(8,vu i)]<|sa 9 [7,8] h λx H1 h=>eT 1 [9] [(10,.bool (!x))]<|qx h (λc1 h=>?_) (λc1 h=>?_)
 ·exact aK 10 (congrArg Bool.not (c1))<|kd<|ar 3<|u8 2 [(12,vp d),(13,vu i)]<|zm 14 (λra rb=>[(14,.tuple #[vu ra,.bool rb])]) h λra rb H2 h=>u5 5 [(6,.bool rb)]<|ar 4<|hV 2 [4] [.bool rb] hQ h
 exact aJ 10 (congrArg Bool.not (zZ c1))<|ar 2<|hV 1 [4] [VT] hQ h
def dH.K0:=Func.code Tryz.f29
def dH.pt(tv:zW)(wv:Int)(H:zV)(R:zv):Prop:=
 gH.C wv H (λv H1=> ∃ra rb,v=.tuple #[vi ra,.bool rb]/\
 bL.C tv H1 (λf H2=> ∃x,f=.bool x/\
 if x=true then(
 R VF H2)
 else
 if rb=true then(
 cK.C wv H2 (λg H3=> ∃d,g=vi d/\
 if d=6 then(
 R VF H3)
 else
 ∃b,tv=some b/\
 ((0:Int)<=(zY (Int.tdiv ra 64))/\(zY (Int.tdiv ra 64))< (1024:Int))/\
 ∃e,hat H3 ((b.add 2).add (Int.toNat (zY (Int.tdiv ra 64))*1))=some (vi e)/\
 R (.bool (e==1)) H3))
 else
 R VF H2))
theorem dH.link(h:pt d i H R):C d i H R:=by
 refine p0 K0 33 func29 ?_
 intro w0 Q hQ
 unfold pt zY at h
 refine kT [(0,vp d),(1,vu i)]<|ar 0<|eT 1 [] []<|ar 1<|eH 1 [] [(8,vu i)]<|yD 9 [8] h λra rb H1 h=>eT 5 [9] [(5,vi ra),(6,.bool rb)]<|ar 2<|eH 1 [] [(12,vp d)]<|sa 13 [12] h λx H2 h=>eH 2 [13] [(15,.bool (!x))]<|qx h (λc1 h=>?_) (λc1 h=>?_)
 ·have b2:(!x)=false:=congrArg Bool.not (c1)
  have b22:x=true:=c1
  refine oo 15 (b:=(!x)) (v:=false) (by simp only[b2,b22,Bool.not_true,Bool.not_false]) ?_
  clear b2 b22
  exact hV 18 [4] [VF] hQ h
 have b2:(!x)=true:=congrArg Bool.not (zZ c1)
 have b22:x=false:=zZ c1
 refine oo 15 (b:=(!x)) (v:=true) (by simp only[b2,b22,Bool.not_true,Bool.not_false]) ?_
 clear b2 b22
 refine eH 3 [6,15] [(18,.bool rb)]<|qx h (λc3 h=>?_) (λc3 h=>?_)
 ·refine oo 18 c3<|eH 1 [1] [(19,vu i)]<|sa 20 [19] h λwv H3 h=>eH 3 [18,20] [(23,.bool (wv !=6))]<|qx h (λc5 h=>?_) (λc5 h=>?_)
  ·exact oo 23 (bne_eq_false_iff_eq.mpr c5)<|hV 10 [4] [VF] hQ h
  refine oo 23 (bne_iff_ne.mpr c5)<|eH 3 [0,5] [(24,vp d),(26,vi (zY (Int.tdiv ra 64)))] ?_
  obtain⟨b,rfl,ha⟩:=h
  exact eH 2 [24] [(28,Vq (b.add 2))]<|have⟨q7,h⟩:=ha;yI 29 (bD 103 (Vq (b.add 2)) (vi (zY (Int.tdiv ra 64)))) (vp (some ((b.add 2).add (Int.toNat (zY (Int.tdiv ra 64))*1)))) (λw _=>bO (P:=prog) (t:=103) (elem:=3) (sz:=1) (n:=1024) (a:=(b.add 2)) (k:=.i64) (i:=(zY (Int.tdiv ra 64))) underlying103 (λ_=>by kernel_rfl) q7.1 q7.2 w) [26,28]<|have⟨e,q8,h⟩:=h;hH 30 3 q8 [29]<|hV 3 [4] [.bool (e==1)] hQ h
 exact oo 18 (zZ c3)<|hV 15 [4] [VF] hQ h
namespace dO
def K0:=Func.code Tryz.f32
def K2:=cb K0
def K4:=cb K2
def zd:=cb K4
def zG:=cb zd
def Bb:=ca zG
def Ap:=cb zG
def zC:=ca Bb
def zT:=cb Bb
def Ac:=ca zT
def zL:=ca Ac
def Ak:=cb zL
def AU:=cb Ak
def Ag:=ca AU
def Am:=ca Ag
def zI:=cb Am
def zN:=cb zI
def AD:=cb zN
def Bp:=ca AD
def AR:=ca Ap
def AJ:=cb AR
def Ao:=ca AJ
def As:=ca Ao
def AZ:=cb As
def BG:=cb AZ
def BQ:=ca BG
def Ch:=ca BQ
def BA:=cb Ch
def K55:=ca BA
end dO
def dO.pt(tv:zW)(H:zV)(R:zv):Prop:=
 bL.C tv H (λv H1=> ∃x,v=.bool x/\
 if x=true then(
 R VN H1)
 else
 ∀b H2,b=H1.size->H2=H1.push (.cells #[VN] 75)->
 ∃e,tv=some e/\
 ∃cm,hat H2 e=some (vp cm)/\
 ∃a9,cm=some a9/\
 ∃cn,hat H2 a9=some (vp cn)/\
 ∃a8,cn=some a8/\
 ∃ck,hat H2 a8=some (vp ck)/\
 ∃ba,ck=some ba/\
 ∃bg,hat H2 ba=some (vp bg)/\
 ∃b3,hat H2 (e.add 1)=some (vi b3)/\
 ∀b7 H3,b7=H2.size->H3=H2.push (.cells #[vi b3] 3)->aM H3 e 0 [Vq a9]/\aM H3 a9 0 [Vq a8]/\aM H3 a8 0 [Vq ba]/\aM H3 ba 0 [vp bg]/\
 cF.C bg (some (ad b7)) 1 1 H3 (λcs H4=> ∃xB xN xC,cs=vs xB xN xC/\
 ∃(b5:zw) (m21:Int->zV->Nat),b5 0 H4/\ ∀o H5,b5 o H5->
 if o< (xN:Int)then(
 ∃af,xB=some af/\
 yZ o xN/\
 ∃p,hat H5 (af.add (Int.toNat o*1))=some (vi p)/\
 ∃b9,hat H5 e=some (vp b9)/\
 ∃b8,b9=some b8/\
 ∃cc,hat H5 b8=some (vp cc)/\
 ∃cd,cc=some cd/\
 ∃b4,hat H5 cd=some (vp b4)/\
 ∃b6,b4=some b6/\
 ∃bw,hat H5 b6=some (vp bw)/\
 bA.C bw p H5 (λct H6=> ∃bc az bz ap an am ao rb,ct=.tuple #[.agg #[vi bc,vi az,vi bz,vi ap,vi an,vi am,vi ao],.bool rb]/\
 ∀ai H7,ai=H6.size->H7=H6.push (.cells #[vi 0,vi 0,vi 0,vi 0,vi 0,vi 0,vi 0] 108)->
 (aH H7 (ad ai) 0 7)/\ ∀H8,H8=aP H7 (ad ai) [vi bc,vi az,vi bz,vi ap,vi an,vi am,vi ao] 0->
 ∃bk,hat H8 ((ad ai).add 1)=some (vi bk)/\
 if bk=1 then(
 yZ p 1024/\
 ∃bp,hat H8 ((e.add 2).add (Int.toNat p*1))=some (vi bp)/\
 if bp=0 then(
 ∃bj,hat H8 (e.add 1026)=some (.map bj)/\
 ∃bo,hat H8 ((ad ai).add 2)=some (vi bo)/\
 ∃mr,bj=some mr/\
 ∃es cl ks,H8[mr]?=some (.map es cl)/\va (aY .i64) es.toList ks/\
 ∃b0,(yl ks p).getD (vi 0)=vi b0/\
 aM H8 ((ad ai).add 2) 0 [vi bo]/\bM.C p b0 bo (some (ad b)) H8 (λ_ H9=>
 (b5 (zY (o+1)) H9/\m21 (zY (o+1)) H9<m21 o H5)))
 else
 (b5 (zY (o+1)) H8/\m21 (zY (o+1)) H8<m21 o H5))
 else
 (b5 (zY (o+1)) H8/\m21 (zY (o+1)) H8<m21 o H5)))
 else
 ∃a7 d f,hat H5 (e.add 1028)=some (vs a7 d f)/\
 ∃(b1:zw) (m44:Int->zV->Nat),b1 0 H5/\ ∀g H10,b1 g H10->
 if g< (d:Int)then(
 ∃j,a7=some j/\
 yZ g d/\
 ∃bm bb,aM H10 (j.add (Int.toNat g*2)) 0 [vi bm,vi bb]/\
 ∀m H11,m=H10.size->H11=H10.push (.cells #[vi 0,vi 0] 127)->
 (aH H11 (ad m) 0 2)/\ ∀bq,bq=aP H11 (ad m) [vi bm,vi bb] 0->
 ∃ce,hat bq e=some (vp ce)/\
 ∃aw,ce=some aw/\
 ∃ch,hat bq aw=some (vp ch)/\
 ∃ax,ch=some ax/\
 ∃cg,hat bq ax=some (vp cg)/\
 ∃ay,cg=some ay/\
 ∃a1,hat bq ay=some (vp a1)/\
 ∃be,hat bq (ad m)=some (vi be)/\
 (
 bA.C a1 be bq (λcq cp=> ∃aj ag aq s r y q a0,cq=.tuple #[.agg #[vi aj,vi ag,vi aq,vi s,vi r,vi y,vi q],.bool a0]/\
 ∀au H14,au=cp.size->H14=cp.push (.cells #[vi 0,vi 0,vi 0,vi 0,vi 0,vi 0,vi 0] 108)->
 (aH H14 (ad au) 0 7)/\ ∀br,br=aP H14 (ad au) [vi aj,vi ag,vi aq,vi s,vi r,vi y,vi q] 0->
 ∃bl,hat br ((ad au).add 1)=some (vi bl)/\
 if bl=1 then(
 ∃a2,hat br (ad m)=some (vi a2)/\
 ∃bd,hat br ((ad m).add 1)=some (vi bd)/\
 ∃a5,hat br ((ad au).add 2)=some (vi a5)/\
 ∃bh,hat br ((ad m).add 1)=some (vi bh)/\
 bM.C a2 (zY (bd*16)) (if(zY ((zY (bh+1))*16))<a5 then(zY ((zY (bh+1))*16))else a5) (some (ad b)) br (λ_ co=>
 (b1 (zY (g+1)) co/\m44 (zY (g+1)) co<m44 g H10)))
 else
 (b1 (zY (g+1)) br/\m44 (zY (g+1)) br<m44 g H10)))/\(
 ∀al H17,al=bq.size->H17=bq.push (.cells #[vi 0,vi 0,vi 0,vi 0,vi 0,vi 0,vi 0] 108)->aM H17 e 0 [Vq aw]/\aM H17 aw 0 [Vq ax]/\aM H17 ax 0 [Vq ay]/\aM H17 ay 0 [vp a1]/\aM H17 (ad m) 0 [vi be]/\
 bA.C a1 be H17 (λcr ci=> ∃ak ah av ab aa ac ae a3,cr=.tuple #[.agg #[vi ak,vi ah,vi av,vi ab,vi aa,vi ac,vi ae],.bool a3]/\
 (aH ci (ad al) 0 7)/\ ∀bs,bs=aP ci (ad al) [vi ak,vi ah,vi av,vi ab,vi aa,vi ac,vi ae] 0->
 ∃bn,hat bs ((ad al).add 1)=some (vi bn)/\
 if bn=1 then(
 ∃a4,hat bs (ad m)=some (vi a4)/\
 ∃bf,hat bs ((ad m).add 1)=some (vi bf)/\
 ∃a6,hat bs ((ad al).add 2)=some (vi a6)/\
 ∃bi,hat bs ((ad m).add 1)=some (vi bi)/\
 bM.C a4 (zY (bf*16)) (if(zY ((zY (bi+1))*16))<a6 then(zY ((zY (bi+1))*16))else a6) (some (ad b)) bs (λ_ cj=>
 (b1 (zY (g+1)) cj/\m44 (zY (g+1)) cj<m44 g H10)))
 else
 (b1 (zY (g+1)) bs/\m44 (zY (g+1)) bs<m44 g H10))))
 else
 ∃bx bt bu,hat H10 (ad b)=some (vs bx bt bu)/\
 R (vs bx bt bu) H10))
theorem dO.link(h:pt d H R):C d H R:=by
 refine p0 K0 129 func32 ?_
 intro w0 Q hQ
 unfold pt zY at h
 refine kT [(0,vp d)]<|ar 0<|eT 1 [] []<|ge<|ar 1<|eH 1 [] [(13,vp d)]<|sa 14 [13] h λx H1 h=>ym<|qx h (λc1 h=>?_) (λc1 h=>?_)
 ·exact aJ 14 c1<|ar 2<|hV 1 [2] [VN] hQ h
 refine aK 14 (zZ c1)<|kd<|ar 3<|yA [14] []<|sv (some 3) (λb=>vp (pa b)) (.cells #[VN] 75)<|λb H2 e3 e4=>have h:=h b H2 e3 e4;kb [] [(3,vp (pa b))]<|ym<|ar 4<|eT 2 [] [(4,.func (.func 74) #[] #[vp (pa b)])]<|ge<|ge ?_
 obtain⟨e,rfl,cm,q5,a9,rfl,cn,q6,a8,rfl,ck,q7,ba,rfl,bg,q8,b3,q9,ha⟩:=h
 refine yq 5 (Code.ops zC) [(18,e,[Vq a9]),(18,a9,[Vq a8]),(18,a8,[Vq ba]),(18,ba,[vp bg]),(17,(e.add 1),[vi b3])] 21 (bv 21 0) (show aE _ _ _ from⟨⟨q5,trivial⟩,⟨q6,trivial⟩,⟨q7,trivial⟩,⟨q8,trivial⟩,⟨q9,trivial⟩,trivial⟩)<|y9 0 (some 16) (Vq e) (bv 21 1) [(0,Vq e),(3,vp (pa b)),(4,.func (.func 74) #[] #[vp (pa b)]),(16,Vq e)]<|aG 1 17 (Vq e) (bv 21 3) [16]<|aG 2 18 (Vq e) (bv 21 7) [17]<|nc 3 19 (Vq a9) (bv 21 15) [18] (aQ 23 (Vq e)) (yY 18 yX)<|aG 4 20 (Vq a9) (bv 21 31) [19]<|aG 5 21 (Vq a9) (bv 21 63) [20]<|nc 6 22 (Vq a8) (bv 21 127) [21] (aQ 49 (Vq a9)) (yY 18 yQ)<|aG 7 23 (Vq a8) (bv 21 255) [22]<|aG 8 24 (Vq a8) (bv 21 511) [23]<|nc 9 25 (Vq ba) (bv 21 1023) [24] (aQ 52 (Vq a8)) (yY 18 yJ)<|aG 10 26 (Vq ba) (bv 21 2047) [25]<|aG 11 27 (Vq ba) (bv 21 4095) [26]<|nc 12 28 (vp bg) (bv 21 8191) [27] (aQ 78 (Vq ba)) (yY 18 yK)<|aG 13 29 (Vq e) (bv 21 16383) []<|aG 14 30 (Vq e) (bv 21 32767) [29]<|aG 15 31 (Vq (e.add 1)) (bv 21 65535) [30]<|nc 16 32 (vi b3) (bv 21 131071) [31] (aQ 3 (Vq (e.add 1))) (yY 17 yV)<|aG 20 36 (vi 0) (bv 21 1179647) []<|mX 17 (some 33) (bv 21 1310719) (λb=>vs (pa b) 1 1) (.cells #[vi b3] 3) (by kernel_rfl) (λ_=>by kernel_rfl) (by kernel_rfl)<|λb7 H3 e14 e15=>have h:=ha b7 H3 e14 e15;have⟨f10,f11,f12,f13,h⟩:=h;⟨[(0,Vq e),(3,vp (pa b)),(4,.func (.func 74) #[] #[vp (pa b)]),(28,vp bg),(33,vs (pa b7) 1 1),(36,vi 0)],pk,(show aE _ _ _ from⟨f10,f11,f12,f13,trivial,trivial⟩),?_⟩
 refine yx 18 (some 34) (bv 21 1572863) 45 #[vp bg,vs (pa b7) 1 1] h ?_;clear h
 rintro cs H4 ⟨xB,xN,xC,rfl,h⟩
 refine⟨[(0,Vq e),(3,vp (pa b)),(4,.func (.func 74) #[] #[vp (pa b)]),(34,vs xB xN xC),(36,vi 0)],pk,(show aE _ _ _ from⟨trivial,trivial,trivial,trivial,trivial,trivial⟩),?_⟩
 refine zh 19 (some 35) (vi xN) (bv 21 2097151) [(0,Vq e),(3,vp (pa b)),(4,.func (.func 74) #[] #[vp (pa b)]),(34,vs xB xN xC),(35,vi xN),(36,vi 0)] (pure (.value (vi xN)):Sem Next) (λ_ _ _ _ _=>rfl)<|eP [(0,Vq e),(3,vp (pa b)),(4,.func (.func 74) #[] #[vp (pa b)]),(34,vs xB xN xC),(35,vi xN),(36,vi 0)] sk<|yz<|aC<|o0 0<|have⟨b5,m21,i16,i17⟩:=h;bJ (x:=zL) (σ:=Int) (λs_=> [(0,Vq e),(3,vp (pa b)),(4,.func (.func 74) #[] #[vp (pa b)]),(34,vs xB xN xC),(35,vi xN),(36,vi s_)]) (λs_ H=>b5 s_ H) (λs_ H=>m21 s_ H) (0:Int) (by kernel_rfl) i16 sk ?_
 rintro o H5 i18
 have h:=i17 o H5 i18
 refine kT [(0,Vq e),(3,vp (pa b)),(4,.func (.func 74) #[] #[vp (pa b)]),(34,vs xB xN xC),(35,vi xN),(36,vi o)]<|ar 6<|eT 1 [] [(37,.bool (decide (o< (xN:Int))))]<|ge<|qx h (λc19 h=>?_) (λc19 h=>?_)
 ·refine aJ 37 (zX c19)<|kd<|ge<|o0 1<|ar 7<|yA [37] [] ?_
  obtain⟨af,rfl,q21,hb⟩:=h
  refine yp (some 38) 75 3 1 af xN xC .i64 o underlying75 q21.1 q21.2 [34] [(34,vs (some af) xN xC),(38,Vq (af.add (Int.toNat o*1)))]<|have⟨p,q22,h⟩:=hb;hH 39 3 q22 [38]<|eT 1 [39] [(6,vi p)]<|ar 8<|eH 3 [] [(43,Vq e)]<|have⟨b9,q23,h⟩:=h;hH 44 23 q23 [43] ?_
  obtain⟨b8,rfl,hc⟩:=h
  refine eH 2 [44] [(46,Vq b8)]<|have⟨cc,q24,h⟩:=hc;hH 47 49 q24 [46] ?_
  obtain⟨cd,rfl,hd⟩:=h
  refine eH 2 [47] [(49,Vq cd)]<|have⟨b4,q25,h⟩:=hd;hH 50 52 q25 [49] ?_
  obtain⟨b6,rfl,he⟩:=h
  refine eH 2 [50] [(52,Vq b6)]<|have⟨bw,q26,h⟩:=he;hH 53 78 q26 [52]<|eH 1 [] [(54,vi p)]<|zE 55 [53,54] h λbc az bz ap an am ao rb H6 h=>eH 3 [55] [(56,.agg #[vi bc,vi az,vi bz,vi ap,vi an,vi am,vi ao]),(57,.bool rb)]<|sv (some 7) (λb=>vp (pa b)) (.cells #[vi 0,vi 0,vi 0,vi 0,vi 0,vi 0,vi 0] 108)<|λai H7 e27 e28=>have h:=h ai H7 e27 e28;kb [] [(7,vp (pa ai))]<|have⟨q30,h⟩:=h;fK 108 [vi bc,vi az,vi bz,vi ap,vi an,vi am,vi ao] q30<|λH8 e29=>have h:=h H8 e29;kb [56] []<|eT 1 [57] []<|ar 9<|eH 1 [] [(58,Vq ((ad ai).add 1))]<|have⟨bk,q31,h⟩:=h;hH 59 3 q31 [58]<|eH 2 [59] [(61,.bool (bk==1))]<|qx h (λc32 h=>?_) (λc32 h=>?_)
  ·refine oo 61 (zK c32)<|eH 4 [] [(63,vi p),(65,Vq (e.add 2))]<|have⟨q34,h⟩:=h;yI 66 (bD 103 (Vq (e.add 2)) (vi p)) (Vq ((e.add 2).add (Int.toNat p*1))) (λw _=>bO (P:=prog) (t:=103) (elem:=3) (sz:=1) (n:=1024) (a:=(e.add 2)) (k:=.i64) (i:=p) underlying103 (λ_=>by kernel_rfl) q34.1 q34.2 w) [63,65]<|have⟨bp,q35,h⟩:=h;hH 67 3 q35 [66]<|eT 2 [61,67] [(69,.bool (bp==0))]<|qx h (λc36 h=>?_) (λc36 h=>?_)
   ·refine aJ 69 (zK c36)<|have⟨bj,q38,bo,q39,h⟩:=h;yq 10 (Code.ops Bp) [(7,(e.add 1026),[.map bj]),(10,((ad ai).add 2),[vi bo])] 11 (bv 11 0) (show aE _ _ _ from⟨⟨q38,trivial⟩,⟨q39,trivial⟩,trivial⟩)<|y9 0 (some 70) (.func (.func 74) #[] #[vp (pa b)]) (bv 11 1) [(0,Vq e),(3,vp (pa b)),(4,.func (.func 74) #[] #[vp (pa b)]),(6,vi p),(7,vp (pa ai)),(34,vs (some af) xN xC),(35,vi xN),(36,vi o),(70,.func (.func 74) #[] #[vp (pa b)])]<|aG 1 71 (vi p) (bv 11 3) []<|aG 2 72 (Vq e) (bv 11 7) []<|aG 3 73 (Vq e) (bv 11 15) [72]<|aG 4 74 (Vq (e.add 1026)) (bv 11 31) [73]<|nc 5 75 (.map bj) (bv 11 63) [74] (aQ 102 (Vq (e.add 1026))) (yY 7 yX)<|aG 6 76 (vi p) (bv 11 127) [6]<|aG 8 78 (Vq ((ad ai).add 2)) (bv 11 383) [7]<|nc 9 79 (vi bo) (bv 11 895) [78] (aQ 3 (Vq ((ad ai).add 2))) (yY 10 yQ) ?_
    obtain⟨mr,rfl,es,cl,ks,q41,q42,b0,e44,hf⟩:=h
    refine ob 7 (some 77) (bv 11 1023) (jP 102 (.map (some mr)) (vi p) false) (λu H1=>u=vi b0/\H1=H8) (by kernel_rfl) (λ_=>by kernel_rfl) (λw hw=>⟨_,w,(hX (kk:=(aY .i64)) (z:=vi 0) underlying102 underlying3 (λ_=>by kernel_rfl) (by rw[hw];exact q41) q42 false),Same.refl w,by simp only[Bool.false_eq_true,if_false,e44],hw⟩) (by kernel_rfl) ?_
    rintro _ _ ⟨rfl,rfl⟩
    refine have⟨f40,h⟩:=hf;⟨[(0,Vq e),(3,vp (pa b)),(4,.func (.func 74) #[] #[vp (pa b)]),(34,vs (some af) xN xC),(35,vi xN),(36,vi o),(70,.func (.func 74) #[] #[vp (pa b)]),(71,vi p),(77,vi b0),(79,vi bo)],pk,(show aE _ _ _ from⟨trivial,f40,trivial⟩),?_⟩
    refine yx 10 (some 80) (bv 11 2047) 74 #[vi p,vi b0,vi bo,vp (pa b)] h ?_;clear h
    refine λv_4 H9 h=>⟨[(0,Vq e),(3,vp (pa b)),(4,.func (.func 74) #[] #[vp (pa b)]),(34,vs (some af) xN xC),(35,vi xN),(36,vi o)],pk,(show aE _ _ _ from⟨trivial,trivial,trivial⟩),?_⟩
    exact eP [(0,Vq e),(3,vp (pa b)),(4,.func (.func 74) #[] #[vp (pa b)]),(34,vs (some af) xN xC),(35,vi xN),(36,vi o)] sk<|yz<|aA<|aC<|nx 11<|u5 2 [(0,Vq e),(3,vp (pa b)),(4,.func (.func 74) #[] #[vp (pa b)]),(34,vs (some af) xN xC),(35,vi xN),(36,vi (zY (o+1)))]<|aR ((zY (o+1)):Int) sk h
   exact aK 69 (zJ c36)<|yR<|aA<|aC<|nx 11<|eT 2 [6,7,36,69] [(36,vi (zY (o+1)))]<|aR ((zY (o+1)):Int) sk h
  exact oo 61 (zJ c32)<|eT 8 [61] [(69,VF)]<|yn 69<|yR<|aA<|aC<|nx 11<|eT 2 [6,7,36,69] [(36,vi (zY (o+1)))]<|aR ((zY (o+1)):Int) sk h
 refine aK 37 (zQ c19)<|zk 0<|aB<|aB<|aN<|aC<|ge<|ar 12<|eH 3 [34,35,36,37] [(84,Vq (e.add 1028))]<|have⟨a7,tv,f,q45,h⟩:=h;hH 85 104 q45 [84]<|eT 2 [] [(86,vi tv),(87,vi 0)]<|o0 2<|have⟨b1,m44,i46,i47⟩:=h;bJ (x:=As) (σ:=Int) (λs_=> [(0,Vq e),(3,vp (pa b)),(4,.func (.func 74) #[] #[vp (pa b)]),(85,vs a7 tv f),(86,vi tv),(87,vi s_)]) (λs_ H=>b1 s_ H) (λs_ H=>m44 s_ H) (0:Int) (by kernel_rfl) i46 sk ?_
 rintro g H10 i48
 have h:=i47 g H10 i48
 refine kT [(0,Vq e),(3,vp (pa b)),(4,.func (.func 74) #[] #[vp (pa b)]),(85,vs a7 tv f),(86,vi tv),(87,vi g)]<|ar 13<|eT 1 [] [(88,.bool (decide (g< (tv:Int))))]<|ge<|qx h (λc49 h=>?_) (λc49 h=>?_)
 ·refine aJ 88 (zX c49)<|kd<|ge<|o0 3<|ar 14<|yA [88] [] ?_
  obtain⟨j,rfl,q51,hg⟩:=h
  refine yp (some 89) 104 127 2 j tv f .i64 g underlying104 q51.1 q51.2 [85] [(85,vs (some j) tv f),(89,Vq (j.add (Int.toNat g*2)))]<|have⟨bm,bb,q52,h⟩:=hg;zr 90 127 q52 [89]<|sv (some 10) (λb=>vp (pa b)) (.cells #[vi 0,vi 0] 127)<|λm H11 e53 e54=>have h:=h m H11 e53 e54;kb [] [(10,vp (pa m))]<|have⟨q56,h⟩:=h;fK 127 [vi bm,vi bb] q56<|λbq e55=>have h:=h bq e55;kb [90] []<|ym<|ge ?_
  obtain⟨ce,q57,aw,rfl,ch,q58,ax,rfl,cg,q59,ay,rfl,a1,q60,be,q61,hh⟩:=h
  have h:=hh
  refine yq 15 (Code.ops K55) [(15,e,[Vq aw]),(15,aw,[Vq ax]),(15,ax,[Vq ay]),(15,ay,[vp a1]),(15,(ad m),[vi be])] 22 (bv 22 0) (show aE _ _ _ from⟨⟨q57,trivial⟩,⟨q58,trivial⟩,⟨q59,trivial⟩,⟨q60,trivial⟩,⟨q61,trivial⟩,trivial⟩)<|y9 0 (some 92) (Vq e) (bv 22 1) [(0,Vq e),(3,vp (pa b)),(4,.func (.func 74) #[] #[vp (pa b)]),(10,vp (pa m)),(85,vs (some j) tv f),(86,vi tv),(87,vi g),(92,Vq e)]<|aG 1 93 (Vq e) (bv 22 3) [92]<|aG 2 94 (Vq e) (bv 22 7) [93]<|nc 3 95 (Vq aw) (bv 22 15) [94] (aQ 23 (Vq e)) (yY 15 yX)<|aG 4 96 (Vq aw) (bv 22 31) [95]<|aG 5 97 (Vq aw) (bv 22 63) [96]<|nc 6 98 (Vq ax) (bv 22 127) [97] (aQ 49 (Vq aw)) (yY 15 yQ)<|aG 7 99 (Vq ax) (bv 22 255) [98]<|aG 8 100 (Vq ax) (bv 22 511) [99]<|nc 9 101 (Vq ay) (bv 22 1023) [100] (aQ 52 (Vq ax)) (yY 15 yJ)<|aG 10 102 (Vq ay) (bv 22 2047) [101]<|aG 11 103 (Vq ay) (bv 22 4095) [102]<|nc 12 104 (vp a1) (bv 22 8191) [103] (aQ 78 (Vq ay)) (yY 15 yK)<|aG 13 105 (vp (pa m)) (bv 22 16383) []<|nc 14 106 (vi be) (bv 22 32767) [105] (aQ 3 (vp (pa m))) (yY 15 yV)<|pj 15 19 (by kernel_rfl) ?fa1 ?fb1
  case' fa1=>
   replace h:=h.1
   refine pl 15 (some 107) (bv 22 65535) 47 #[vp a1,vi be] (by kernel_rfl) (λ_=>by kernel_rfl) h (by kernel_rfl) ?_;clear h
   rintro cq cp ⟨aj,ag,aq,s,r,y,q,a0,rfl,h⟩
   refine⟨[(0,Vq e),(3,vp (pa b)),(4,.func (.func 74) #[] #[vp (pa b)]),(10,vp (pa m)),(85,vs (some j) tv f),(86,vi tv),(87,vi g),(107,.tuple #[.agg #[vi aj,vi ag,vi aq,vi s,vi r,vi y,vi q],.bool a0])],pk,(show aE _ _ _ from⟨trivial,trivial,trivial,trivial,trivial,trivial⟩),?_⟩
   refine zh 16 (some 91) (.tuple #[.agg #[vi aj,vi ag,vi aq,vi s,vi r,vi y,vi q],.bool a0]) (bv 22 131071) [(0,Vq e),(3,vp (pa b)),(4,.func (.func 74) #[] #[vp (pa b)]),(10,vp (pa m)),(85,vs (some j) tv f),(86,vi tv),(87,vi g),(91,.tuple #[.agg #[vi aj,vi ag,vi aq,vi s,vi r,vi y,vi q],.bool a0])] (pure (.value (.tuple #[.agg #[vi aj,vi ag,vi aq,vi s,vi r,vi y,vi q],.bool a0])):Sem Next) (λ_ _ _ _ _=>rfl)<|nc 17 108 (.agg #[vi aj,vi ag,vi aq,vi s,vi r,vi y,vi q]) (bv 22 262143) [] (pure (.value (.agg #[vi aj,vi ag,vi aq,vi s,vi r,vi y,vi q])):Sem Next) (λ_ _ _ _ _=>rfl)<|nc 18 109 (.bool a0) (bv 22 524287) [91] (pure (.value (.bool a0)):Sem Next) (λ_ _ _ _ _=>rfl)<|mX 19 (some 11) (bv 22 1048575) (λb=>vp (pa b)) (.cells #[vi 0,vi 0,vi 0,vi 0,vi 0,vi 0,vi 0] 108) (by kernel_rfl) (λ_=>by kernel_rfl) (by kernel_rfl)<|λau H14 e62 e63=>have h:=h au H14 e62 e63;⟨[(0,Vq e),(3,vp (pa b)),(4,.func (.func 74) #[] #[vp (pa b)]),(10,vp (pa m)),(11,vp (pa au)),(85,vs (some j) tv f),(86,vi tv),(87,vi g),(108,.agg #[vi aj,vi ag,vi aq,vi s,vi r,vi y,vi q]),(109,.bool a0)],pk,(show aE _ _ _ from⟨trivial,trivial,trivial,trivial,trivial,trivial⟩),?_⟩
  case' fb1=>
   refine have h:=h.2;rZ 19 (some 11) (bv 22 557055) (λb=>vp (pa b)) (.cells #[vi 0,vi 0,vi 0,vi 0,vi 0,vi 0,vi 0] 108) (by kernel_rfl) (λ_=>by kernel_rfl) (by kernel_rfl)<|λau H17 e78 e79=>have h:=h au H17 e78 e79;have⟨f73,f74,f75,f76,f77,h⟩:=h;⟨[(0,Vq e),(3,vp (pa b)),(4,.func (.func 74) #[] #[vp (pa b)]),(10,vp (pa m)),(11,vp (pa au)),(85,vs (some j) tv f),(86,vi tv),(87,vi g),(104,vp a1),(106,vi be)],pk,(show aE _ _ _ from⟨f73,f74,f75,f76,f77,trivial⟩),?_⟩
   refine yx 15 (some 107) (bv 22 589823) 47 #[vp a1,vi be] h ?_;clear h
   rintro cr H14 ⟨aj,ag,aq,s,r,y,q,a0,rfl,h⟩
   refine⟨[(0,Vq e),(3,vp (pa b)),(4,.func (.func 74) #[] #[vp (pa b)]),(10,vp (pa m)),(11,vp (pa au)),(85,vs (some j) tv f),(86,vi tv),(87,vi g),(107,.tuple #[.agg #[vi aj,vi ag,vi aq,vi s,vi r,vi y,vi q],.bool a0])],pk,(show aE _ _ _ from⟨trivial,trivial,trivial,trivial,trivial,trivial⟩),?_⟩
   refine zh 16 (some 91) (.tuple #[.agg #[vi aj,vi ag,vi aq,vi s,vi r,vi y,vi q],.bool a0]) (bv 22 655359) [(0,Vq e),(3,vp (pa b)),(4,.func (.func 74) #[] #[vp (pa b)]),(10,vp (pa m)),(11,vp (pa au)),(85,vs (some j) tv f),(86,vi tv),(87,vi g),(91,.tuple #[.agg #[vi aj,vi ag,vi aq,vi s,vi r,vi y,vi q],.bool a0])] (pure (.value (.tuple #[.agg #[vi aj,vi ag,vi aq,vi s,vi r,vi y,vi q],.bool a0])):Sem Next) (λ_ _ _ _ _=>rfl)<|nc 17 108 (.agg #[vi aj,vi ag,vi aq,vi s,vi r,vi y,vi q]) (bv 22 786431) [] (pure (.value (.agg #[vi aj,vi ag,vi aq,vi s,vi r,vi y,vi q])):Sem Next) (λ_ _ _ _ _=>rfl)<|nc 18 109 (.bool a0) (bv 22 1048575) [91] (pure (.value (.bool a0)):Sem Next) (λ_ _ _ _ _=>rfl) ?_
  all_goals
   refine have⟨q65,h⟩:=h;fF 20 none (bv 22 2097151) (jH 108 (vp (pa au)) (.agg #[vi aj,vi ag,vi aq,vi s,vi r,vi y,vi q])) (λHz=>Hz=aP H14 (ad au) [vi aj,vi ag,vi aq,vi s,vi r,vi y,vi q] 0) (by kernel_rfl) (λ_=>by kernel_rfl) (iO [vi aj,vi ag,vi aq,vi s,vi r,vi y,vi q] 7 (by kernel_rfl) (by kernel_rfl) (λ_=>by kernel_rfl) (by kernel_rfl) q65) (by kernel_rfl)<|λbr e64=>have h:=h br e64;⟨[(0,Vq e),(3,vp (pa b)),(4,.func (.func 74) #[] #[vp (pa b)]),(10,vp (pa m)),(11,vp (pa au)),(85,vs (some j) tv f),(86,vi tv),(87,vi g),(109,.bool a0)],pk,(show aE _ _ _ from⟨trivial,trivial,trivial,trivial,trivial,trivial⟩),?_⟩
   refine zh 21 (some 12) (.bool a0) (bv 22 4194303) [(0,Vq e),(3,vp (pa b)),(4,.func (.func 74) #[] #[vp (pa b)]),(10,vp (pa m)),(11,vp (pa au)),(85,vs (some j) tv f),(86,vi tv),(87,vi g)] (pure (.value (.bool a0)):Sem Next) (λ_ _ _ _ _=>rfl)<|eP [(0,Vq e),(3,vp (pa b)),(4,.func (.func 74) #[] #[vp (pa b)]),(10,vp (pa m)),(11,vp (pa au)),(85,vs (some j) tv f),(86,vi tv),(87,vi g)] sk<|yz<|aC<|ar 16<|u8 1 [(0,Vq e),(3,vp (pa b)),(4,.func (.func 74) #[] #[vp (pa b)]),(10,vp (pa m)),(11,vp (pa au)),(85,vs (some j) tv f),(86,vi tv),(87,vi g),(110,Vq ((ad au).add 1))]<|have⟨bl,q66,h⟩:=h;hH 111 3 q66 [110]<|eT 1 [111] [(112,.bool (bl==1))]<|qx h (λc67 h=>?_) (λc67 h=>?_)
   ·refine aJ 112 (zK c67)<|nx 17<|eH 2 [112] [(113,.func (.func 74) #[] #[vp (pa b)]),(114,vp (pa m))]<|have⟨a2,q69,h⟩:=h;hH 115 3 q69 [114]<|eH 1 [] [(116,Vq ((ad m).add 1))]<|have⟨bd,q70,h⟩:=h;hH 117 3 q70 [116]<|eH 2 [11,117] [(118,vi (zY (bd*16))),(119,Vq ((ad au).add 2))]<|have⟨a5,q71,h⟩:=h;hH 120 3 q71 [119]<|eH 1 [10] [(121,Vq ((ad m).add 1))] ?_
    obtain⟨bh,q72,h⟩:=h
    refine hH 122 3 q72 [121]<|eH 3 [120,122] [(125,vi (if(zY ((zY (bh+1))*16))<a5 then(zY ((zY (bh+1))*16))else a5))]<|zf (some 126) h ?_;clear h
    exact λv_6 co h=>kb [113,115,118,125] []<|zq<|aA<|aC<|nx 18<|eT 2 [87] [(87,vi (zY (g+1)))]<|aR ((zY (g+1)):Int) sk h
   exact aK 112 (zJ c67)<|yR<|aA<|aC<|nx 18<|eT 2 [10,11,87,112] [(87,vi (zY (g+1)))]<|aR ((zY (g+1)):Int) sk h
 exact aK 88 (zQ c49)<|zk 2<|aB<|aB<|aN<|aC<|ar 19<|Ab [(3,vp (pa b))]<|have⟨bx,bt,bu,q89,h⟩:=h;hH 128 75 q89 [3]<|hV 1 [2] [vs bx bt bu] hQ h
def cW.K0:=Func.code f50
def cW.pt(tv:zW)(wv:Int)(H:zV)(R:zv):Prop:=
 gH.C wv H (λv H1=> ∃ra rb,v=.tuple #[vi ra,.bool rb]/\
 ∃k,tv=some k/\
 ∃x,hat H1 k=some (vp x)/\
 ∃xA,x=some xA/\
 ∃m,hat H1 xA=some (vp m)/\
 ∃p,m=some p/\
 ∃n,hat H1 p=some (vp n)/\
 ∃o,n=some o/\
 ∃i,hat H1 o=some (vp i)/\
 cD.C i ra H1 (λr H2=> ∃b e,r=.tuple #[vu b,vi e]/\
 gH.C b H2 (λs H3=> ∃a d,s=.tuple #[vi a,.bool d]/\
 if e=0 then(
 if d=true then(
 cK.C b H3 (λy H4=> ∃g,y=vi g/\
 if g=6 then(
 cK.C wv H4 (λu H5=> ∃j,u=vi j/\
 jQ.C j a H5 (λt H6=> ∃f q,t=.tuple #[vu f,vi q]/\
 R (.tuple #[vu f,VT]) H6)))
 else
 R (.tuple #[vu wv,VF]) H4))
 else
 R (.tuple #[vu wv,VF]) H3)
 else
 R (.tuple #[vu wv,VF]) H3)))
theorem cW.link(h:pt d i H R):C d i H R:=by
 refine p0 K0 62 func50 ?_
 intro w0 Q hQ
 unfold pt at h
 refine kT [(0,vp d),(1,vu i)]<|ar 0<|eT 2 [] []<|ar 1<|eH 1 [] [(15,vu i)]<|yD 16 [15] h λra rb H1 h=>eT 5 [16] [(6,vi ra)]<|ar 2<|eH 1 [0] [(20,vp d)] ?_
 obtain⟨k,rfl,ha⟩:=h
 refine eH 2 [20] [(22,Vq k)]<|have⟨x,q1,h⟩:=ha;hH 23 23 q1 [22] ?_
 obtain⟨xA,rfl,hb⟩:=h
 refine eH 2 [23] [(25,Vq xA)]<|have⟨m,q2,h⟩:=hb;hH 26 49 q2 [25] ?_
 obtain⟨p,rfl,hc⟩:=h
 refine eH 2 [26] [(28,Vq p)]<|have⟨n,q3,h⟩:=hc;hH 29 52 q3 [28] ?_
 obtain⟨o,rfl,hd⟩:=h
 refine eH 2 [29] [(31,Vq o)]<|have⟨tv,q4,h⟩:=hd;hH 32 78 q4 [31]<|eH 1 [6] [(33,vi ra)]<|yD 34 [32,33] h λb e H2 h=>eT 5 [34] [(8,vu b),(9,vi e)]<|ar 3<|eH 1 [] [(38,vu b)]<|yD 39 [38] h λa wv H3 h=>eT 5 [39] [(10,vi a),(11,.bool wv)]<|ge<|ar 4<|eH 3 [9] [(44,.bool (e !=0))]<|qx h (λc5 h=>?_) (λc5 h=>?_)
 ·refine oo 44 (bne_eq_false_iff_eq.mpr c5)<|eH 4 [11,44] [(48,.bool (!wv))]<|qx h (λc7 h=>?_) (λc7 h=>?_)
  ·have b8:(!wv)=false:=congrArg Bool.not (c7)
   have b82:wv=true:=c7
   refine oo 48 (b:=(!wv)) (v:=false) (by simp only[b8,b82,Bool.not_true,Bool.not_false]) ?_
   clear b8 b82
   refine eH 1 [8] [(49,vu b)]<|sa 50 [49] h λg H4 h=>eT 2 [48,50] [(52,.bool (g !=6))]<|qx h (λc9 h=>?_) (λc9 h=>?_)
   ·exact aK 52 (bne_eq_false_iff_eq.mpr c9)<|kd<|ar 6<|eH 1 [1,52] [(55,vu i)]<|sa 56 [55] h λj H5 h=>eH 1 [10] [(57,vi a)]<|zm 58 (λf q=>[(58,.tuple #[vu f,vi q])]) h λf q H6 h=>u5 5 [(12,vu f)]<|ar 7<|hV 3 [4,5] [vu f,VT] hQ h
   exact aJ 52 (bne_iff_ne.mpr c9)<|ar 5<|hV 3 [4,5] [vu i,VF] hQ h
  have b8:(!wv)=true:=congrArg Bool.not (zZ c7)
  have b82:wv=false:=zZ c7
  refine oo 48 (b:=(!wv)) (v:=true) (by simp only[b8,b82,Bool.not_true,Bool.not_false]) ?_
  clear b8 b82
  exact eT 4 [8,48] [(52,VT)]<|wc 52<|ar 5<|hV 3 [4,5] [vu i,VF] hQ h
 exact oo 44 (bne_iff_ne.mpr c5)<|eT 8 [8,11,44] [(52,VT)]<|wc 52<|ar 5<|hV 3 [4,5] [vu i,VF] hQ h
def bL.K0:=Func.code f57
def bL.pt(tv:zW)(H:zV)(R:zv):Prop:=
 fE tv (
 R VT H) (λa=>
 ∃x,hat H a=some (vp x)/\
 fE x (
 R VT H) (λxA=>
 ∃b,hat H (a.add 1029)=some (vi b)/\
 R (.bool (b==1)) H))
theorem bL.link(h:pt d H R):C d H R:=by
 refine p0 K0 19 func57 ?_
 intro w0 Q hQ
 unfold pt at h
 refine kT [(0,vp d)]<|ar 0<|eT 1 [] []<|ar 1<|eH 1 [] [(3,vp d)] ?_
 rcases d with _ | a
 ·rw[onPtr_none]at h
  exact hV 16 [2] [VT] hQ h
 rw[onPtr_some]at h
 refine u8 5 [(0,Vq a),(5,VF),(8,Vq a)]<|have⟨x,q1,h⟩:=h;hH 9 23 q1 [8] ?_
 rcases x with _ | xA
 ·rw[onPtr_none]at h
  exact hV 10 [2] [VT] hQ h
 rw[onPtr_some]at h
 exact u8 6 [(12,VF),(15,Vq (a.add 1029))]<|have⟨b,q2,h⟩:=h;hH 16 3 q2 [15]<|hV 3 [2] [.bool (b==1)] hQ h
variable{H:zV}{d:zW}{R:zv}{i j:Int}
namespace dT
def K0:=Func.code f58
def K2:=cb K0
def K4:=cb K2
def K5:=ca K4
def K7:=ca K5
def K8:=cb K5
def K9:=ca K8
def zu:=ca K9
def zd:=cb zu
def zG:=cb zd
def zC:=ca zG
def Ac:=ca zC
def AC:=cb Ac
def AN:=cb AC
def Am:=cb AN
def AK:=ca Am
def zI:=ca AK
def zN:=cb zI
def AR:=ca zN
def Bk:=ca AR
def Ao:=cb Bk
def As:=ca Ao
end dT
def dT.pt(tv:zW)(H:zV)(R:zv):Prop:=
 ∃d,tv=some d/\
 ∃x,hat H d=some (vp x)/\
 ∃xA,x=some xA/\
 ∃bz,hat H xA=some (vp bz)/\
 ∃an,bz=some an/\
 ∃b0,hat H an=some (vp b0)/\
 ∃am,b0=some am/\
 ∃au,hat H am=some (vp au)/\
 ∃bb,hat H (d.add 1)=some (vi bb)/\
 ∀b H1,b=H.size->H1=H.push (.cells #[vi bb] 3)->aM H1 d 0 [Vq xA]/\aM H1 xA 0 [Vq an]/\aM H1 an 0 [Vq am]/\aM H1 am 0 [vp au]/\
 cF.C au (some (ad b)) 1 1 H1 (λv H2=> ∃xB xN xC,v=vs xB xN xC/\
 ∃(bk:Bool->zw) (m11:Bool->Int->zV->Nat),bk false 0 H2/\ ∀g s29 H3,bk g s29 H3->
 if s29< (xN:Int)then(
 ∃f,xB=some f/\
 yZ s29 xN/\
 ∃e,hat H3 (f.add (Int.toNat s29*1))=some (vi e)/\
 yZ e 1024/\
 ∃a5,hat H3 ((d.add 2).add (Int.toNat e*1))=some (vi a5)/\
 if a5=1 then(
 (bk g (zY (s29+1)) H3/\m11 g (zY (s29+1)) H3<m11 g s29 H3))
 else
 ∃bp,hat H3 d=some (vp bp)/\
 ∃bo,bp=some bo/\
 ∃bq,hat H3 bo=some (vp bq)/\
 ∃br,bq=some br/\
 ∃bc,hat H3 br=some (vp bc)/\
 ∃bg,bc=some bg/\
 ∃a3,hat H3 bg=some (vp a3)/\
 bA.C a3 e H3 (λb1 H4=> ∃ap ak a4 aa u r y rb,b1=.tuple #[.agg #[vi ap,vi ak,vi a4,vi aa,vi u,vi r,vi y],.bool rb]/\
 ∀a0 H5,a0=H4.size->H5=H4.push (.cells #[vi 0,vi 0,vi 0,vi 0,vi 0,vi 0,vi 0] 108)->
 (aH H5 (ad a0) 0 7)/\ ∀H6,H6=aP H5 (ad a0) [vi ap,vi ak,vi a4,vi aa,vi u,vi r,vi y] 0->
 ∃(bn:Bool->zW->zV->Prop) (m32:Bool->zW->zV->Nat),bn g (some (ad a0)) H6/\ ∀j s H7,bn j s H7->
 ∃a6,hat H7 (d.add 1027)=some (.map a6)/\
 ∃mr,a6=some mr/\
 ∃es cl ks,H7[mr]?=some (.map es cl)/\va (aY .i64) es.toList ks/\
 ∃al,(yl ks e).getD (vi 0)=vi al/\
 ∃sA,s=some sA/\
 ∃aq,hat H7 (sA.add 2)=some (vi aq)/\
 if al<aq then(
 ∃a8,hat H7 (d.add 1027)=some (.map a8)/\
 ∃bm,a8=some bm/\
 ∃bw cl_2 ks_2,H7[bm]?=some (.map bw cl_2)/\va (aY .i64) bw.toList ks_2/\
 ∃ac,(yl ks_2 e).getD (vi 0)=vi ac/\
 ∃aw,hat H7 (d.add 1027)=some (.map aw)/\
 ∃ax,hat H7 (sA.add 2)=some (vi ax)/\
 ∃a9,aw=some a9/\
 ∃bu cl_3 ks_3,H7[a9]?=some (.map bu cl_3)/\va (aY .i64) bu.toList ks_3/\
 ∀bl cl_4 H8,H8=aL H7 a9 (.map bl cl_4)->va (aY .i64) bl.toList (yr ks_3 e (vi ax))->
 ∃a1,hat H8 (sA.add 2)=some (vi a1)/\
 ∃a7,hat H8 (sA.add 1)=some (vi a7)/\
 cI.C (some d) e ac a1 a7 H8 (λ_ H9=>
 ∃az ao ay ag ae af ah,aM H9 sA 0 [vi az,vi ao,vi ay,vi ag,vi ae,vi af,vi ah]/\
 ∀ab H10,ab=H9.size->H10=H9.push (.cells #[vi 0,vi 0,vi 0,vi 0,vi 0,vi 0,vi 0] 108)->
 (aH H10 (ad ab) 0 7)/\ ∀ba,ba=aP H10 (ad ab) [vi az,vi ao,vi ay,vi ag,vi ae,vi af,vi ah] 0->
 ∃bj,hat ba d=some (vp bj)/\
 ∃bf,bj=some bf/\
 ∃be,hat ba bf=some (vp be)/\
 ∃bi,be=some bi/\
 ∃bh,hat ba bi=some (vp bh)/\
 ∃bd,bh=some bd/\
 ∃a2,hat ba bd=some (vp a2)/\
 bA.C a2 e ba (λb2 bx=> ∃aj ai av p o q m bt,b2=.tuple #[.agg #[vi aj,vi ai,vi av,vi p,vi o,vi q,vi m],.bool bt]/\
 (aH bx (ad ab) 0 7)/\ ∀bs,bs=aP bx (ad ab) [vi aj,vi ai,vi av,vi p,vi o,vi q,vi m] 0->
 (bn true (some (ad ab)) bs/\m32 true (some (ad ab)) bs<m32 j s H7))))
 else
 (bk j (zY (s29+1)) H7/\m11 j (zY (s29+1)) H7<m11 g s29 H3)))
 else
 R (.bool g) H3)
theorem dT.link(h:pt d H R):C d H R:=by
 refine p0 K0 109 func58 ?_
 intro w0 Q hQ
 unfold pt zY at h
 refine kT [(0,vp d)]<|ar 0<|eT 1 [] []<|ar 1<|eT 1 [] [(3,VF)]<|ge<|ge ?_
 obtain⟨tv,rfl,x,q1,xA,rfl,bz,q2,an,rfl,b0,q3,am,rfl,au,q4,bb,q5,ha⟩:=h
 refine yq 2 (Code.ops K7) [(18,tv,[Vq xA]),(18,xA,[Vq an]),(18,an,[Vq am]),(18,am,[vp au]),(17,(tv.add 1),[vi bb])] 21 (bv 21 0) (show aE _ _ _ from⟨⟨q1,trivial⟩,⟨q2,trivial⟩,⟨q3,trivial⟩,⟨q4,trivial⟩,⟨q5,trivial⟩,trivial⟩)<|y9 0 (some 9) (Vq tv) (bv 21 1) [(0,Vq tv),(3,VF),(9,Vq tv)]<|aG 1 10 (Vq tv) (bv 21 3) [9]<|aG 2 11 (Vq tv) (bv 21 7) [10]<|nc 3 12 (Vq xA) (bv 21 15) [11] (aQ 23 (Vq tv)) (yY 18 yX)<|aG 4 13 (Vq xA) (bv 21 31) [12]<|aG 5 14 (Vq xA) (bv 21 63) [13]<|nc 6 15 (Vq an) (bv 21 127) [14] (aQ 49 (Vq xA)) (yY 18 yQ)<|aG 7 16 (Vq an) (bv 21 255) [15]<|aG 8 17 (Vq an) (bv 21 511) [16]<|nc 9 18 (Vq am) (bv 21 1023) [17] (aQ 52 (Vq an)) (yY 18 yJ)<|aG 10 19 (Vq am) (bv 21 2047) [18]<|aG 11 20 (Vq am) (bv 21 4095) [19]<|nc 12 21 (vp au) (bv 21 8191) [20] (aQ 78 (Vq am)) (yY 18 yK)<|aG 13 22 (Vq tv) (bv 21 16383) []<|aG 14 23 (Vq tv) (bv 21 32767) [22]<|aG 15 24 (Vq (tv.add 1)) (bv 21 65535) [23]<|nc 16 25 (vi bb) (bv 21 131071) [24] (aQ 3 (Vq (tv.add 1))) (yY 17 yV)<|aG 20 29 (vi 0) (bv 21 1179647) []<|mX 17 (some 26) (bv 21 1310719) (λb=>vs (pa b) 1 1) (.cells #[vi bb] 3) (by kernel_rfl) (λ_=>by kernel_rfl) (by kernel_rfl)<|λb H1 e10 e11=>have h:=ha b H1 e10 e11;have⟨f6,f7,f8,f9,h⟩:=h;⟨[(0,Vq tv),(3,VF),(21,vp au),(26,vs (pa b) 1 1),(29,vi 0)],pk,(show aE _ _ _ from⟨f6,f7,f8,f9,trivial,trivial⟩),?_⟩
 refine yx 18 (some 27) (bv 21 1572863) 45 #[vp au,vs (pa b) 1 1] h ?_;clear h
 rintro v H2 ⟨xB,xN,xC,rfl,h⟩
 refine⟨[(0,Vq tv),(3,VF),(27,vs xB xN xC),(29,vi 0)],pk,(show aE _ _ _ from⟨trivial,trivial,trivial,trivial,trivial,trivial⟩),?_⟩
 refine zh 19 (some 28) (vi xN) (bv 21 2097151) [(0,Vq tv),(3,VF),(27,vs xB xN xC),(28,vi xN),(29,vi 0)] (pure (.value (vi xN)):Sem Next) (λ_ _ _ _ _=>rfl)<|eP [(0,Vq tv),(3,VF),(27,vs xB xN xC),(28,vi xN),(29,vi 0)] sk<|yz<|aC<|o0 0<|have⟨bk,m11,i12,i13⟩:=h;bJ (x:=zu) (σ:=Bool×Int) (λs_=> [(0,Vq tv),(3,.bool s_.1),(27,vs xB xN xC),(28,vi xN),(29,vi s_.2)]) (λs_ H=>bk s_.1 s_.2 H) (λs_ H=>m11 s_.1 s_.2 H) ((false,0):Bool×Int) (by kernel_rfl) i12 sk ?_
 rintro⟨g,s29⟩ H3 i14
 have h:=i13 g s29 H3 i14
 refine kT [(0,Vq tv),(3,.bool g),(27,vs xB xN xC),(28,vi xN),(29,vi s29)]<|ar 3<|eT 1 [] [(30,.bool (decide (s29< (xN:Int))))]<|ge<|qx h (λc15 h=>?_) (λc15 h=>?_)
 ·refine aJ 30 (zX c15)<|kd<|ge<|o0 1<|ar 4<|yA [30] [] ?_
  obtain⟨f,rfl,q17,hb⟩:=h
  refine yp (some 31) 75 3 1 f xN xC .i64 s29 underlying75 q17.1 q17.2 [27] [(27,vs (some f) xN xC),(31,Vq (f.add (Int.toNat s29*1)))]<|have⟨e,q18,h⟩:=hb;hH 32 3 q18 [31]<|eT 1 [32] [(5,vi e)]<|ge<|ar 5<|eH 4 [] [(34,vi e),(36,Vq (tv.add 2))]<|have⟨q19,h⟩:=h;yI 37 (bD 103 (Vq (tv.add 2)) (vi e)) (Vq ((tv.add 2).add (Int.toNat e*1))) (λw _=>bO (P:=prog) (t:=103) (elem:=3) (sz:=1) (n:=1024) (a:=(tv.add 2)) (k:=.i64) (i:=e) underlying103 (λ_=>by kernel_rfl) q19.1 q19.2 w) [34,36]<|have⟨a5,q20,h⟩:=h;hH 38 3 q20 [37]<|eT 1 [38] [(39,.bool (a5==1))]<|qx h (λc21 h=>?_) (λc21 h=>?_)
  ·exact aJ 39 (zK c21)<|zk 1<|aB<|aN<|aC<|nx 15<|eT 2 [5,29,39] [(29,vi (zY (s29+1)))]<|aR ((g,(zY (s29+1))):Bool×Int) sk h
  refine aK 39 (zJ c21)<|kd<|ar 6<|eH 3 [39] [(43,Vq tv)]<|have⟨bp,q23,h⟩:=h;hH 44 23 q23 [43] ?_
  obtain⟨bo,rfl,hc⟩:=h
  refine eH 2 [44] [(46,Vq bo)]<|have⟨bq,q24,h⟩:=hc;hH 47 49 q24 [46] ?_
  obtain⟨br,rfl,hd⟩:=h
  refine eH 2 [47] [(49,Vq br)]<|have⟨bc,q25,h⟩:=hd;hH 50 52 q25 [49] ?_
  obtain⟨bg,rfl,he⟩:=h
  refine eH 2 [50] [(52,Vq bg)]<|have⟨a3,q26,h⟩:=he;hH 53 78 q26 [52]<|eH 1 [] [(54,vi e)]<|zE 55 [53,54] h λap ak a4 aa u r y rb H4 h=>eH 3 [55] [(56,.agg #[vi ap,vi ak,vi a4,vi aa,vi u,vi r,vi y]),(57,.bool rb)]<|sv (some 6) (λb=>vp (pa b)) (.cells #[vi 0,vi 0,vi 0,vi 0,vi 0,vi 0,vi 0] 108)<|λa0 H5 e27 e28=>have h:=h a0 H5 e27 e28;kb [] [(6,vp (pa a0))]<|have⟨q30,h⟩:=h;fK 108 [vi ap,vi ak,vi a4,vi aa,vi u,vi r,vi y] q30<|λH6 e29=>have h:=h H6 e29;kb [56] []<|eT 1 [57] []<|o0 2<|have⟨bn,m32,i31,i32⟩:=h;bJ (x:=zI) (σ:=Bool×zW) (λs_=> [(0,Vq tv),(3,.bool s_.1),(5,vi e),(6,vp s_.2),(27,vs (some f) xN xC),(28,vi xN),(29,vi s29)]) (λs_ H=>bn s_.1 s_.2 H) (λs_ H=>m32 s_.1 s_.2 H) ((g,(pa a0)):Bool×zW) (by kernel_rfl) i31 sk ?_
  rintro⟨j,s⟩ H7 i33
  have h:=i32 j s H7 i33
  refine kT [(0,Vq tv),(3,.bool j),(5,vi e),(6,vp s),(27,vs (some f) xN xC),(28,vi xN),(29,vi s29)]<|ge<|ge<|qG 7<|u3 58 (Vq tv) []<|u3 59 (Vq tv) [58]<|u3 60 (Vq (tv.add 1027)) [59]<|have⟨a6,q34,h⟩:=h;m7 (some 61) 102 q34 [60] [(61,.map a6)]<|BE (some 62) (vi e) [(0,Vq tv),(3,.bool j),(5,vi e),(6,vp s),(27,vs (some f) xN xC),(28,vi xN),(29,vi s29),(61,.map a6),(62,vi e)] ?_
  obtain⟨mr,rfl,es,cl,ks,q35,q36,al,e67,hf⟩:=h
  refine Ai (some 63) (jP 102 (.map (some mr)) (vi e) false) (vi al) (λ_=>by kernel_rfl) (λw hw=>(hX (kk:=(aY .i64)) (z:=vi 0) underlying102 underlying3 (λ_=>by kernel_rfl) (by rw[hw];exact q35) q36 false).trans (by simp only[if_true,Bool.false_eq_true,if_false,e67])) [(0,vp (some tv)),(3,.bool j),(5,vi e),(6,vp s),(27,vs (some f) xN xC),(28,vi xN),(29,vi s29),(63,vi al)] pk ?_
  obtain⟨sA,rfl,hg⟩:=hf
  refine BE (some 64) (Vq (sA.add 2)) [(0,Vq tv),(3,.bool j),(5,vi e),(6,Vq sA),(27,vs (some f) xN xC),(28,vi xN),(29,vi s29),(63,vi al),(64,Vq (sA.add 2))]<|have⟨aq,q38,h⟩:=hg;m7 (some 65) 3 q38 [64] [(65,vi aq)]<|u3 66 (.bool (decide (al<aq))) [63,65]<|mW [(0,Vq tv),(3,.bool j),(5,vi e),(6,Vq sA),(27,vs (some f) xN xC),(28,vi xN),(29,vi s29),(66,.bool (decide (al<aq)))] sk<|Al<|qx h (λc39 h=>?_) (λc39 h=>?_)
  ·refine aJ 66 (zX c39)<|kd<|ge<|o0 3<|ar 9<|u8 3 [(0,Vq tv),(5,vi e),(6,Vq sA),(27,vs (some f) xN xC),(28,vi xN),(29,vi s29),(87,Vq (tv.add 1027))]<|have⟨a8,q41,h⟩:=h;hH 88 102 q41 [87]<|eH 1 [] [(89,vi e)] ?_
   obtain⟨bm,rfl,bw,cl_2,ks_2,q42,q43,ac,e65,hh⟩:=h
   refine yI 90 (jP 102 (.map (some bm)) (vi e) false) (vi ac) (λw hw=>(hX (kk:=(aY .i64)) (z:=vi 0) underlying102 underlying3 (λ_=>by kernel_rfl) (by rw[hw];exact q42) q43 false).trans (by simp only[if_true,Bool.false_eq_true,if_false,e65])) [88,89]<|eT 1 [90] [(8,vi ac)]<|ge ?_
   refine have⟨aw,q45,ax,q46,h⟩:=hh;yq 10 (Code.ops As) [(7,(tv.add 1027),[.map aw]),(7,(sA.add 2),[vi ax])] 8 (bv 8 0) (show aE _ _ _ from⟨⟨q45,trivial⟩,⟨q46,trivial⟩,trivial⟩)<|y9 0 (some 91) (Vq tv) (bv 8 1) [(0,Vq tv),(5,vi e),(6,Vq sA),(8,vi ac),(27,vs (some f) xN xC),(28,vi xN),(29,vi s29),(91,Vq tv)]<|aG 1 92 (Vq tv) (bv 8 3) [91]<|aG 2 93 (Vq (tv.add 1027)) (bv 8 7) [92]<|nc 3 94 (.map aw) (bv 8 15) [93] (aQ 102 (Vq (tv.add 1027))) (yY 7 yX)<|aG 4 95 (vi e) (bv 8 31) []<|aG 5 96 (Vq (sA.add 2)) (bv 8 63) []<|nc 6 97 (vi ax) (bv 8 127) [96] (aQ 3 (Vq (sA.add 2))) (yY 7 yQ) ?_
   obtain⟨a9,rfl,bu,cl_3,ks_3,q47,q48,hi⟩:=h
   refine fF 7 none (bv 8 255) (mQ 102 (.map (some a9)) (vi e) (vi ax)) (λHz=> ∃es2 cl2,Hz=aL H7 a9 (.map es2 cl2)/\va (aY .i64) es2.toList (yr ks_3 e (vi ax))) (by kernel_rfl) (λ_=>by kernel_rfl) (λw hw=>by obtain⟨es2,cl2,q1,q2⟩:=nh (kk:=(aY .i64)) (P:=prog) (w:=w) (k:=e) (v:=vi ax) underlying102 underlying3 (by rw[hw];exact q47) q48;exact⟨_,q1,⟨rfl,rfl,rfl,Nat.le_refl _⟩,es2,cl2,by rw[<-hw],q2⟩) (by kernel_rfl) ?_
   rintro H8 ⟨bl,cl_4,e50,e51⟩
   refine have h:=hi bl cl_4 H8 e50 e51;⟨[(0,Vq tv),(5,vi e),(6,Vq sA),(8,vi ac),(27,vs (some f) xN xC),(28,vi xN),(29,vi s29)],pk,(show aE _ _ _ from⟨trivial,trivial,trivial⟩),?_⟩
   refine eP [(0,Vq tv),(5,vi e),(6,Vq sA),(8,vi ac),(27,vs (some f) xN xC),(28,vi xN),(29,vi s29)] sk<|yz<|aC<|ar 11<|u8 4 [(0,Vq tv),(5,vi e),(6,Vq sA),(27,vs (some f) xN xC),(28,vi xN),(29,vi s29),(98,Vq tv),(99,vi e),(100,vi ac),(101,Vq (sA.add 2))]<|have⟨a1,q52,h⟩:=h;hH 102 3 q52 [101]<|eH 1 [] [(103,Vq (sA.add 1))] ?_
   obtain⟨a7,q53,h⟩:=h
   refine hH 104 3 q53 [103]<|zf (some 105) h ?_;clear h
   refine λv_3 H9 h=>kb [98,99,100,102,104] []<|ym<|nx 12<|eH 1 [] [(3,VT)]<|zq<|aA<|aC<|ge<|ar 13<|have⟨az,ao,ay,ag,ae,af,ah,q54,h⟩:=h;zr 106 108 q54 [6]<|ym<|nx 14<|sv (some 6) (λb=>vp (pa b)) (.cells #[vi 0,vi 0,vi 0,vi 0,vi 0,vi 0,vi 0] 108)<|λab H10 e55 e56=>have h:=h ab H10 e55 e56;kb [] [(6,vp (pa ab))]<|have⟨q58,h⟩:=h;fK 108 [vi az,vi ao,vi ay,vi ag,vi ae,vi af,vi ah] q58<|λba e57=>have h:=h ba e57;kb [106] []<|ym<|nx 8<|eH 3 [] [(70,Vq tv)]<|have⟨bj,q59,h⟩:=h;hH 71 23 q59 [70] ?_
   obtain⟨bf,rfl,hj⟩:=h
   refine eH 2 [71] [(73,Vq bf)]<|have⟨be,q60,h⟩:=hj;hH 74 49 q60 [73] ?_
   obtain⟨bi,rfl,hk⟩:=h
   refine eH 2 [74] [(76,Vq bi)]<|have⟨bh,q61,h⟩:=hk;hH 77 52 q61 [76] ?_
   obtain⟨bd,rfl,hl⟩:=h
   exact eH 2 [77] [(79,Vq bd)]<|have⟨a2,q62,h⟩:=hl;hH 80 78 q62 [79]<|eH 1 [] [(81,vi e)]<|zE 82 [80,81] h λaj ai av p o q m bt bx h=>eH 3 [82] [(83,.agg #[vi aj,vi ai,vi av,vi p,vi o,vi q,vi m])]<|have⟨q64,h⟩:=h;fK 108 [vi aj,vi ai,vi av,vi p,vi o,vi q,vi m] q64<|λbs e63=>have h:=h bs e63;kb [83] []<|ym<|aR ((true,(pa ab)):Bool×zW) sk h
  exact aK 66 (zQ c39)<|zk 2<|aB<|aB<|aN<|aA<|aC<|nx 15<|u5 2 [(0,Vq tv),(3,.bool j),(27,vs (some f) xN xC),(28,vi xN),(29,vi (zY (s29+1)))]<|aR ((j,(zY (s29+1))):Bool×Int) sk h
 exact aK 30 (zQ c15)<|zk 0<|aB<|aB<|aN<|aC<|ar 16<|hV 2 [2] [.bool g] hQ h
def cI.K0:=Func.code f72
def cI.K2:=cb K0
def cI.K4:=cb K2
def cI.K6:=cb K4
def cI.K7:=ca K6
def cI.K8:=ca K7
def cI.pt(tv:zW)(d e to a:Int)(H:zV)(R:zv):Prop:=
 ∀b H1,b=H.size->H1=H.push (.cells #[vp tv] 37)->
 ∃(I9:zw) (m9:Int->zV->Nat),I9 e H1/\ ∀i H2,I9 i H2->
 if((decide (i<to)) && (a !=3))=true then(
 if((a !=1) || ((Int.tmod i 2)==1))=true then(
 dF.C (zY ((zY (d*64))+i)) (some (ad b)) H2 (λ_ H3=>
 (I9 (zY (i+1)) H3/\m9 (zY (i+1)) H3<m9 i H2)))
 else
 (I9 (zY (i+1)) H2/\m9 (zY (i+1)) H2<m9 i H2))
 else
 R (.tuple #[]) H2
theorem cI.link{to a:Int}(h:pt d i j to a H R):C d i j to a H R:=by
 refine p0 K0 36 func72 ?_
 intro w0 Q hQ
 unfold pt zY at h
 refine kT [(0,vp d),(1,vi i),(2,vi j),(3,vi to),(4,vi a)]<|ar 0<|sv (some 5) (λb=>vp (pa b)) (.cells #[vp d] 37)<|λb H1 e1 e2=>have h:=h b H1 e1 e2;kb [0] [(5,vp (pa b))]<|ym<|ar 1<|eT 2 [5] [(10,.func (.func 112) #[] #[vp (pa b)])]<|ar 2<|eT 2 [2] [(11,vi j)]<|o0 0<|have⟨I9,m9,i3,i4⟩:=h;bJ (x:=K8) (σ:=Int) (λs_=> [(1,vi i),(3,vi to),(4,vi a),(10,.func (.func 112) #[] #[vp (pa b)]),(11,vi s_)]) (λs_ H=>I9 s_ H) (λs_ H=>m9 s_ H) (j:Int) (by kernel_rfl) i3 sk ?_
 rintro e H2 i5
 have h:=i4 e H2 i5
 refine kT [(1,vi i),(3,vi to),(4,vi a),(10,.func (.func 112) #[] #[vp (pa b)]),(11,vi e)]<|ge<|ar 3<|iX [(1,vi i),(3,vi to),(4,vi a),(10,.func (.func 112) #[] #[vp (pa b)]),(11,vi e),(20,.bool ((decide (e<to)) && (a !=3)))] ?_ ?_
 ·refine aC<|qx h (λc8 h=>?_) (λc8 h=>?_)
  ·refine aJ 20 c8<|kd<|ge<|o0 1<|ar 5<|iX [(1,vi i),(3,vi to),(4,vi a),(10,.func (.func 112) #[] #[vp (pa b)]),(11,vi e),(29,.bool ((a !=1) || ((Int.tmod e 2)==1)))] ?_ ?_
   ·refine aC<|qx h (λc12 h=>?_) (λc12 h=>?_)
    ·refine aJ 29 c12<|nx 6<|u8 5 [(1,vi i),(3,vi to),(4,vi a),(10,.func (.func 112) #[] #[vp (pa b)]),(11,vi e),(30,.func (.func 112) #[] #[vp (pa b)]),(34,vi (zY ((zY (i*64))+e)))]<|zf (some 35) h ?_;clear h
     exact λv H3 h=>kb [30,34] []<|zq<|aA<|aC<|nx 4<|eT 3 [11] [(11,vi (zY (e+1)))]<|aR ((zY (e+1)):Int) sk h
    exact aK 29 (zZ c12)<|yR<|aA<|aC<|nx 4<|u5 3 [(1,vi i),(3,vi to),(4,vi a),(10,.func (.func 112) #[] #[vp (pa b)]),(11,vi (zY (e+1)))]<|aR ((zY (e+1)):Int) sk h
   refine λhk=>u8 3 [(1,vi i),(3,vi to),(4,vi a),(10,.func (.func 112) #[] #[vp (pa b)]),(11,vi e),(25,.bool (a !=1))] ?_
   by_cases c10:a=1
   ·have b11:(a !=1)=false:=bne_eq_false_iff_eq.mpr c10
    exact bW [(1,vi i),(3,vi to),(4,vi a),(10,.func (.func 112) #[] #[vp (pa b)]),(11,vi e),(25,VF)] (by rw[b11])<|eH 4 [25] [(29,.bool ((Int.tmod e 2)==1))]<|zq<|vb 29 (b:=((Int.tmod e 2)==1)) (v:=((a !=1) || ((Int.tmod e 2)==1))) (by simp only[b11,BL])<|hk
   have b11:(a !=1)=true:=bne_iff_ne.mpr c10
   exact bW [(1,vi i),(3,vi to),(4,vi a),(10,.func (.func 112) #[] #[vp (pa b)]),(11,vi e),(25,VT)] (by rw[b11])<|eH 4 [25] [(29,VT)]<|zq<|vb 29 (b:=true) (v:=((a !=1) || ((Int.tmod e 2)==1))) (by simp only[b11,BL])<|hk
  exact aK 20 (zZ c8)<|zk 0<|aB<|aB<|aN<|gF (fn:=f72) [] hQ (show bS _ _ _ [] _ from .nil) h
 refine λhk=>u8 4 [(1,vi i),(3,vi to),(4,vi a),(10,.func (.func 112) #[] #[vp (pa b)]),(11,vi e),(17,.bool (decide (e<to)))] ?_
 by_cases c6:e<to
 ·have b7:(decide (e<to))=true:=zX c6
  exact bW [(1,vi i),(3,vi to),(4,vi a),(10,.func (.func 112) #[] #[vp (pa b)]),(11,vi e),(17,VT)] (by rw[b7])<|eH 3 [17] [(20,.bool (a !=3))]<|zq<|vb 20 (b:=(a !=3)) (v:=((decide (e<to)) && (a !=3))) (by simp only[b7,BL])<|hk
 have b7:(decide (e<to))=false:=zQ c6
 exact bW [(1,vi i),(3,vi to),(4,vi a),(10,.func (.func 112) #[] #[vp (pa b)]),(11,vi e),(17,VF)] (by rw[b7])<|eH 3 [17] [(20,VF)]<|zq<|vb 20 (b:=false) (v:=((decide (e<to)) && (a !=3))) (by simp only[b7,BL])<|hk
def bM.K0:=Func.code f74
def bM.K2:=cb K0
def bM.K3:=ca K2
def bM.K4:=ca K3
def bM.pt(d f to:Int)(e:zW)(H:zV)(R:zv):Prop:=
 ∃(I5:zw) (m5:Int->zV->Nat),I5 f H/\ ∀i H1,I5 i H1->
 if i<to then(
 ∃a,e=some a/\
 ∃xB xN xC,hat H1 a=some (vs xB xN xC)/\
 ∀b H2,b=H1.size->H2=H1.push (.cells #[vi (zY ((zY (d*64))+i))] 3)->
 bI 1 3 8 [vi 0] xB xN xC (some (ad b)) 1 H2 (λap g H3=>
 (aH H3 a 0 1)/\ ∀H4,H4=aP H3 a [vs ap (xN+1) g] 0->
 (I5 (zY (i+2)) H4/\m5 (zY (i+2)) H4<m5 i H1)))
 else
 R (.tuple #[]) H1
theorem bM.link{to:Int}(h:pt i j to d H R):C i j to d H R:=by
 refine p0 K0 21 func74 ?_
 intro w0 Q hQ
 unfold pt zY at h
 refine kT [(0,vi i),(1,vi j),(2,vi to),(3,vp d)]<|ar 0<|eT 2 [1] [(7,vi j)]<|o0 0<|have⟨I5,m5,i1,i2⟩:=h;bJ (x:=K4) (σ:=Int) (λs_=> [(0,vi i),(2,vi to),(3,vp d),(7,vi s_)]) (λs_ H=>I5 s_ H) (λs_ H=>m5 s_ H) (j:Int) (by kernel_rfl) i1 sk ?_
 rintro e H1 i3
 have h:=i2 e H1 i3
 refine kT [(0,vi i),(2,vi to),(3,vp d),(7,vi e)]<|ge<|ar 1<|eT 3 [] [(11,.bool (decide (e<to)))]<|qx h (λc4 h=>?_) (λc4 h=>?_)
 ·refine aJ 11 (zX c4)<|kd<|ge<|o0 1<|nx 3<|yA [11] [] ?_
  obtain⟨a,rfl,xB,xN,xC,q6,ha⟩:=h
  have h:=ha
  refine Af (some 14) 75 q6 [3] [(3,Vq a),(14,vs xB xN xC)]<|eH 4 [] [(18,vi (zY ((zY (i*64))+e)))]<|sv (some 19) (λb=>vs (pa b) 1 1) (.cells #[vi (zY ((zY (i*64))+e))] 3) ?_
  intro b H2 e7 e8
  replace h:=h b H2 e7 e8
  refine kb [18] [(19,vs (pa b) 1 1)]<|yO (some 20) (cG #[75,75] 75 #[vs xB xN xC,vs (pa b) 1 1]) _ (λ_=>by kernel_rfl) (bK (T:=3) (sz:=1) (bytes:=8) (zero:=(vi 0:Value)) underlying75 underlying75 rfl (show prog.info? 3=some t3 from by kernel_rfl) (by kernel_rfl) (by kernel_rfl) (by decide) (by kernel_rfl) (by first | exact h | (simpa only[Value.cells,List.toList_toArray]using h))) ?_;clear h
  rintro _ H3 ⟨ap,g,rfl,h⟩
  exact kb [14,19] [(20,vs ap (xN+1) g)]<|have⟨q10,h⟩:=h;eQ 75 (vs ap (xN+1) g) q10<|λH4 e9=>have h:=h H4 e9;kb [20] []<|zq<|aA<|aC<|nx 2<|eT 3 [7] [(7,vi (zY (e+2)))]<|aR ((zY (e+2)):Int) sk h
 exact aK 11 (zQ c4)<|zk 0<|aB<|aB<|aN<|gF (fn:=f74) [] hQ (show bS _ _ _ [] _ from .nil) h
def dW.K0:=Func.code f100
def dW.pt(tv:zW)(H:zV)(R:zv):Prop:=
 bL.C tv H (λv H1=> ∃x,v=.bool x/\
 R (.bool x) H1)
theorem dW.link(h:pt d H R):C d H R:=by
 refine p0 K0 5 func100 ?_
 intro w0 Q hQ
 unfold pt at h
 exact kT [(0,vp d)]<|ar 0<|eT 1 [] []<|ar 1<|u8 1 [(3,vp d)]<|yT 4 (λx=>[(4,.bool x)]) h λx H1 h=>hV 1 [2] [.bool x] hQ h
def eY.K0:=Func.code f102
def eY.K2:=cb K0
def eY.K4:=cb K2
def eY.K11:=ca K4
def eY.pt(tv:zW)(d b:Int)(H:zV)(R:zv):Prop:=
 bL.C tv H (λv H1=> ∃x,v=.bool x/\
 if x=true then(
 R (vu 20) H1)
 else
 ∃a,tv=some a/\
 ∃af,hat H1 a=some (vp af)/\
 ∃f,af=some f/\
 ∃ag,hat H1 f=some (vp ag)/\
 ∃e,ag=some e/\
 ∃g,hat H1 e=some (vp g)/\
 ∃p,hat H1 (a.add 1)=some (vi p)/\
 cJ.C g p 0 2 H1 (λai H2=> ∃ra rb,ai=.tuple #[vi ra,vi rb]/\
 if rb=0 then(
 ∃y,hat H2 a=some (vp y)/\
 ∃u,y=some u/\
 ∃aa,hat H2 u=some (vp aa)/\
 ∃ab,aa=some ab/\
 ∃t,hat H2 ab=some (vp t)/\
 ∃z,t=some z/\
 ∃n,hat H2 z=some (vp n)/\
 bR.C n ra d H2 (λaj H3=> ∃ae,aj=vi ae/\
 ∃s,hat H3 a=some (vp s)/\
 ∃k,s=some k/\
 ∃r,hat H3 k=some (vp r)/\
 ∃q,r=some q/\
 ∃o,hat H3 q=some (vp o)/\
 ∃m,o=some m/\
 ∃i,hat H3 m=some (vp i)/\
 bR.C i (zY (ra+1)) b H3 (λal H4=> ∃ah,al=vi ah/\
 jQ.C 1 ra H4 (λak H5=> ∃j ac,ak=.tuple #[vu j,vi ac]/\
 R (vu j) H5))))
 else
 R (vu 20) H2))
theorem eY.link(h:pt d i j H R):C d i j H R:=by
 refine p0 K0 72 func102 ?_
 intro w0 Q hQ
 unfold pt zY at h
 refine kT [(0,vp d),(1,vu i),(2,vu j)]<|ar 0<|eT 1 [] []<|ge<|ar 1<|eH 1 [] [(11,vp d)]<|sa 12 [11] h λx H1 h=>ym<|qx h (λc1 h=>?_) (λc1 h=>?_)
 ·exact aJ 12 c1<|ar 2<|hV 1 [6] [vu 20] hQ h
 refine aK 12 (zZ c1)<|kd<|ge ?_
 obtain⟨a,rfl,af,q3,f,rfl,ag,q4,e,rfl,g,q5,p,q6,ha⟩:=h
 refine yq 3 (Code.ops K11) [(14,a,[Vq f]),(14,f,[Vq e]),(14,e,[vp g]),(14,(a.add 1),[vi p])] 20 (bv 20 0) (show aE _ _ _ from⟨⟨q3,trivial⟩,⟨q4,trivial⟩,⟨q5,trivial⟩,⟨q6,trivial⟩,trivial⟩)<|y9 0 (some 14) (Vq a) (bv 20 1) [(0,Vq a),(1,vu i),(2,vu j),(14,Vq a)]<|aG 1 15 (Vq a) (bv 20 3) [14]<|aG 2 16 (Vq a) (bv 20 7) [15]<|nc 3 17 (Vq f) (bv 20 15) [16] (aQ 23 (Vq a)) (yY 14 yX)<|aG 4 18 (Vq f) (bv 20 31) [17]<|aG 5 19 (Vq f) (bv 20 63) [18]<|nc 6 20 (Vq e) (bv 20 127) [19] (aQ 49 (Vq f)) (yY 14 yQ)<|aG 7 21 (Vq e) (bv 20 255) [20]<|aG 8 22 (Vq e) (bv 20 511) [21]<|nc 9 23 (vp g) (bv 20 1023) [22] (aQ 52 (Vq e)) (yY 14 yJ)<|aG 10 24 (Vq a) (bv 20 2047) []<|aG 11 25 (Vq a) (bv 20 4095) [24]<|aG 12 26 (Vq (a.add 1)) (bv 20 8191) [25]<|nc 13 27 (vi p) (bv 20 16383) [26] (aQ 3 (Vq (a.add 1))) (yY 14 yK)<|yx 14 (some 28) (bv 20 32767) 53 #[vp g,vi p,vi 0,vi 2] ha ?_;clear ha
 rintro ai H2 ⟨ra,rb,rfl,h⟩
 refine⟨[(0,Vq a),(1,vu i),(2,vu j),(28,.tuple #[vi ra,vi rb])],pk,(show aE _ _ _ from⟨trivial,trivial,trivial,trivial,trivial⟩),?_⟩
 refine zh 15 (some 13) (.tuple #[vi ra,vi rb]) (bv 20 65535) [(0,Vq a),(1,vu i),(2,vu j),(13,.tuple #[vi ra,vi rb])] (pure (.value (.tuple #[vi ra,vi rb])):Sem Next) (λ_ _ _ _ _=>rfl)<|nc 16 29 (vi ra) (bv 20 131071) [] (pure (.value (vi ra)):Sem Next) (λ_ _ _ _ _=>rfl)<|nc 17 30 (vi rb) (bv 20 262143) [13] (pure (.value (vi rb)):Sem Next) (λ_ _ _ _ _=>rfl)<|nc 18 7 (vi ra) (bv 20 524287) [29] (pure (.value (vi ra)):Sem Next) (λ_ _ _ _ _=>rfl)<|nc 19 8 (vi rb) (bv 20 1048575) [30] (pure (.value (vi rb)):Sem Next) (λ_ _ _ _ _=>rfl)<|eP [(0,Vq a),(1,vu i),(2,vu j),(7,vi ra),(8,vi rb)] sk<|yz<|aC<|ge<|ar 4<|u5 2 [(0,Vq a),(1,vu i),(2,vu j),(7,vi ra),(32,.bool (rb !=0))]<|qx h (λc7 h=>?_) (λc7 h=>?_)
 ·refine aK 32 (bne_eq_false_iff_eq.mpr c7)<|kd<|ar 6<|eH 3 [32] [(35,Vq a)]<|have⟨y,q9,h⟩:=h;hH 36 23 q9 [35] ?_
  obtain⟨u,rfl,hb⟩:=h
  refine eH 2 [36] [(38,Vq u)]<|have⟨aa,q10,h⟩:=hb;hH 39 49 q10 [38] ?_
  obtain⟨ab,rfl,hc⟩:=h
  refine eH 2 [39] [(41,Vq ab)]<|have⟨t,q11,h⟩:=hc;hH 42 52 q11 [41] ?_
  obtain⟨z,rfl,hd⟩:=h
  refine eH 2 [42] [(44,Vq z)] ?_
  obtain⟨n,q12,h⟩:=hd
  refine hH 45 78 q12 [44]<|eH 2 [1] [(46,vi ra),(47,vu i)]<|zf (some 48) h ?_;clear h
  rintro aj H3 ⟨ae,rfl,h⟩
  refine kb [45,46,47] []<|ym<|ar 7<|eH 3 [0] [(51,Vq a)]<|have⟨s,q13,h⟩:=h;hH 52 23 q13 [51] ?_
  obtain⟨k,rfl,he⟩:=h
  refine eH 2 [52] [(54,Vq k)]<|have⟨r,q14,h⟩:=he;hH 55 49 q14 [54] ?_
  obtain⟨q,rfl,hf⟩:=h
  refine eH 2 [55] [(57,Vq q)]<|have⟨o,q15,h⟩:=hf;hH 58 52 q15 [57] ?_
  obtain⟨m,rfl,hg⟩:=h
  exact eH 2 [58] [(60,Vq m)]<|have⟨b,q16,h⟩:=hg;hH 61 78 q16 [60]<|eH 3 [2] [(63,vi (zY (ra+1))),(64,vu j)]<|yT 65 (λah=>[(7,vi ra)]) h λah H4 h=>ym<|ar 8<|u8 1 [(67,vi ra)]<|zm 68 (λtv ac=>[(68,.tuple #[vu tv,vi ac])]) h λtv ac H5 h=>u5 5 [(9,vu tv)]<|ar 9<|hV 2 [6] [vu tv] hQ h
 exact aJ 32 (bne_iff_ne.mpr c7)<|ar 5<|hV 1 [6] [vu 20] hQ h
def dF.K0:=Func.code f112
def dF.K2:=cb K0
def dF.pt(b:Int)(n:zW)(H:zV)(R:zv):Prop:=
 ∃a,n=some a/\
 ∃x,hat H a=some (vp x)/\
 ∃xA,x=some xA/\
 ∃o,hat H xA=some (vp o)/\
 ∃s,o=some s/\
 ∃p,hat H s=some (vp p)/\
 ∃q,p=some q/\
 ∃r,hat H q=some (vp r)/\
 ∃t,r=some t/\
 ∃k,hat H t=some (vp k)/\
 cD.C k b H (λv H1=> ∃ra rb,v=.tuple #[vu ra,vi rb]/\
 ∃y,hat H1 a=some (vp y)/\
 ∃e,y=some e/\
 ∃ab,hat H1 e=some (vp ab)/\
 ∃g,ab=some g/\
 ∃u,hat H1 g=some (vp u)/\
 ∃f,u=some f/\
 ∃z,hat H1 f=some (vp z)/\
 ∃i,z=some i/\
 ∃d,hat H1 i=some (vp d)/\
 ∃j,hat H1 a=some (vp j)/\
 aZ.C j ra H1 (λac H2=> ∃m,ac=vu m/\aM H2 a 0 [Vq e]/\aM H2 e 0 [Vq g]/\aM H2 g 0 [Vq f]/\aM H2 f 0 [Vq i]/\aM H2 i 0 [vp d]/\
 bR.C d b m H2 (λae H3=> ∃aa,ae=vi aa/\
 R (.tuple #[]) H3)))
theorem dF.link(h:pt i d H R):C i d H R:=by
 refine p0 K0 41 func112 ?_
 intro w0 Q hQ
 unfold pt at h
 refine kT [(0,vi i),(1,vp d)]<|ar 0 ?_
 obtain⟨a,rfl,x,q1,ha⟩:=h
 refine Af (some 6) 37 q1 [1] [(1,Vq a),(6,vp x)] ?_
 obtain⟨xA,rfl,hb⟩:=ha
 refine eH 2 [6] [(8,Vq xA)]<|have⟨o,q2,h⟩:=hb;hH 9 23 q2 [8] ?_
 obtain⟨s,rfl,hc⟩:=h
 refine eH 2 [9] [(11,Vq s)]<|have⟨p,q3,h⟩:=hc;hH 12 49 q3 [11] ?_
 obtain⟨q,rfl,hd⟩:=h
 refine eH 2 [12] [(14,Vq q)]<|have⟨r,q4,h⟩:=hd;hH 15 52 q4 [14] ?_
 obtain⟨t,rfl,he⟩:=h
 refine eH 2 [15] [(17,Vq t)]<|have⟨k,q5,h⟩:=he;hH 18 78 q5 [17]<|eH 1 [] [(19,vi i)]<|yD 20 [18,19] h λra rb H1 h=>eT 5 [20] [(3,vu ra)] ?_
 obtain⟨y,q6,e,rfl,ab,q7,g,rfl,u,q8,f,rfl,z,q9,b,rfl,n,q10,j,q11,hf⟩:=h
 refine yq 1 (Code.ops K2) [(17,a,[Vq e]),(17,e,[Vq g]),(17,g,[Vq f]),(17,f,[Vq b]),(17,b,[vp n]),(16,a,[vp j])] 18 (bv 18 0) (show aE _ _ _ from⟨⟨q6,trivial⟩,⟨q7,trivial⟩,⟨q8,trivial⟩,⟨q9,trivial⟩,⟨q10,trivial⟩,⟨q11,trivial⟩,trivial⟩)<|zh 0 (some 23) (Vq e) (bv 18 1) [(0,vi i),(1,Vq a),(3,vu ra),(23,Vq e)] (aQ 37 (Vq a)) (yY 17 yX)<|aG 1 24 (Vq e) (bv 18 3) [23]<|aG 2 25 (Vq e) (bv 18 7) [24]<|nc 3 26 (Vq g) (bv 18 15) [25] (aQ 23 (Vq e)) (yY 17 yQ)<|aG 4 27 (Vq g) (bv 18 31) [26]<|aG 5 28 (Vq g) (bv 18 63) [27]<|nc 6 29 (Vq f) (bv 18 127) [28] (aQ 49 (Vq g)) (yY 17 yJ)<|aG 7 30 (Vq f) (bv 18 255) [29]<|aG 8 31 (Vq f) (bv 18 511) [30]<|nc 9 32 (Vq b) (bv 18 1023) [31] (aQ 52 (Vq f)) (yY 17 yK)<|aG 10 33 (Vq b) (bv 18 2047) [32]<|aG 11 34 (Vq b) (bv 18 4095) [33]<|nc 12 35 (vp n) (bv 18 8191) [34] (aQ 78 (Vq b)) (yY 17 yV)<|aG 13 36 (vi i) (bv 18 16383) [0]<|nc 14 37 (vp j) (bv 18 32767) [1] (aQ 37 (Vq a)) (yY 16 yW)<|aG 15 38 (vu ra) (bv 18 65535) [3]<|yx 16 (some 39) (bv 18 131071) 13 #[vp j,vu ra] hf ?_;clear hf
 rintro ac H2 ⟨m,rfl,f12,f13,f14,f15,f16,h⟩
 refine⟨[(35,vp n),(36,vi i),(39,vu m)],pk,(show aE _ _ _ from⟨f12,f13,f14,f15,f16,trivial,trivial⟩),?_⟩
 refine yx 17 (some 40) (bv 18 262143) 54 #[vp n,vi i,vu m] h ?_;clear h
 rintro ae H3 ⟨aa,rfl,h⟩
 refine⟨[],pk,(show aE _ _ _ from⟨trivial,trivial,trivial,trivial,trivial,trivial,trivial⟩),?_⟩
 exact eP [] sk<|yz<|gF (fn:=f112) [] hQ (show bS _ _ _ [] _ from .nil) h
variable{R:zv}{d j:Int}{H:zV}{i:zW}
def cD.K0:=Func.code f33
def cD.pt(m:zW)(a:Int)(H:zV)(R:zv):Prop:=
 gQ.C m a H (λv H1=> ∃x,v=vp x/\
 fE x (
 R (.tuple #[vu 0,vi 18]) H1) (λxA=>
 ∃b,hat H1 xA=some (vu b)/\
 R (.tuple #[vu b,vi 0]) H1))
theorem cD.link(h:pt i d H R):C i d H R:=by
 refine p0 K0 15 func33 ?_
 intro w0 Q hQ
 unfold pt at h
 refine kT [(0,vp i),(1,vi d)]<|ar 0<|eT 2 [] []<|ge<|ar 1<|u8 2 [(7,vp i),(8,vi d)]<|yT 9 (λx=>[(9,vp x)]) h λx H1 h=>u5 1 [(6,vp x)]<|ar 2<|eH 1 [] [(10,vp x)] ?_
 rcases x with _ | xA
 ·rw[onPtr_none]at h
  exact u5 1 [(6,vp none),(11,VF)]<|yn 11<|kd<|ar 4<|hV 2 [4,5] [vu 0,vi 18] hQ h
 rw[onPtr_some]at h
 exact u5 1 [(6,Vq xA),(11,VT)]<|wc 11<|ar 3<|u8 2 [(13,Vq xA)]<|have⟨b,q1,h⟩:=h;hH 14 28 q1 [13]<|hV 2 [4,5] [vu b,vi 0] hQ h
def bA.K0:=Func.code f47
def bA.pt(m:zW)(y:Int)(H:zV)(R:zv):Prop:=
 ∀b H1,b=H.size->H1=H.push (.cells #[vi 0,vi 0,vi 0,vi 0,vi 0,vi 0,vi 0] 108)->
 gI.C m y H1 (λv H2=> ∃x,v=vp x/\
 fE x (
 (aH H2 (ad b) 0 7)/\ ∀H3,H3=aP H2 (ad b) [vi 0,vi 0,vi 0,vi 0,vi 0,vi 0,vi 0] 0->
 ∃ab z rN q r o p,aM H3 (ad b) 0 [vi ab,vi z,vi rN,vi q,vi r,vi o,vi p]/\
 R (.tuple #[.agg #[vi ab,vi z,vi rN,vi q,vi r,vi o,vi p],VF]) H3) (λxA=>
 ∃s n xN a d e f,aM H2 xA 0 [vi s,vi n,vi xN,vi a,vi d,vi e,vi f]/\
 (aH H2 (ad b) 0 7)/\ ∀H4,H4=aP H2 (ad b) [vi s,vi n,vi xN,vi a,vi d,vi e,vi f] 0->
 ∃u t aa i j g k,aM H4 (ad b) 0 [vi u,vi t,vi aa,vi i,vi j,vi g,vi k]/\
 R (.tuple #[.agg #[vi u,vi t,vi aa,vi i,vi j,vi g,vi k],VT]) H4))
theorem bA.link(h:pt i d H R):C i d H R:=by
 refine p0 K0 17 func47 ?_
 intro w0 Q hQ
 unfold pt at h
 refine kT [(0,vp i),(1,vi d)]<|ar 0<|sv (some 4) (λb=>vp (pa b)) (.cells #[vi 0,vi 0,vi 0,vi 0,vi 0,vi 0,vi 0] 108)<|λb H1 e1 e2=>have h:=h b H1 e1 e2;kb [] [(4,vp (pa b))]<|eT 1 [] []<|ar 1<|eH 2 [0,1] [(7,vp i),(8,vi d)]<|sa 9 [7,8] h λx H2 h=>eT 1 [9] [(6,vp x)]<|ge<|ar 2<|eH 1 [] [(10,vp x)] ?_
 rcases x with _ | xA
 ·rw[onPtr_none]at h
  refine eT 1 [6,10] [(6,vp none),(11,VT)]<|wc 11<|ar 3<|eH 1 [6,11] [(12,.agg #[vi 0,vi 0,vi 0,vi 0,vi 0,vi 0,vi 0])]<|have⟨q4,h⟩:=h;fK 108 [vi 0,vi 0,vi 0,vi 0,vi 0,vi 0,vi 0] q4<|λH3 e3=>have h:=h H3 e3;kb [12] []<|eT 1 [] [(5,VF)]<|zx ?_
  show At _ _ _ _ _ (Q .ret)
  exact have⟨ab,z,rN,q,r,o,p,q5,h⟩:=h;kO (fn:=f47) [.agg #[vi ab,vi z,vi rN,vi q,vi r,vi o,vi p],VF] hQ (show bS _ _ _ [.cell 4 108,.tmp 5] _ from .cell (by kernel_rfl) (eO (λ_=>by kernel_rfl) (λ_=>by kernel_rfl) q5) (.tmp (by kernel_rfl) (.nil))) h
 rw[onPtr_some]at h
 refine eT 1 [6,10] [(6,Vq xA),(11,VF)]<|yn 11<|kd<|ar 4<|eH 3 [6,11] [(15,Vq xA)]<|have⟨s,n,xN,a,y,e,f,q6,h⟩:=h;zr 16 108 q6 [15]<|have⟨q8,h⟩:=h;fK 108 [vi s,vi n,vi xN,vi a,vi y,vi e,vi f] q8<|λH4 e7=>have h:=h H4 e7;kb [16] []<|eT 1 [] [(5,VT)]<|zx ?_
 show At _ _ _ _ _ (Q .ret)
 exact have⟨u,t,aa,m,j,g,k,q9,h⟩:=h;kO (fn:=f47) [.agg #[vi u,vi t,vi aa,vi m,vi j,vi g,vi k],VT] hQ (show bS _ _ _ [.cell 4 108,.tmp 5] _ from .cell (by kernel_rfl) (eO (λ_=>by kernel_rfl) (λ_=>by kernel_rfl) q9) (.tmp (by kernel_rfl) (.nil))) h
def bR.K0:=Func.code f54
def bR.pt(m:zW)(a wv:Int)(H:zV)(R:zv):Prop:=
 gQ.C m a H (λv H1=> ∃x,v=vp x/\
 fE x (
 R (vi 18) H1) (λxA=>
 (aH H1 xA 0 1)/\ ∀H2,H2=aP H1 xA [vu wv] 0->
 R (vi 0) H2))
theorem bR.link(h:pt i d j H R):C i d j H R:=by
 refine p0 K0 16 func54 ?_
 intro w0 Q hQ
 unfold pt at h
 refine kT [(0,vp i),(1,vi d),(2,vu j)]<|ar 0<|eT 1 [] []<|ar 1<|eH 2 [0,1] [(8,vp i),(9,vi d)]<|sa 10 [8,9] h λx H1 h=>eT 1 [10] [(7,vp x)]<|ge<|ar 2<|eH 1 [] [(11,vp x)] ?_
 rcases x with _ | xA
 ·rw[onPtr_none]at h
  exact eT 1 [7,11] [(7,vp none),(12,VT)]<|wc 12<|ar 3<|hV 1 [6] [vi 18] hQ h
 rw[onPtr_some]at h
 refine eT 1 [7,11] [(7,Vq xA),(12,VF)]<|yn 12<|kd<|ar 4<|u8 3 [(14,vu j),(15,Vq xA)]<|have⟨q2,h⟩:=h;eQ 28 (vu j) q2<|λH2 e1=>have h:=h H2 e1;⟨[],pk,?_⟩
 exact ym<|ar 5<|hV 1 [6] [vi 0] hQ h
def gQ.K0:=Func.code f75
def gQ.pt(m:zW)(b:Int)(H:zV)(R:zv):Prop:=
 if b<0 then(
 R (vp none) H)
 else
 gI.C m (zY (Int.tdiv b 64)) H (λv H1=> ∃x,v=vp x/\
 fE x (
 R (vp none) H1) (λxA=>
 ∃d,hat H1 (xA.add 2)=some (vi d)/\
 if(Int.tmod b 64)>=d then(
 R (vp none) H1)
 else
 ((0:Int)<=(Int.tmod b 64)/\(Int.tmod b 64)< (64:Int))/\
 R (Vq ((xA.add 8).add (Int.toNat (Int.tmod b 64)*1))) H1))
theorem gQ.link(h:pt i d H R):C i d H R:=by
 refine p0 K0 30 func75 ?_
 intro w0 Q hQ
 unfold pt zY at h
 refine kT [(0,vp i),(1,vi d)]<|ar 0<|eT 1 [] []<|ge<|ar 1<|eT 2 [] [(7,.bool (decide (d<0)))]<|qx h (λc1 h=>?_) (λc1 h=>?_)
 ·exact aJ 7 (zX c1)<|ar 2<|hV 1 [4] [vp none] hQ h
 refine aK 7 (zQ c1)<|kd<|ar 3<|eH 3 [0,7] [(8,vp i),(10,vi (zY (Int.tdiv d 64)))]<|sa 11 [8,10] h λx H1 h=>eT 1 [11] [(5,vp x)]<|ge<|ar 4<|eH 1 [] [(12,vp x)] ?_
 rcases x with _ | xA
 ·rw[onPtr_none]at h
  exact eT 11 [5,12] [(5,vp none),(23,VT)]<|wc 23<|ar 5<|hV 1 [4] [vp none] hQ h
 rw[onPtr_some]at h
 refine eH 8 [5,12] [(5,Vq xA),(14,VF),(16,vi (Int.tmod d 64)),(20,Vq (xA.add 2))]<|have⟨b,q3,h⟩:=h;hH 21 3 q3 [20]<|eT 2 [14,16,21] [(23,.bool (decide ((Int.tmod d 64)>=b)))]<|qx h (λc4 h=>?_) (λc4 h=>?_)
 ·exact aJ 23 (zX c4)<|ar 5<|hV 1 [4] [vp none] hQ h
 exact aK 23 (zQ c4)<|kd<|ar 6<|u8 5 [(26,vi (Int.tmod d 64)),(28,Vq (xA.add 8))]<|have⟨q6,h⟩:=h;yI 29 (bD 159 (Vq (xA.add 8)) (vi (Int.tmod d 64))) (Vq ((xA.add 8).add (Int.toNat (Int.tmod d 64)*1))) (λw _=>bO (P:=prog) (t:=159) (elem:=28) (sz:=1) (n:=64) (a:=(xA.add 8)) (k:=.i64) (i:=(Int.tmod d 64)) underlying159 (λ_=>by kernel_rfl) q6.1 q6.2 w) [26,28]<|hV 1 [4] [Vq ((xA.add 8).add (Int.toNat (Int.tmod d 64)*1))] hQ h
def gI.K0:=Func.code f91
def gI.pt(m:zW)(b:Int)(H:zV)(R:zv):Prop:=
 fE m (
 R (vp none) H) (λmA=>
 if b<0 then(
 R (vp none) H)
 else
 ∃xB xN xC,hat H mA=some (vs xB xN xC)/\
 if b>=(xN:Int)then(
 R (vp none) H)
 else
 ∃p g n,hat H mA=some (vs p g n)/\
 ∃e,p=some e/\
 yZ b g/\
 ∃x,hat H ((e.add (Int.toNat b*72)).add 7)=some (vi x)/\
 if x=0 then(
 R (vp none) H)
 else
 ∃o f j,hat H mA=some (vs o f j)/\
 ∃d,o=some d/\
 yZ b f/\
 R (Vq (d.add (Int.toNat b*72))) H)
theorem gI.link(h:pt i d H R):C i d H R:=by
 refine p0 K0 37 func91 ?_
 intro w0 Q hQ
 unfold pt at h
 refine kT [(0,vp i),(1,vi d)]<|ar 0<|eT 1 [] []<|ge<|ar 1<|eH 1 [] [(5,vp i)] ?_
 rcases i with _ | mA
 ·rw[onPtr_none]at h
  exact eT 25 [0,5] [(0,vp none),(30,VT)]<|wc 30<|ar 2<|hV 1 [4] [vp none] hQ h
 rw[onPtr_some]at h
 refine eH 6 [0,5] [(0,Vq mA),(11,.bool (decide (d<0)))]<|qx h (λc1 h=>?_) (λc1 h=>?_)
 ·exact oo 11 (zX c1)<|eT 19 [11] [(30,VT)]<|wc 30<|ar 2<|hV 1 [4] [vp none] hQ h
 refine oo 11 (zQ c1)<|eH 4 [] [(12,vi d),(15,Vq mA)]<|have⟨xB,xN,xC,q3,h⟩:=h;hH 16 155 q3 [15]<|eH 4 [11,12,16] [(20,.bool (decide (d>=(xN:Int))))]<|qx h (λc4 h=>?_) (λc4 h=>?_)
 ·exact oo 20 (zX c4)<|eT 10 [20] [(30,VT)]<|wc 30<|ar 2<|hV 1 [4] [vp none] hQ h
 refine oo 20 (zQ c4)<|eH 3 [] [(23,Vq mA)]<|have⟨p,g,n,q6,h⟩:=h;hH 24 155 q6 [23]<|eH 1 [] [(25,vi d)] ?_
 obtain⟨e,rfl,q7,ha⟩:=h
 refine yp (some 26) 155 161 72 e g n .i64 d underlying155 q7.1 q7.2 [24,25] [(26,Vq (e.add (Int.toNat d*72)))]<|eH 1 [26] [(27,Vq ((e.add (Int.toNat d*72)).add 7))]<|have⟨x,q8,h⟩:=ha;hH 28 3 q8 [27]<|eT 2 [20,28] [(30,.bool (x==0))]<|qx h (λc9 h=>?_) (λc9 h=>?_)
 ·exact aJ 30 (zK c9)<|ar 2<|hV 1 [4] [vp none] hQ h
 refine aK 30 (zJ c9)<|kd<|ar 3<|eH 3 [0,30] [(33,Vq mA)]<|have⟨o,f,j,q11,h⟩:=h;hH 34 155 q11 [33]<|eH 1 [1] [(35,vi d)] ?_
 obtain⟨b,rfl,q12,hb⟩:=h
 exact Bw (some 36) 155 161 72 b f j .i64 d underlying155 q12.1 q12.2 [(36,Vq (b.add (Int.toNat d*72)))]<|hV 1 [4] [Vq (b.add (Int.toNat d*72))] hQ hb
def gS.K0:=Func.code f98
def gS.pt(m:zW)(a nv:Int)(H:zV)(R:zv):Prop:=
 gI.C m a H (λv H1=> ∃x,v=vp x/\
 fE x (
 R (.tuple #[vi 0,vi 19]) H1) (λxA=>
 if nv<1 then(
 R (.tuple #[vi 0,vi 1]) H1)
 else
 ∃d,hat H1 (xA.add 2)=some (vi d)/\
 if nv>(zY (64-d))then(
 R (.tuple #[vi 0,vi 2]) H1)
 else
 ∃b,hat H1 (xA.add 2)=some (vi b)/\
 (aH H1 (xA.add 2) 0 1)/\ ∀H2,H2=aP H1 (xA.add 2) [vi (zY (b+nv))] 0->
 ∃e,hat H2 (xA.add 2)=some (vi e)/\
 R (.tuple #[vi (zY ((zY ((zY (a*64))+e))-nv)),vi 0]) H2))
theorem gS.link(h:pt i d j H R):C i d j H R:=by
 refine p0 K0 47 func98 ?_
 intro w0 Q hQ
 unfold pt zY at h
 refine kT [(0,vp i),(1,vi d),(2,vi j)]<|ar 0<|eT 2 [] []<|ar 1<|eH 2 [0] [(9,vp i),(10,vi d)]<|sa 11 [9,10] h λx H1 h=>eT 1 [11] [(8,vp x)]<|ge<|o0 0<|ar 2<|eH 1 [] [(13,vp x)] ?_
 rcases x with _ | xA
 ·rw[onPtr_none]at h
  exact eT 2 [8,13] [(8,vp none),(12,VT)]<|wc 12<|ar 3<|hV 2 [6,7] [vi 0,vi 19] hQ h
 rw[onPtr_some]at h
 refine eT 2 [8,13] [(8,Vq xA),(12,VF)]<|yn 12<|ar 4<|eT 3 [12] [(15,.bool (decide (j<1)))]<|qx h (λc1 h=>?_) (λc1 h=>?_)
 ·exact aJ 15 (zX c1)<|ar 5<|hV 2 [6,7] [vi 0,vi 1] hQ h
 refine aK 15 (zQ c1)<|ar 6<|eH 5 [15] [(19,vi j),(23,Vq (xA.add 2))]<|have⟨nv,q3,h⟩:=h;hH 24 3 q3 [23]<|eT 3 [19,24] [(18,.bool (decide (j>(zY (64-nv)))))]<|qx h (λc4 h=>?_) (λc4 h=>?_)
 ·exact aJ 18 (zX c4)<|ar 7<|hV 2 [6,7] [vi 0,vi 2] hQ h
 exact aK 18 (zQ c4)<|yR<|aA<|aC<|ar 8<|eH 4 [18] [(27,Vq xA),(30,Vq (xA.add 2))]<|have⟨b,q6,h⟩:=h;hH 31 3 q6 [30]<|eH 5 [27,31] [(33,vi (zY (b+j))),(36,Vq (xA.add 2))]<|have⟨q8,h⟩:=h;eQ 3 (vi (zY (b+j))) q8<|λH2 e7=>have h:=h H2 e7;kb [33,36] []<|ym<|ar 9<|eH 6 [1,8] [(38,vi (zY (d*64))),(42,Vq (xA.add 2))]<|have⟨e,q9,h⟩:=h;hH 43 3 q9 [42]<|hV 5 [6,7] [vi (zY ((zY ((zY (d*64))+e))-j)),vi 0] hQ h
namespace iF
def K0:=Func.code f99
def K2:=cb K0
def K4:=cb K2
def Ac:=cb K4
def zL:=ca Ac
def AC:=cb Ac
def Ak:=ca zL
def AN:=ca Ak
def AB:=cb AC
def Bf:=cb AB
def AD:=ca Bf
end iF
def iF.pt(m:zW)(d b:Int)(H:zV)(R:zv):Prop:=
 fE m (
 R (.tuple #[vi 0,vi 1]) H) (λmA=>
 if d<0 then(
 R (.tuple #[vi 0,vi 1]) H)
 else
 if d>4 then(
 R (.tuple #[vi 0,vi 1]) H)
 else
 if b<0 then(
 R (.tuple #[vi 0,vi 1]) H)
 else
 if b>3 then(
 R (.tuple #[vi 0,vi 1]) H)
 else
 ∃xB xN xC,hat H mA=some (vs xB xN xC)/\
 if(xN:Int)=0 then(
 R (.tuple #[vi 0,vi 1]) H)
 else
 ∃x,hat H (mA.add 2)=some (vi x)/\
 if x=0 then(
 R (.tuple #[vi 0,vi 2]) H)
 else
 ∃(y:zw) (m24:Int->zV->Nat),y 0 H/\ ∀k H1,y k H1->
 ∃u o p,hat H1 mA=some (vs u o p)/\
 ∃n,u=some n/\
 yZ k o/\
 ∃q,hat H1 ((n.add (Int.toNat k*72)).add 7)=some (vi q)/\
 if q>0 then(
 (y (zY (k+1)) H1/\m24 (zY (k+1)) H1<m24 k H1))
 else
 ∃r,hat H1 (mA.add 1)=some (vi r)/\
 (aH H1 (mA.add 1) 0 1)/\ ∀H2,H2=aP H1 (mA.add 1) [vi (zY (r+1))] 0->
 ∃s,hat H2 (mA.add 2)=some (vi s)/\
 (aH H2 (mA.add 2) 0 1)/\ ∀H3,H3=aP H2 (mA.add 2) [vi (zY (s-1))] 0->
 ∃z f g,hat H3 mA=some (vs z f g)/\
 ∃j,hat H3 (mA.add 1)=some (vi j)/\
 ∃e,z=some e/\
 yZ k f/\
 (aH H3 (e.add (Int.toNat k*72)) 0 72)/\ ∀H4,H4=aP H3 (e.add (Int.toNat k*72)) ([vi d,vi b,vi 0,vi 5,vi 5,vi 5,vi 5,vi j]++List.replicate 64 (vu 0):List Value) 0->
 R (.tuple #[vi k,vi 0]) H4)
theorem iF.link{H:zV}(h:pt i d j H R):C i d j H R:=by
 refine p0 K0 83 func99 ?_
 intro w0 Q hQ
 unfold pt zY at h
 refine kT [(0,vp i),(1,vi d),(2,vi j)]<|ar 0<|eT 2 [] []<|ge<|o0 0<|ar 1<|eH 1 [] [(10,vp i)] ?_
 rcases i with _ | mA
 ·rw[onPtr_none]at h
  exact eT 26 [0,10] [(0,vp none),(9,VT)]<|wc 9<|ar 2<|hV 2 [6,7] [vi 0,vi 1] hQ h
 rw[onPtr_some]at h
 refine eH 6 [0,10] [(0,Vq mA),(16,.bool (decide (d<0)))]<|qx h (λc1 h=>?_) (λc1 h=>?_)
 ·exact oo 16 (zX c1)<|eT 20 [16] [(9,VT)]<|wc 9<|ar 2<|hV 2 [6,7] [vi 0,vi 1] hQ h
 refine oo 16 (zQ c1)<|eH 4 [16] [(20,.bool (decide (d>4)))]<|qx h (λc3 h=>?_) (λc3 h=>?_)
 ·exact oo 20 (zX c3)<|eT 16 [20] [(9,VT)]<|wc 9<|ar 2<|hV 2 [6,7] [vi 0,vi 1] hQ h
 refine oo 20 (zQ c3)<|eH 4 [20] [(24,.bool (decide (j<0)))]<|qx h (λc5 h=>?_) (λc5 h=>?_)
 ·exact oo 24 (zX c5)<|eT 12 [24] [(9,VT)]<|wc 9<|ar 2<|hV 2 [6,7] [vi 0,vi 1] hQ h
 refine oo 24 (zQ c5)<|eH 4 [24] [(28,.bool (decide (j>3)))]<|qx h (λc7 h=>?_) (λc7 h=>?_)
 ·exact oo 28 (zX c7)<|eT 8 [28] [(9,VT)]<|wc 9<|ar 2<|hV 2 [6,7] [vi 0,vi 1] hQ h
 refine oo 28 (zQ c7)<|eH 3 [] [(31,Vq mA)]<|have⟨xB,xN,xC,q9,h⟩:=h;hH 32 155 q9 [31]<|eT 4 [28,32] [(9,.bool ((xN:Int)==0))]<|qx h (λc10 h=>?_) (λc10 h=>?_)
 ·exact aJ 9 (zK c10)<|ar 2<|hV 2 [6,7] [vi 0,vi 1] hQ h
 refine aK 9 (zJ c10)<|ar 3<|eH 3 [9] [(39,Vq (mA.add 2))]<|have⟨x,q12,h⟩:=h;hH 40 3 q12 [39]<|eT 2 [40] [(36,.bool (x==0))]<|qx h (λc13 h=>?_) (λc13 h=>?_)
 ·exact aJ 36 (zK c13)<|ar 4<|hV 2 [6,7] [vi 0,vi 2] hQ h
 refine aK 36 (zJ c13)<|yR<|aA<|aC<|ar 5<|eT 1 [36] [(8,vi 0)]<|ge<|o0 1<|have⟨y,m24,i15,i16⟩:=h;bJ (x:=AN) (σ:=Int) (λs_=> [(0,Vq mA),(1,vi d),(2,vi j),(8,vi s_)]) (λs_ H=>y s_ H) (λs_ H=>m24 s_ H) (0:Int) (by kernel_rfl) i15 sk ?_
 rintro k H1 i17
 have h:=i16 k H1 i17
 refine kT [(0,Vq mA),(1,vi d),(2,vi j),(8,vi k)]<|ge<|ar 6<|eH 3 [] [(44,Vq mA)]<|have⟨u,o,p,q18,h⟩:=h;hH 45 155 q18 [44]<|eH 1 [] [(46,vi k)] ?_
 obtain⟨n,rfl,q19,ha⟩:=h
 refine yp (some 47) 155 161 72 n o p .i64 k underlying155 q19.1 q19.2 [45,46] [(47,Vq (n.add (Int.toNat k*72)))]<|eH 1 [47] [(48,Vq ((n.add (Int.toNat k*72)).add 7))]<|have⟨q,q20,h⟩:=ha;hH 49 3 q20 [48]<|eT 1 [49] [(50,.bool (decide (q>0)))]<|qx h (λc21 h=>?_) (λc21 h=>?_)
 ·exact aJ 50 (zX c21)<|kd<|o0 2<|nx 7<|eH 3 [8,50] [(8,vi (zY (k+1)))]<|zq<|aA<|aC<|aR ((zY (k+1)):Int) sk h
 refine aK 50 (zQ c21)<|zk 1<|aB<|aB<|aN<|aC<|ar 8<|eH 3 [50] [(53,Vq mA),(55,Vq (mA.add 1))]<|have⟨r,q23,h⟩:=h;hH 56 3 q23 [55]<|eH 3 [53,56] [(57,vi (zY (r+1))),(59,Vq (mA.add 1))]<|have⟨q25,h⟩:=h;eQ 3 (vi (zY (r+1))) q25<|λH2 e24=>have h:=h H2 e24;kb [57,59] []<|ym<|ar 9<|eH 3 [] [(60,Vq mA),(62,Vq (mA.add 2))]<|have⟨s,q26,h⟩:=h;hH 63 3 q26 [62]<|eH 3 [60,63] [(64,vi (zY (s-1))),(66,Vq (mA.add 2))]<|have⟨q28,h⟩:=h;eQ 3 (vi (zY (s-1))) q28<|λH3 e27=>have h:=h H3 e27;kb [64,66] []<|ym<|ge ?_
 obtain⟨z,f,g,q29,m,q30,e,rfl,q31,hb⟩:=h
 refine yq 10 (Code.ops AD) [(15,mA,[vs (some e) f g]),(15,(mA.add 1),[vi m])] 16 (bv 16 0) (show aE _ _ _ from⟨⟨q29,trivial⟩,⟨q30,trivial⟩,trivial⟩)<|y9 0 (some 67) (vp (some mA)) (bv 16 1) [(0,vp (some mA)),(1,vi d),(2,vi j),(8,vi k),(67,vp (some mA))]<|aG 1 68 (vp (some mA)) (bv 16 3) [67]<|aG 2 69 (vp (some mA)) (bv 16 7) [68]<|nc 3 70 (vs (some e) f g) (bv 16 15) [69] (aQ 155 (vp (some mA))) (yY 15 yX)<|aG 4 71 (vi k) (bv 16 31) []<|aG 5 72 (vi d) (bv 16 63) [1]<|aG 6 73 (vi j) (bv 16 127) [2]<|aG 7 74 (.agg #[vi 5,vi 5,vi 5,vi 5]) (bv 16 255) []<|aG 8 75 (.agg #[vi d,vi j,vi 0,vi 5,vi 5,vi 5,vi 5]) (bv 16 511) [72,73,74]<|aG 9 76 (vp (some mA)) (bv 16 1023) [0]<|aG 10 77 (vp (some mA)) (bv 16 2047) [76]<|aG 11 78 (vp (some (mA.add 1))) (bv 16 4095) [77]<|nc 12 79 (vi m) (bv 16 8191) [78] (aQ 3 (vp (some (mA.add 1)))) (yY 15 yQ)<|aG 13 80 (.agg ([vi d,vi j,vi 0,vi 5,vi 5,vi 5,vi 5,vi m]++List.replicate 64 (vu 0):List Value).toArray) (bv 16 16383) [75,79]<|nc 14 81 (vp (some (e.add (Int.toNat k*72)))) (bv 16 32767) [70,71] (bD 155 (vs (some e) f g) (vi k)) (λ_ w _ _ _=>dX (P:=prog) (t:=155) (elem:=161) (sz:=72) (a:=e) (len:=f) (cap:=g) (k:=.i64) (i:=k) underlying155 (λ_=>by kernel_rfl) q31.1 q31.2 w) ?_
 obtain⟨q33,h⟩:=hb
 refine fF 15 none (bv 16 65535) (jH 161 (Vq (e.add (Int.toNat k*72))) (.agg ([vi d,vi j,vi 0,vi 5,vi 5,vi 5,vi 5,vi m]++List.replicate 64 (vu 0):List Value).toArray)) (λHz=>Hz=aP H3 (e.add (Int.toNat k*72)) ([vi d,vi j,vi 0,vi 5,vi 5,vi 5,vi 5,vi m]++List.replicate 64 (vu 0):List Value) 0) (by kernel_rfl) (λ_=>by kernel_rfl) (by intro w hw;obtain⟨w1,g1,g2,g3⟩:=iO (P:=prog) (H:=H3) (t:=161) (a:=(e.add (Int.toNat k*72))) (v:=(.agg ([vi d,vi j,vi 0,vi 5,vi 5,vi 5,vi 5,vi m]++List.replicate 64 (vu 0):List Value).toArray)) ([vi d,vi j,vi 0,vi 5,vi 5,vi 5,vi 5,vi m]++List.replicate 64 (vu 0):List Value) 72 (by kernel_rfl) (by kernel_rfl) (λ_=>by kernel_rfl) (by kernel_rfl) q33 w hw;exact⟨w1,g1,g2,g3⟩) (by kernel_rfl) ?_
 refine λH4 e32=>have h:=h H4 e32;⟨[(8,vi k)],pk,(show aE _ _ _ from⟨trivial,trivial,trivial⟩),?_⟩
 exact eP [(8,vi k)] sk<|yz<|aC<|ar 11<|hV 3 [6,7] [vi k,vi 0] hQ h
def gT.K0:=Func.code f108
def gT.pt(m:zW)(e b d:Int)(H:zV)(R:zv):Prop:=
 gI.C m e H (λv H1=> ∃x,v=vp x/\
 fE x (
 R (vi 19) H1) (λxA=>
 if((((decide (b<0)) || (decide (b>=4))) || (decide (d<0))) || (decide (d>5)))=true then(
 R (vi 1) H1)
 else
 yZ b 4/\
 (aH H1 ((xA.add 3).add (Int.toNat b*1)) 0 1)/\ ∀H2,H2=aP H1 ((xA.add 3).add (Int.toNat b*1)) [vi d] 0->
 R (vi 0) H2))
theorem gT.link{e b d:Int}(h:pt i e b d H R):C i e b d H R:=by
 refine p0 K0 38 func108 ?_
 intro w0 Q hQ
 unfold pt at h
 refine kT [(0,vp i),(1,vi e),(2,vi b),(3,vi d)]<|ar 0<|eT 1 [] []<|ar 1<|eH 2 [0,1] [(10,vp i),(11,vi e)]<|sa 12 [10,11] h λx H1 h=>eT 1 [12] [(9,vp x)]<|ge<|o0 0<|ar 2<|eH 1 [] [(14,vp x)] ?_
 rcases x with _ | xA
 ·rw[onPtr_none]at h
  exact eT 2 [9,14] [(9,vp none),(13,VT)]<|wc 13<|ar 3<|hV 1 [8] [vi 19] hQ h
 rw[onPtr_some]at h
 refine eT 2 [9,14] [(9,Vq xA),(13,VF)]<|yn 13<|ar 4<|iX [(2,vi b),(3,vi d),(9,Vq xA),(16,.bool ((((decide (b<0)) || (decide (b>=4))) || (decide (d<0))) || (decide (d>5))))] ?_ ?_
 ·refine aC<|qx h (λc7 h=>?_) (λc7 h=>?_)
  ·exact aJ 16 c7<|ar 5<|hV 1 [8] [vi 1] hQ h
  refine aK 16 (zZ c7)<|yR<|aA<|aC<|ar 6<|u8 6 [(32,vi b),(33,vi d),(36,Vq (xA.add 3))]<|have⟨q9,h⟩:=h;yI 37 (bD 79 (Vq (xA.add 3)) (vi b)) (Vq ((xA.add 3).add (Int.toNat b*1))) (λw _=>bO (P:=prog) (t:=79) (elem:=3) (sz:=1) (n:=4) (a:=(xA.add 3)) (k:=.i64) (i:=b) underlying79 (λ_=>by kernel_rfl) q9.1 q9.2 w) [32,36]<|have⟨q11,h⟩:=h;eQ 3 (vi d) q11<|λH2 e10=>have h:=h H2 e10;⟨[],pk,?_⟩
  exact ym<|ar 7<|hV 1 [8] [vi 0] hQ h
 refine λhk=>u8 3 [(2,vi b),(3,vi d),(9,Vq xA),(19,.bool (decide (b<0)))] ?_
 by_cases c1:b<0
 ·have b2:(decide (b<0))=true:=zX c1
  exact bW [(2,vi b),(3,vi d),(9,Vq xA),(19,VT)] (by rw[b2])<|eH 12 [19] [(16,VT)]<|zq<|vb 16 (b:=true) (v:=((((decide (b<0)) || (decide (b>=4))) || (decide (d<0))) || (decide (d>5)))) (by simp only[b2,BL])<|hk
 have b2:(decide (b<0))=false:=zQ c1
 refine bW [(2,vi b),(3,vi d),(9,Vq xA),(19,VF)] (by rw[b2])<|eH 4 [19] [(23,.bool (decide (b>=4)))] ?_
 by_cases c3:b>=4
 ·have b4:(decide (b>=4))=true:=zX c3
  exact oo 23 b4<|eH 8 [23] [(16,VT)]<|zq<|vb 16 (b:=true) (v:=((((decide (b<0)) || (decide (b>=4))) || (decide (d<0))) || (decide (d>5)))) (by simp only[b2,b4,BL])<|hk
 have b4:(decide (b>=4))=false:=zQ c3
 refine oo 23 b4<|eH 4 [23] [(27,.bool (decide (d<0)))] ?_
 by_cases c5:d<0
 ·have b6:(decide (d<0))=true:=zX c5
  exact oo 27 b6<|eH 4 [27] [(16,VT)]<|zq<|vb 16 (b:=true) (v:=((((decide (b<0)) || (decide (b>=4))) || (decide (d<0))) || (decide (d>5)))) (by simp only[b2,b4,b6,BL])<|hk
 have b6:(decide (d<0))=false:=zQ c5
 exact oo 27 b6<|eH 4 [27] [(16,.bool (decide (d>5)))]<|zq<|vb 16 (b:=(decide (d>5))) (v:=((((decide (b<0)) || (decide (b>=4))) || (decide (d<0))) || (decide (d>5)))) (by simp only[b2,b4,b6,BL])<|hk
def lw.K0:=Func.code f125
def lw.pt(a:Int)(H:zV)(R:zv):Prop:=
 if((decide (a<8)) || (decide (a>1024)))=true then(
 R (.tuple #[vp none,vi 1]) H)
 else
 0<=a/\a<=a/\576*a<=2 ^ 48/\a<=9223372036854775807/\
 ∀b H1,b=H.size->H1=H.push (.cells (Builtin.zeroCells (List.replicate 8 (vi 0)++List.replicate 64 (vu 0):List Value).toArray (Int.toNat a)) 161)->
 ∀d H2,d=H1.size->H2=H1.push (.cells #[vs (some (ad b)) (Int.toNat a) (Int.toNat a),vi 0,vi a] 157)->
 R (.tuple #[Vq (ad d),vi 0]) H2
theorem lw.link(h:pt d H R):C d H R:=by
 refine p0 K0 15 func125 ?_
 intro w0 Q hQ
 unfold pt at h
 refine kT [(0,vi d)]<|ar 0<|eT 2 [] []<|ge<|ar 1<|iX [(0,vi d),(9,.bool ((decide (d<8)) || (decide (d>1024))))] ?_ ?_
 ·refine aC<|qx h (λc3 h=>?_) (λc3 h=>?_)
  ·exact aJ 9 c3<|ar 2<|hV 2 [2,3] [vp none,vi 1] hQ h
  refine aK 9 (zZ c3)<|kd<|ar 3<|u8 1 [(0,vi d),(10,vi d)]<|have⟨q5,q6,q7,q8,h⟩:=h;yO (some 11) (mg 155 (vi d) (vi d)) (λv Hz=>v=Value.slice (some (Addr.mk H.size 0 none)) (Int.toNat d) (Int.toNat d)/\Hz=H.push (.cells (Builtin.zeroCells (List.replicate 8 (vi 0)++List.replicate 64 (vu 0):List Value).toArray (Int.toNat d)) 161)) (λ_=>by kernel_rfl) (um (T:=161) (zero:=.agg (List.replicate 8 (vi 0)++List.replicate 64 (vu 0):List Value).toArray) underlying155 (show prog.info? 161=some t161 from by kernel_rfl) (by kernel_rfl) q5 q6 q7 q8 (by kernel_rfl) (by decide)) ?_
  rintro _ H1 ⟨rfl,e10⟩
  obtain⟨b,e9⟩: ∃b,b=H.size:=⟨_,rfl⟩
  replace h:=h b H1 e9 e10
  rw[<-e9]
  refine kb [10] [(11,vs (pa b) (Int.toNat d) (Int.toNat d))]<|u8 2 [(13,.agg #[vs (pa b) (Int.toNat d) (Int.toNat d),vi 0,vi d])]<|sv (some 14) (λb=>vp (pa b)) (.cells #[vs (pa b) (Int.toNat d) (Int.toNat d),vi 0,vi d] 157)<|λa H2 e11 e12=>have h:=h a H2 e11 e12;⟨[(14,vp (pa a))],pk,?_⟩
  exact hV 2 [2,3] [vp (pa a),vi 0] hQ h
 refine λhk=>u8 3 [(0,vi d),(6,.bool (decide (d<8)))] ?_
 by_cases c1:d<8
 ·have b2:(decide (d<8))=true:=zX c1
  exact bW [(0,vi d),(6,VT)] (by rw[b2])<|eH 3 [6] [(9,VT)]<|zq<|vb 9 (b:=true) (v:=((decide (d<8)) || (decide (d>1024)))) (by simp only[b2,BL])<|hk
 have b2:(decide (d<8))=false:=zQ c1
 exact bW [(0,vi d),(6,VF)] (by rw[b2])<|eH 3 [6] [(9,.bool (decide (d>1024)))]<|zq<|vb 9 (b:=(decide (d>1024))) (v:=((decide (d<8)) || (decide (d>1024)))) (by simp only[b2,BL])<|hk
variable{H:zV}{R:zv}{d:Int}
def iM.K0:=Func.code f42
def iM.pt(a nv b:Int)(H:zV)(R:zv):Prop:=
 if(((((decide (a<1)) || (decide (a>13))) || (decide (nv<0))) || (decide (nv>62))) || (decide (b>=281474976710656)))=true then(
 R (.tuple #[vu 0,vi 1]) H)
 else
 R (.tuple #[vu (AY .u64 (AY .u64 (AY .u64 (zl .u64 b 16) (zl .u64 (IntKind.wrap .u64 nv) 8)) (zl .u64 (IntKind.wrap .u64 a) 3)) 5),vi 0]) H
theorem iM.link{a nv b:Int}(h:pt a nv b H R):C a nv b H R:=by
 refine p0 K0 37 func42 ?_
 intro w0 Q hQ
 unfold pt at h
 refine kT [(0,vi a),(1,vi nv),(2,vu b)]<|ar 0<|eT 2 [] []<|ge<|ar 1<|iX [(0,vi a),(1,vi nv),(2,vu b),(25,.bool (((((decide (a<1)) || (decide (a>13))) || (decide (nv<0))) || (decide (nv>62))) || (decide (b>=281474976710656))))] ?_ ?_
 ·refine aC<|qx h (λc9 h=>?_) (λc9 h=>?_)
  ·exact aJ 25 c9<|ar 2<|hV 2 [6,7] [vu 0,vi 1] hQ h
  exact aK 25 (zZ c9)<|kd<|ar 3<|hV 13 [6,7] [vu (AY .u64 (AY .u64 (AY .u64 (zl .u64 b 16) (zl .u64 (IntKind.wrap .u64 nv) 8)) (zl .u64 (IntKind.wrap .u64 a) 3)) 5),vi 0] hQ h
 refine λhk=>u8 3 [(0,vi a),(1,vi nv),(2,vu b),(10,.bool (decide (a<1)))] ?_
 by_cases c1:a<1
 ·have b2:(decide (a<1))=true:=zX c1
  exact bW [(0,vi a),(1,vi nv),(2,vu b),(10,VT)] (by rw[b2])<|eH 15 [10] [(25,VT)]<|zq<|vb 25 (b:=true) (v:=(((((decide (a<1)) || (decide (a>13))) || (decide (nv<0))) || (decide (nv>62))) || (decide (b>=281474976710656)))) (by simp only[b2,BL])<|hk
 have b2:(decide (a<1))=false:=zQ c1
 refine bW [(0,vi a),(1,vi nv),(2,vu b),(10,VF)] (by rw[b2])<|eH 4 [10] [(14,.bool (decide (a>13)))] ?_
 by_cases c3:a>13
 ·have b4:(decide (a>13))=true:=zX c3
  exact oo 14 b4<|eH 11 [14] [(25,VT)]<|zq<|vb 25 (b:=true) (v:=(((((decide (a<1)) || (decide (a>13))) || (decide (nv<0))) || (decide (nv>62))) || (decide (b>=281474976710656)))) (by simp only[b2,b4,BL])<|hk
 have b4:(decide (a>13))=false:=zQ c3
 refine oo 14 b4<|eH 4 [14] [(18,.bool (decide (nv<0)))] ?_
 by_cases c5:nv<0
 ·have b6:(decide (nv<0))=true:=zX c5
  exact oo 18 b6<|eH 7 [18] [(25,VT)]<|zq<|vb 25 (b:=true) (v:=(((((decide (a<1)) || (decide (a>13))) || (decide (nv<0))) || (decide (nv>62))) || (decide (b>=281474976710656)))) (by simp only[b2,b4,b6,BL])<|hk
 have b6:(decide (nv<0))=false:=zQ c5
 refine oo 18 b6<|eH 4 [18] [(22,.bool (decide (nv>62)))] ?_
 by_cases c7:nv>62
 ·have b8:(decide (nv>62))=true:=zX c7
  exact oo 22 b8<|eH 3 [22] [(25,VT)]<|zq<|vb 25 (b:=true) (v:=(((((decide (a<1)) || (decide (a>13))) || (decide (nv<0))) || (decide (nv>62))) || (decide (b>=281474976710656)))) (by simp only[b2,b4,b6,b8,BL])<|hk
 have b8:(decide (nv>62))=false:=zQ c7
 exact oo 22 b8<|eH 3 [22] [(25,.bool (decide (b>=281474976710656)))]<|zq<|vb 25 (b:=(decide (b>=281474976710656))) (v:=(((((decide (a<1)) || (decide (a>13))) || (decide (nv<0))) || (decide (nv>62))) || (decide (b>=281474976710656)))) (by simp only[b2,b4,b6,b8,BL])<|hk
def gH.K0:=Func.code f52
def gH.pt(wv:Int)(H:zV)(R:zv):Prop:=
 cK.C wv H (λv H1=> ∃x,v=vi x/\
 jJ.C x H1 (λd H2=> ∃b,d=.bool b/\
 if b=true then(
 dV.C wv H2 (λe H3=> ∃a,e=.bool a/\
 if a=true then(
 R (.tuple #[vi (zY (yH .u64 wv 3)),VT]) H3)
 else
 R (.tuple #[vi 0,VF]) H3))
 else
 R (.tuple #[vi 0,VF]) H2))
theorem gH.link(h:pt d H R):C d H R:=by
 refine p0 K0 16 func52 ?_
 intro w0 Q hQ
 unfold pt zY at h
 refine kT [(0,vu d)]<|ar 0<|eT 2 [] []<|ge<|ar 1<|eH 1 [] [(4,vu d)]<|sa 5 [4] h λx H1 h=>sa 6 [5] h λb H2 h=>eH 2 [6] [(8,.bool (!b))]<|qx h (λc1 h=>?_) (λc1 h=>?_)
 ·have b2:(!b)=false:=congrArg Bool.not (c1)
  have b22:b=true:=c1
  refine oo 8 (b:=(!b)) (v:=false) (by simp only[b2,b22,Bool.not_true,Bool.not_false]) ?_
  clear b2 b22
  refine eH 1 [] [(9,vu d)]<|sa 10 [9] h λa H3 h=>eT 2 [8,10] [(12,.bool (!a))]<|qx h (λc3 h=>?_) (λc3 h=>?_)
  ·exact aK 12 (congrArg Bool.not (c3))<|kd<|ar 3<|hV 5 [2,3] [vi (zY (yH .u64 d 3)),VT] hQ h
  exact aJ 12 (congrArg Bool.not (zZ c3))<|ar 2<|hV 2 [2,3] [vi 0,VF] hQ h
 have b2:(!b)=true:=congrArg Bool.not (zZ c1)
 have b22:b=false:=zZ c1
 refine oo 8 (b:=(!b)) (v:=true) (by simp only[b2,b22,Bool.not_true,Bool.not_false]) ?_
 clear b2 b22
 exact eT 4 [8] [(12,VT)]<|wc 12<|ar 2<|hV 2 [2,3] [vi 0,VF] hQ h
def jQ.K0:=Func.code f55
def jQ.pt(b a:Int)(H:zV)(R:zv):Prop:=
 jJ.C b H (λv H1=> ∃x,v=.bool x/\
 if x=true then(
 if((decide (a<0)) || (decide (a>=65536)))=true then(
 R (.tuple #[vu 0,vi 18]) H1)
 else
 R (.tuple #[vu (AY .u64 (zl .u64 (IntKind.wrap .u64 a) 3) (IntKind.wrap .u64 b)),vi 0]) H1)
 else
 R (.tuple #[vu 0,vi 1]) H1)
theorem jQ.link{b a:Int}(h:pt b a H R):C b a H R:=by
 refine p0 K0 23 func55 ?_
 intro w0 Q hQ
 unfold pt at h
 refine kT [(0,vi b),(1,vi a)]<|ar 0<|eT 2 [] []<|ge<|o0 0<|ar 1<|eH 1 [] [(7,vi b)]<|sa 8 [7] h λx H1 h=>eT 2 [8] [(6,.bool (!x))]<|qx h (λc1 h=>?_) (λc1 h=>?_)
 ·refine aK 6 (congrArg Bool.not (c1))<|ar 3<|iX [(0,vi b),(1,vi a),(10,.bool ((decide (a<0)) || (decide (a>=65536))))] ?_ ?_
  ·refine aC<|qx h (λc5 h=>?_) (λc5 h=>?_)
   ·exact aJ 10 c5<|ar 4<|hV 2 [4,5] [vu 0,vi 18] hQ h
   exact aK 10 (zZ c5)<|yR<|aA<|aC<|ar 5<|hV 8 [4,5] [vu (AY .u64 (zl .u64 (IntKind.wrap .u64 a) 3) (IntKind.wrap .u64 b)),vi 0] hQ h
  refine λhk=>u8 3 [(0,vi b),(1,vi a),(13,.bool (decide (a<0)))] ?_
  by_cases c3:a<0
  ·have b4:(decide (a<0))=true:=zX c3
   exact bW [(0,vi b),(1,vi a),(13,VT)] (by rw[b4])<|eH 4 [13] [(10,VT)]<|zq<|vb 10 (b:=true) (v:=((decide (a<0)) || (decide (a>=65536)))) (by simp only[b4,BL])<|hk
  have b4:(decide (a<0))=false:=zQ c3
  exact bW [(0,vi b),(1,vi a),(13,VF)] (by rw[b4])<|eH 4 [13] [(10,.bool (decide (a>=65536)))]<|zq<|vb 10 (b:=(decide (a>=65536))) (v:=((decide (a<0)) || (decide (a>=65536)))) (by simp only[b4,BL])<|hk
 exact aJ 6 (congrArg Bool.not (zZ c1))<|ar 2<|hV 2 [4,5] [vu 0,vi 1] hQ h
def cK.K0:=Func.code f56
def cK.pt(wv:Int)(H:zV)(R:zv):Prop:=
 R (vi (zY (yj .u64 wv 7))) H
theorem cK.link(h:pt d H R):C d H R:=by
 refine p0 K0 6 func56 ?_
 intro w0 Q hQ
 unfold pt zY at h
 exact kT [(0,vu d)]<|ar 0<|eT 1 [] []<|ar 1<|hV 4 [2] [vi (zY (yj .u64 d 7))] hQ h
def jJ.K0:=Func.code f94
def jJ.pt(a:Int)(H:zV)(R:zv):Prop:=
 R (.bool (((decide (a>=1)) && (decide (a<=3))) || (a==6))) H
theorem jJ.link(h:pt d H R):C d H R:=by
 refine p0 K0 13 func94 ?_
 intro w0 Q hQ
 unfold pt at h
 refine kT [(0,vi d)]<|ar 0<|eT 1 [] []<|ar 1<|iX [(2,.bool (((decide (d>=1)) && (decide (d<=3))) || (d==6)))] ?_ ?_
 ·exact aC<|iV [2] [.bool (((decide (d>=1)) && (decide (d<=3))) || (d==6))] hQ h
 refine λhk=>u8 3 [(0,vi d),(5,.bool (decide (d>=1)))] ?_
 by_cases c1:d>=1
 ·have b2:(decide (d>=1))=true:=zX c1
  refine bW [(0,vi d),(5,VT)] (by rw[b2])<|eH 4 [5] [(9,.bool (decide (d<=3)))] ?_
  by_cases c3:d<=3
  ·have b4:(decide (d<=3))=true:=zX c3
   exact oo 9 b4<|u8 4 [(2,VT)]<|zq<|iP [(2,.bool (((decide (d>=1)) && (decide (d<=3))) || (d==6)))] (by simp only[b2,b4,BL])<|hk
  have b4:(decide (d<=3))=false:=zQ c3
  exact oo 9 b4<|u8 4 [(2,.bool (d==6))]<|zq<|iP [(2,.bool (((decide (d>=1)) && (decide (d<=3))) || (d==6)))] (by simp only[b2,b4,BL])<|hk
 have b2:(decide (d>=1))=false:=zQ c1
 exact bW [(0,vi d),(5,VF)] (by rw[b2])<|u8 8 [(2,.bool (d==6))]<|zq<|iP [(2,.bool (((decide (d>=1)) && (decide (d<=3))) || (d==6)))] (by simp only[b2,BL])<|hk
def dV.K0:=Func.code f95
def dV.pt(wv:Int)(H:zV)(R:zv):Prop:=
 ju.C wv H (λv H1=> ∃ra rb rc,v=.tuple #[vi ra,vi rb,vu rc]/\
 cK.C wv H1 (λb H2=> ∃x,b=vi x/\
 if x=0 then(
 R VT H2)
 else
 if x=1 then(
 R (.bool (decide ((yH .u64 wv 3)<65536))) H2)
 else
 if x=2 then(
 R (.bool (decide ((yH .u64 wv 3)<65536))) H2)
 else
 if x=3 then(
 R (.bool (decide ((yH .u64 wv 3)<65536))) H2)
 else
 if x=6 then(
 R (.bool (decide ((yH .u64 wv 3)<65536))) H2)
 else
 if x=4 then(
 if ra=7 then(
 jC.C (yH .u64 wv 8) H2 (λd H3=> ∃a,d=.bool a/\
 R (.bool a) H3))
 else
 R (.bool (decide ((yH .u64 wv 3)<=6))) H2)
 else
 if x=5 then(
 R (.bool (((decide (ra>=1)) && (decide (ra<=13))) && (decide (rb<=62)))) H2)
 else
 R VF H2))
theorem dV.link(h:pt d H R):C d H R:=by
 refine p0 K0 49 func95 ?_
 intro w0 Q hQ
 unfold pt at h
 refine kT [(0,vu d)]<|ar 0<|eT 1 [] []<|ar 1<|eH 1 [] [(7,vu d)]<|zt 8 [7] h λra rb rc H1 h=>eT 7 [8] [(3,vi ra),(4,vi rb)]<|ge<|ar 2<|eH 1 [] [(12,vu d)]<|sa 13 [12] h λx H2 h=>ym<|o0 0<|ge<|o0 7<|ge<|o0 6<|ge<|o0 5<|o0 4<|o0 3<|o0 2<|ge<|o0 1<|ge<|ge<|ar 3<|eT 2 [] [(14,.bool (x==0))]<|qx h (λc1 h=>?_) (λc1 h=>?_)
 ·exact aJ 14 (zK c1)<|zk 1<|aB<|aB<|aN<|aC<|ge<|ar 10<|hV 1 [2] [VT] hQ h
 refine aK 14 (zJ c1)<|kd<|ge<|ar 4<|eT 2 [14] [(16,.bool (x==1))]<|qx h (λc3 h=>?_) (λc3 h=>?_)
 ·exact aJ 16 (zK c3)<|zk 2<|aB<|aB<|zj<|aB<|aN<|aA<|aA<|aA<|aC<|ge<|ar 11<|hV 4 [2] [.bool (decide ((yH .u64 d 3)<65536))] hQ h
 refine aK 16 (zJ c3)<|kd<|ge<|ar 5<|eT 2 [16] [(18,.bool (x==2))]<|qx h (λc5 h=>?_) (λc5 h=>?_)
 ·exact aJ 18 (zK c5)<|zk 3<|aB<|aB<|zj<|aB<|zj<|aN<|aA<|aA<|aC<|ge<|ar 11<|hV 4 [2] [.bool (decide ((yH .u64 d 3)<65536))] hQ h
 refine aK 18 (zJ c5)<|kd<|ge<|ar 6<|eT 2 [18] [(20,.bool (x==3))]<|qx h (λc7 h=>?_) (λc7 h=>?_)
 ·exact aJ 20 (zK c7)<|zk 4<|aB<|aB<|zj<|aB<|zj<|zj<|aN<|aA<|aC<|ge<|ar 11<|hV 4 [2] [.bool (decide ((yH .u64 d 3)<65536))] hQ h
 refine aK 20 (zJ c7)<|kd<|ge<|ar 7<|eT 2 [20] [(22,.bool (x==6))]<|qx h (λc9 h=>?_) (λc9 h=>?_)
 ·exact aJ 22 (zK c9)<|zk 5<|aB<|aB<|zj<|aB<|zj<|zj<|zj<|aN<|aC<|ge<|ar 11<|hV 4 [2] [.bool (decide ((yH .u64 d 3)<65536))] hQ h
 refine aK 22 (zJ c9)<|kd<|ge<|ar 8<|eT 2 [22] [(24,.bool (x==4))]<|qx h (λc11 h=>?_) (λc11 h=>?_)
 ·refine aJ 24 (zK c11)<|zk 6<|aB<|aB<|zj<|aB<|zj<|zj<|zj<|zj<|aB<|aN<|aC<|ge<|ge<|ar 12<|u5 2 [(0,vu d),(32,.bool (ra==7))]<|qx h (λc13 h=>?_) (λc13 h=>?_)
  ·exact aJ 32 (zK c13)<|ar 13<|u8 2 [(34,vu (yH .u64 d 8))]<|yT 35 (λa=>[(35,.bool a)]) h λa H3 h=>hV 1 [2] [.bool a] hQ h
  exact aK 32 (zJ c13)<|kd<|ar 14<|hV 4 [2] [.bool (decide ((yH .u64 d 3)<=6))] hQ h
 refine aK 24 (zJ c11)<|kd<|ar 9<|eT 2 [0,13,24] [(26,.bool (x==5))]<|qx h (λc15 h=>?_) (λc15 h=>?_)
 ·refine aJ 26 (zK c15)<|zk 7<|aB<|zj<|aB<|zj<|zj<|zj<|zj<|aB<|zj<|aB<|aN<|aC<|ge<|ar 15<|iX [(2,.bool (((decide (ra>=1)) && (decide (ra<=13))) && (decide (rb<=62))))] ?_ ?_
  ·exact aC<|iV [2] [.bool (((decide (ra>=1)) && (decide (ra<=13))) && (decide (rb<=62)))] hQ h
  refine λhk=>u8 3 [(3,vi ra),(4,vi rb),(41,.bool (decide (ra>=1)))] ?_
  by_cases c17:ra>=1
  ·have b18:(decide (ra>=1))=true:=zX c17
   refine bW [(3,vi ra),(4,vi rb),(41,VT)] (by rw[b18])<|eH 4 [3,41] [(45,.bool (decide (ra<=13)))] ?_
   by_cases c19:ra<=13
   ·have b20:(decide (ra<=13))=true:=zX c19
    exact oo 45 b20<|u8 4 [(2,.bool (decide (rb<=62)))]<|zq<|iP [(2,.bool (((decide (ra>=1)) && (decide (ra<=13))) && (decide (rb<=62))))] (by simp only[b18,b20,BL])<|hk
   have b20:(decide (ra<=13))=false:=zQ c19
   exact oo 45 b20<|u8 4 [(2,VF)]<|zq<|iP [(2,.bool (((decide (ra>=1)) && (decide (ra<=13))) && (decide (rb<=62))))] (by simp only[b18,b20,BL])<|hk
  have b18:(decide (ra>=1))=false:=zQ c17
  exact bW [(3,vi ra),(4,vi rb),(41,VF)] (by rw[b18])<|u8 8 [(2,VF)]<|zq<|iP [(2,.bool (((decide (ra>=1)) && (decide (ra<=13))) && (decide (rb<=62))))] (by simp only[b18,BL])<|hk
 exact aK 26 (zJ c15)<|kd<|zk 0<|zj<|aB<|zj<|zj<|zj<|zj<|aB<|zj<|aB<|zj<|aB<|aN<|aC<|ar 16<|hV 1 [2] [VF] hQ h
def ke.K0:=Func.code f114
def ke.pt(wv:Int)(H:zV)(R:zv):Prop:=
 cK.C wv H (λv H1=> ∃x,v=vi x/\
 if x=5 then(
 dV.C wv H1 (λb H2=> ∃a,b=.bool a/\
 if a=true then(
 ju.C wv H2 (λd H3=> ∃ra rb rc,d=.tuple #[vi ra,vi rb,vu rc]/\
 R (.tuple #[vi ra,vi rb,vu rc,VT]) H3))
 else
 R (.tuple #[vi 0,vi 0,vu 0,VF]) H2))
 else
 R (.tuple #[vi 0,vi 0,vu 0,VF]) H1)
theorem ke.link(h:pt d H R):C d H R:=by
 refine p0 K0 23 func114 ?_
 intro w0 Q hQ
 unfold pt at h
 refine kT [(0,vu d)]<|ar 0<|eT 4 [] []<|ge<|ar 1<|eH 1 [] [(6,vu d)]<|sa 7 [6] h λx H1 h=>eH 2 [7] [(9,.bool (x !=5))]<|qx h (λc1 h=>?_) (λc1 h=>?_)
 ·refine oo 9 (bne_eq_false_iff_eq.mpr c1)<|eH 1 [] [(10,vu d)]<|sa 11 [10] h λa H2 h=>eT 2 [9,11] [(13,.bool (!a))]<|qx h (λc3 h=>?_) (λc3 h=>?_)
  ·exact aK 13 (congrArg Bool.not (c3))<|kd<|ar 3<|u8 1 [(15,vu d)]<|Bs 16 (λra rb rc=>[(16,.tuple #[vi ra,vi rb,vu rc])]) h λra rb rc H3 h=>u5 7 [(2,vi ra),(3,vi rb),(4,vu rc)]<|ar 4<|hV 7 [2,3,4,5] [vi ra,vi rb,vu rc,VT] hQ h
  exact aJ 13 (congrArg Bool.not (zZ c3))<|ar 2<|hV 4 [2,3,4,5] [vi 0,vi 0,vu 0,VF] hQ h
 exact oo 9 (bne_iff_ne.mpr c1)<|eT 4 [9] [(13,VT)]<|wc 13<|ar 2<|hV 4 [2,3,4,5] [vi 0,vi 0,vu 0,VF] hQ h
def ju.K0:=Func.code f130
def ju.pt(wv:Int)(H:zV)(R:zv):Prop:=
 ∀b H1,b=H.size->H1=H.push (.cells #[vu wv] 28)->
 fV.C 3 5 (some (ad b)) H1 (λv H2=> ∃x,v=vu x/\
 fV.C 8 8 (some (ad b)) H2 (λe H3=> ∃a,e=vu a/\
 fV.C 16 48 (some (ad b)) H3 (λf H4=> ∃d,f=vu d/\
 R (.tuple #[vi (zY x),vi (zY a),vu d]) H4)))
theorem ju.link(h:pt d H R):C d H R:=by
 refine p0 K0 15 func130 ?_
 intro w0 Q hQ
 unfold pt zY at h
 refine kT [(0,vu d)]<|ar 0<|sv (some 1) (λb=>vp (pa b)) (.cells #[vu d] 28)<|λb H1 e1 e2=>have h:=h b H1 e1 e2;⟨[(1,vp (pa b))],pk,?_⟩
 exact eT 3 [] []<|ar 1<|u5 2 [(5,.func (.func 150) #[] #[vp (pa b)])]<|ar 2<|eH 1 [] [(7,.func (.func 150) #[] #[vp (pa b)])]<|sa 8 [7] h λx H2 h=>eH 2 [8] [(9,vi (zY x)),(10,.func (.func 150) #[] #[vp (pa b)])]<|sa 11 [10] h λa H3 h=>eH 2 [5,11] [(12,vi (zY a)),(13,.func (.func 150) #[] #[vp (pa b)])]<|sa 14 [13] h λwv H4 h=>hV 3 [2,3,4] [vi (zY x),vi (zY a),vu wv] hQ h
def jC.K0:=Func.code f131
def jC.pt(c:Int)(H:zV)(R:zv):Prop:=
 R (.bool ((decide (c<=1114111)) && ((decide (c<55296)) || (decide (c>57343))))) H
theorem jC.link(h:pt d H R):C d H R:=by
 refine p0 K0 13 func131 ?_
 intro w0 Q hQ
 unfold pt at h
 refine kT [(0,vu d)]<|ar 0<|eT 1 [] []<|ar 1<|iX [(2,.bool ((decide (d<=1114111)) && ((decide (d<55296)) || (decide (d>57343)))))] ?_ ?_
 ·exact aC<|iV [2] [.bool ((decide (d<=1114111)) && ((decide (d<55296)) || (decide (d>57343))))] hQ h
 refine λhk=>u8 3 [(0,vu d),(5,.bool (decide (d<=1114111)))] ?_
 by_cases c1:d<=1114111
 ·have b2:(decide (d<=1114111))=true:=zX c1
  refine bW [(0,vu d),(5,VT)] (by rw[b2])<|eH 3 [] [(8,.bool (decide (d<55296)))] ?_
  by_cases c3:d<55296
  ·have b4:(decide (d<55296))=true:=zX c3
   exact oo 8 b4<|u8 5 [(2,VT)]<|zq<|iP [(2,.bool ((decide (d<=1114111)) && ((decide (d<55296)) || (decide (d>57343)))))] (by simp only[b2,b4,BL])<|hk
  have b4:(decide (d<55296))=false:=zQ c3
  exact oo 8 b4<|u8 5 [(2,.bool (decide (d>57343)))]<|zq<|iP [(2,.bool ((decide (d<=1114111)) && ((decide (d<55296)) || (decide (d>57343)))))] (by simp only[b2,b4,BL])<|hk
 have b2:(decide (d<=1114111))=false:=zQ c1
 exact bW [(0,vu d),(5,VF)] (by rw[b2])<|u8 8 [(2,VF)]<|zq<|iP [(2,.bool ((decide (d<=1114111)) && ((decide (d<55296)) || (decide (d>57343)))))] (by simp only[b2,BL])<|hk
def fV.K0:=Func.code f150
def fV.pt(a b:Int)(d:zW)(H:zV)(R:zv):Prop:=
 ∃e,d=some e/\
 ∃x,hat H e=some (vu x)/\
 (0<=a)/\
 (0<=b)/\
 R (vu (yj .u64 (yH .u64 x a) (IntKind.wrap .u64 ((zl .u64 1 b)-1)))) H
theorem fV.link{b:Int}{a:zW}(h:pt d b a H R):C d b a H R:=by
 refine p0 K0 13 func150 ?_
 intro w0 Q hQ
 unfold pt at h
 refine kT [(0,vi d),(1,vi b),(2,vp a)]<|ar 0<|eT 1 [] []<|ge<|qG 1 ?_
 obtain⟨e,rfl,x,q1,ha⟩:=h
 exact m7 (some 6) 28 q1 [2] [(6,vu x)]<|u3 7 (vi d) [0]<|have⟨q2,h⟩:=ha;Ai (some 8) (zU .shr 22 (vu x) (vi d)) (vu (yH .u64 x d)) (λ_=>by kernel_rfl) (λw _=>uj (P:=prog) (t:=22) (k:=.u64) (k':=.i64) (x:=x) (y:=d) q2 w) [(1,vi b),(8,vu (yH .u64 x d))] pk<|BE (some 9) (vi b) [(8,vu (yH .u64 x d)),(9,vi b)]<|have⟨q3,h⟩:=h;Ai (some 10) (zU .shl 22 (vu 1) (vi b)) (vu (zl .u64 1 b)) (λ_=>by kernel_rfl) (λw _=>wz (P:=prog) (t:=22) (k:=.u64) (k':=.i64) (x:=1) (y:=b) q3 w) [(8,vu (yH .u64 x d)),(10,vu (zl .u64 1 b))] pk<|BE (some 11) (vu (IntKind.wrap .u64 ((zl .u64 1 b)-1))) [(8,vu (yH .u64 x d)),(11,vu (IntKind.wrap .u64 ((zl .u64 1 b)-1)))]<|u3 12 (vu (yj .u64 (yH .u64 x d) (IntKind.wrap .u64 ((zl .u64 1 b)-1)))) [8,11]<|u3 5 (vu (yj .u64 (yH .u64 x d) (IntKind.wrap .u64 ((zl .u64 1 b)-1)))) [12]<|mW [(5,vu (yj .u64 (yH .u64 x d) (IntKind.wrap .u64 ((zl .u64 1 b)-1))))] sk<|Al<|iV [5] [vu (yj .u64 (yH .u64 x d) (IntKind.wrap .u64 ((zl .u64 1 b)-1)))] hQ h
