/- Printed: what each function asks, and that it is sound. -/
import Derived.Test.YtfhbhckhmnleoaaGreatFnsC
set_option linter.unusedSimpArgs false
set_option linter.unusedVariables false
set_option maxRecDepth 100000
set_option maxHeartbeats 1000000
noncomputable section
namespace Go.Proofs.YtfhbhckhmnleoaaGreat
open Go Go.Proofs.Tryz
variable{H:zV}{d:zW}{R:zv}
namespace iZ
def K0:=EP f12
def K2:=cb K0
def K4:=cb K2
def zy:=cb K4
def Aq:=ca zy
def Ab:=cb zy
def Ay:=cb Aq
def Aa:=ca Ay
def An:=ca Aa
def Ae:=cb Ab
def Af:=cb Ae
def AN:=cb Af
def AE:=ca AN
def AG:=cb AN
def Bp:=cb AE
def B5:=ca Bp
def BW:=ca B5
def Cz:=ca AG
def Cc:=cb Cz
def B4:=ca Cc
def K64:=ca B4
def Cj:=cb K64
def BA:=cb Cj
def BX:=ca BA
def BQ:=ca BX
def Ct:=cb BQ
def K77:=cb Ct
end iZ
def iZ.pt(hv:zW)(g d o:Int)(H:zV)(R:zv):=
 eU hv (
 R (.tuple #[vp none,vi 1]) H) (λf=>
 ∃x,hat H f=some (vp x)/\
 eU x (
 R (.tuple #[vp none,vi 1]) H) (λxA=>
 if(((((decide (g<0)) || (decide (g>=4))) || (decide (d<g))) || (decide (d>(zY (g+1))))) || (decide (o<0)))=true then(
 R (.tuple #[vp none,vi 1]) H)
 else
 ∃(b2:zW->Nat->Nat->zw) (m19:zW->Nat->Nat->Int->zV->Nat),b2 none 0 0 0 H/\ ∀e gensN gensC s54 H1,b2 e gensN gensC s54 H1->
 if s54< (zY (g+1))then(
 ∀b H2,b=H1.size->H2=H1.push (.cells #[vi s54] 3)->
 bH 1 3 8 [vi 0] e gensN gensC (some (ad b)) 1 H2 (λap bf H3=>
 (b2 ap (gensN+1) bf (zY (s54+1)) H3/\m19 ap (gensN+1) bf (zY (s54+1)) H3<m19 e gensN gensC s54 H1)))
 else
 ∃bs,hat H1 f=some (vp bs)/\
 ∃br,bs=some br/\
 ∃bz,hat H1 br=some (vp bz)/\
 ∃b0,bz=some b0/\
 ∃bk,hat H1 b0=some (vp bk)/\
 cH.C bk e gensN gensC H1 (λv H4=> ∃xB xN xC,v=vs xB xN xC/\
 ∃b4,hat H4 f=some (vp b4)/\
 ∃b6,b4=some b6/\
 ∃bt,hat H4 b6=some (vp bt)/\
 ∃bu,bt=some bu/\
 ∃bo,hat H4 bu=some (vp bo)/\
 iH.C bo H4 (λch H5=> ∃a5,ch=vi a5/\
 if(zY ((zY (a5-(zY (2*(xN:Int)))))-8))<o then(
 R (.tuple #[vp none,vi 2]) H5)
 else
 ∀a6 H6,a6=H5.size->H6=H5.push (.map #[] 0)->
 ∀bg H7,bg=H6.size->H7=H6.push (.map #[] 0)->
 ∀m H8,m=H7.size->H8=H7.push (.cells ([Vq f,vi d]++List.replicate 1024 (vi 0)++[.map (some a6),.map (some bg),VN,vi 0]:List Value).toArray 106)->
 ∃(bw:zw) (m48:Int->zV->Nat),bw 0 H8/\ ∀y H9,bw y H9->
 if y< (xN:Int)then(
 ∃aq,xB=some aq/\
 yZ y xN/\
 ∃am,hat H9 (aq.add (Int.toNat y*1))=some (vi am)/\
 yZ am 1024/\
 (aH H9 (((ad m).add 2).add (Int.toNat am*1)) 0 1)/\ ∀b1,b1=aP H9 (((ad m).add 2).add (Int.toNat am*1)) [vi 1] 0->
 (bw (zY (y+1)) b1/\m48 (zY (y+1)) b1<m48 y H9))
 else
 ∃bj,hat H9 f=some (vp bj)/\
 ∃bi,bj=some bi/\
 ∃ba,hat H9 bi=some (vp ba)/\
 ∃bd,ba=some bd/\
 ∃av,hat H9 bd=some (vp av)/\
 ∀bp H11,bp=H9.size->H11=H9.push (.cells #[vi d] 3)->
 cH.C av (some (ad bp)) 1 1 H11 (λci cj=> ∃ao j r,ci=vs ao j r/\
 ∃(bx:zw) (m65:Int->zV->Nat),bx 0 cj/\ ∀p H13,bx p H13->
 if p< (j:Int)then(
 ∃s,ao=some s/\
 yZ p j/\
 ∃q,hat H13 (s.add (Int.toNat p*1))=some (vi q)/\
 ∃be,hat H13 f=some (vp be)/\
 ∃bb,be=some bb/\
 ∃bh,hat H13 bb=some (vp bh)/\
 ∃bc,bh=some bc/\
 ∃az,hat H13 bc=some (vp az)/\
 bB.C az q H13 (λck ce=> ∃an ai a2 ac ae af ab rb,ck=.tuple #[.agg #[vi an,vi ai,vi a2,vi ac,vi ae,vi af,vi ab],.bool rb]/\
 ∀aa H15,aa=ce.size->H15=ce.push (.cells #[vi 0,vi 0,vi 0,vi 0,vi 0,vi 0,vi 0] 108)->
 (aH H15 (ad aa) 0 7)/\ ∀ay,ay=aP H15 (ad aa) [vi an,vi ai,vi a2,vi ac,vi ae,vi af,vi ab] 0->
 ∃ag,hat ay ((ad m).add 1026)=some (.map ag)/\
 ∃aj,hat ay ((ad m).add 1027)=some (.map aj)/\
 ∃ak,hat ay ((ad aa).add 2)=some (vi ak)/\
 ∃ah,hat ay ((ad aa).add 2)=some (vi ah)/\
 ∃mr,ag=some mr/\
 ∃es cl ks,ay[mr]?=some (.map es cl)/\vb (aY .i64) es.toList ks/\Born es cl/\
 ∀a4 cl_2 stamp x_21 H17,H17=aM ay mr (.map a4 cl_2)->vb (aY .i64) a4.toList (yM ks q x_21)->Born a4 cl_2->lT a4 (vi q) stamp->
 aL H17 ((ad aa).add 2) 0 [vi ak]/\aL H17 ((ad aa).add 2) 0 [vi ah]/\ ∃bm cl_3 ks_2 k,H17[mr]?=some (.map bm cl_3)/\vb (aY .i64) bm.toList ks_2/\Born bm cl_3/\lT bm (vi k) stamp/\
 ∀a9 H18,H18=aM H17 mr (.map a9 cl_3)->vb (aY .i64) a9.toList (yM ks_2 k (vi ak))->Born a9 cl_3->
 aL H18 ((ad aa).add 2) 0 [vi ah]/\ ∃al,aj=some al/\
 ∃bq cl_4 ks_3,H18[al]?=some (.map bq cl_4)/\vb (aY .i64) bq.toList ks_3/\Born bq cl_4/\
 ∀a3 cl_5 stamp_2 x_22 H19,H19=aM H18 al (.map a3 cl_5)->vb (aY .i64) a3.toList (yM ks_3 q x_22)->Born a3 cl_5->lT a3 (vi q) stamp_2->
 aL H19 ((ad aa).add 2) 0 [vi ah]/\ ∃a7 cl_6 ks_4 k_2,H19[al]?=some (.map a7 cl_6)/\vb (aY .i64) a7.toList ks_4/\Born a7 cl_6/\lT a7 (vi k_2) stamp_2/\
 ∀bn H20,H20=aM H19 al (.map bn cl_6)->vb (aY .i64) bn.toList (yM ks_4 k_2 (vi ah))->Born bn cl_6->
 (bx (zY (p+1)) H20/\m65 (zY (p+1)) H20<m65 p H13)))
 else
 ∃bl,hat H13 f=some (vp bl)/\
 ∃a8,bl=some a8/\
 ∃a1,hat H13 a8=some (vp a1)/\
 dU.C a1 e gensN gensC H13 (λ_ cd=>
 ∃a0,hat cd f=some (vp a0)/\
 eK.C a0 g cd (λcg cc=> ∃aw ax au,cg=vs aw ax au/\
 (aH cc ((ad m).add 1028) 0 1)/\ ∀b8,b8=aP cc ((ad m).add 1028) [vs aw ax au] 0->
 R (.tuple #[Vq (ad m),vi 0]) b8)))))))
theorem iZ.link{g hv o:Int}(h:pt d g hv o H R):C d g hv o H R:=by
 refine sa K0 181 func12 ?_
 intro w0 Q hQ
 unfold pt zY at h
 refine nx [(0,vp d),(1,vi g),(2,vi hv),(3,vi o)]<|ar 0<|eT 2 [] []<|ge<|ar 1<|eH 1 [] [(20,vp d)] ?_
 rcases d with _ | f
 ·rw[CP]at h
  exact eT 31 [0,20] [(0,vp none),(51,VT)]<|wc 51<|ar 2<|kb 2 [8,9] [vp none,vi 1] hQ h
 rw[CK]at h
 refine eH 5 [0,20] [(0,Vq f),(22,VF),(25,Vq f)]<|have⟨x,q1,h⟩:=h;hH 26 49 q1 [25] ?_
 rcases x with _ | xA
 ·rw[CP]at h
  exact eT 25 [22,26] [(51,VT)]<|wc 51<|ar 2<|kb 2 [8,9] [vp none,vi 1] hQ h
 rw[CK]at h
 refine eH 7 [22,26] [(33,.bool (decide (g<0)))]<|iX [(0,Vq f),(1,vi g),(2,vi hv),(3,vi o),(51,.bool (((((decide (g<0)) || (decide (g>=4))) || (decide (hv<g))) || (decide (hv>(zY (g+1))))) || (decide (o<0))))] ?_ ?_
 ·refine aC<|qx h (λc10 h=>?_) (λc10 h=>?_)
  ·exact aJ 51 c10<|ar 2<|kb 2 [8,9] [vp none,vi 1] hQ h
  refine aK 51 (zZ c10)<|nc<|ar 3<|u5 1 [(0,Vq f),(1,vi g),(2,vi hv),(3,vi o),(10,VN)]<|ge<|ar 4<|eT 3 [] [(53,vi (zY (g+1))),(54,vi 0)]<|p0 0<|have⟨b2,m19,i12,i13⟩:=h;bL (x:=An) (σ:=zW×Nat×Nat×Int) (λs_=> [(0,Vq f),(1,vi g),(2,vi hv),(3,vi o),(10,vs s_.1 s_.2.1 s_.2.2.1),(53,vi (zY (g+1))),(54,vi s_.2.2.2)]) (λs_ H=>b2 s_.1 s_.2.1 s_.2.2.1 s_.2.2.2 H) (λs_ H=>m19 s_.1 s_.2.1 s_.2.2.1 s_.2.2.2 H) ((none,0,0,0):zW×Nat×Nat×Int) (by kernel_rfl) i12 sk ?_
  rintro⟨e,gensN,gensC,s54⟩ H1 i14
  have h:=i13 e gensN gensC s54 H1 i14
  refine nx [(0,Vq f),(1,vi g),(2,vi hv),(3,vi o),(10,vs e gensN gensC),(53,vi (zY (g+1))),(54,vi s54)]<|ar 5<|eT 1 [] [(55,.bool (decide (s54< (zY (g+1)))))]<|ge<|qx h (λc15 h=>?_) (λc15 h=>?_)
  ·refine aJ 55 (zX c15)<|nc<|ge<|p0 1<|ar 6<|eT 2 [55] [(11,vi s54)]<|oo 7<|eH 2 [10,11] [(57,vs e gensN gensC),(58,vi s54)]<|t1 (some 59) (λb=>vs (pa b) 1 1) (.cells #[vi s54] 3) ?_
   intro b H2 e17 e18
   replace h:=h b H2 e17 e18
   refine kc [58] [(59,vs (pa b) 1 1)]<|zi (some 60) (cF #[75,75] 75 #[vs e gensN gensC,vs (pa b) 1 1]) _ (λ_=>by kernel_rfl) (bJ (T:=3) (sz:=1) (bytes:=8) (zero:=(vi 0:Value)) C3 C3 rfl (show prog.info? 3=some t3 from by kernel_rfl) (by kernel_rfl) (by kernel_rfl) (by decide) (by kernel_rfl) (by first | exact h | (simpa only[Value.cells,C9]using h))) ?_;clear h
   rintro _ H3 ⟨ap,bf,rfl,h⟩
   exact kc [57,59] [(60,vs ap (gensN+1) bf)]<|eH 1 [60] [(10,vs ap (gensN+1) bf)]<|zq<|aA<|aC<|oo 8<|eT 2 [54] [(54,vi (zY (s54+1)))]<|aR ((ap,(gensN+1),bf,(zY (s54+1))):zW×Nat×Nat×Int) sk h
  refine aK 55 (zQ c15)<|zk 0<|aB<|aB<|aN<|aC<|ar 9<|eH 3 [53,54,55] [(64,Vq f)]<|have⟨bs,q19,h⟩:=h;hH 65 49 q19 [64] ?_
  obtain⟨br,rfl,ha⟩:=h
  refine eH 2 [65] [(67,Vq br)]<|have⟨bz,q20,h⟩:=ha;hH 68 52 q20 [67] ?_
  obtain⟨b0,rfl,hb⟩:=h
  refine eH 2 [68] [(70,Vq b0)]<|have⟨bk,q21,h⟩:=hb;hH 71 78 q21 [70]<|eH 1 [] [(72,vs e gensN gensC)]<|zO 73 [71,72] h λxB xN xC H4 h=>eT 1 [73] [(12,vs xB xN xC)]<|ge<|ar 10<|eH 3 [] [(76,Vq f)]<|have⟨b4,q22,h⟩:=h;hH 77 49 q22 [76] ?_
  obtain⟨b6,rfl,hc⟩:=h
  refine eH 2 [77] [(79,Vq b6)]<|have⟨bt,q23,h⟩:=hc;hH 80 52 q23 [79] ?_
  obtain⟨bu,rfl,hd⟩:=h
  refine eH 2 [80] [(82,Vq bu)]<|have⟨bo,q24,h⟩:=hd;hH 83 78 q24 [82]<|sv 84 [83] h λa5 H5 h=>eT 7 [3,84] [(91,.bool (decide ((zY ((zY (a5-(zY (2*(xN:Int)))))-8))<o)))]<|qx h (λc25 h=>?_) (λc25 h=>?_)
  ·exact aJ 91 (zX c25)<|ar 11<|kb 2 [8,9] [vp none,vi 2] hQ h
  refine aK 91 (zQ c25)<|nc<|ar 12<|eH 2 [91] [(92,Vq f),(93,vi hv)]<|t1 (some 94) (λb=> .map (some b)) (.map #[] 0)<|λa6 H6 e27 e28=>have h:=h a6 H6 e27 e28;kc [] [(94,.map (some a6))]<|t1 (some 95) (λb=> .map (some b)) (.map #[] 0)<|λbg H7 e29 e30=>have h:=h bg H7 e29 e30;kc [] [(95,.map (some bg))]<|eH 1 [92,93,94,95] [(96,.agg ([Vq f,vi hv]++List.replicate 1024 (vi 0)++[.map (some a6),.map (some bg),VN,vi 0]:List Value).toArray)]<|t1 (some 97) (λb=>vp (pa b)) (.cells ([Vq f,vi hv]++List.replicate 1024 (vi 0)++[.map (some a6),.map (some bg),VN,vi 0]:List Value).toArray 106)<|λm H8 e31 e32=>have h:=h m H8 e31 e32;kc [96] [(97,vp (pa m))]<|eT 1 [97] [(13,vp (pa m))]<|ge<|ar 13<|eT 3 [12] [(98,vs xB xN xC),(99,vi xN),(100,vi 0)]<|p0 2<|have⟨bw,m48,i33,i34⟩:=h;bL (x:=BW) (σ:=Int) (λs_=> [(0,Vq f),(1,vi g),(2,vi hv),(10,vs e gensN gensC),(13,vp (pa m)),(98,vs xB xN xC),(99,vi xN),(100,vi s_)]) (λs_ H=>bw s_ H) (λs_ H=>m48 s_ H) (0:Int) (by kernel_rfl) i33 sk ?_
  rintro y H9 i35
  have h:=i34 y H9 i35
  refine nx [(0,Vq f),(1,vi g),(2,vi hv),(10,vs e gensN gensC),(13,vp (pa m)),(98,vs xB xN xC),(99,vi xN),(100,vi y)]<|ar 14<|eT 1 [] [(101,.bool (decide (y< (xN:Int))))]<|ge<|qx h (λc36 h=>?_) (λc36 h=>?_)
  ·refine aJ 101 (zX c36)<|nc<|ge<|p0 3<|ar 15<|yS [101] [] ?_
   obtain⟨aq,rfl,q38,he⟩:=h
   exact yI (some 102) 75 3 1 aq xN xC .i64 y C3 q38.1 q38.2 [98] [(98,vs (some aq) xN xC),(102,Vq (aq.add (Int.toNat y*1)))]<|have⟨am,q39,h⟩:=he;hH 103 3 q39 [102]<|eT 1 [103] [(15,vi am)]<|oo 16<|eH 4 [15] [(105,vi am),(107,Vq ((ad m).add 2))]<|have⟨q40,h⟩:=h;zd 108 (bE 103 (Vq ((ad m).add 2)) (vi am)) (Vq (((ad m).add 2).add (Int.toNat am*1))) (λw _=>bQ (P:=prog) (t:=103) (elem:=3) (sz:=1) (n:=1024) (a:=((ad m).add 2)) (k:=.i64) (i:=am) Er (λ_=>by kernel_rfl) q40.1 q40.2 w) [105,107]<|have⟨q42,h⟩:=h;eQ 3 (vi 1) q42<|λb1 e41=>have h:=h b1 e41;kc [108] []<|zq<|aA<|aC<|oo 17<|eT 2 [100] [(100,vi (zY (y+1)))]<|aR ((zY (y+1)):Int) sk h
  refine aK 101 (zQ c36)<|zk 2<|aB<|aB<|aN<|aC<|ge<|ar 18<|eH 3 [98,99,100,101] [(112,Vq f)]<|have⟨bj,q43,h⟩:=h;hH 113 49 q43 [112] ?_
  obtain⟨bi,rfl,hf⟩:=h
  refine eH 2 [113] [(115,Vq bi)]<|have⟨ba,q44,h⟩:=hf;hH 116 52 q44 [115] ?_
  obtain⟨bd,rfl,hg⟩:=h
  refine eH 2 [116] [(118,Vq bd)]<|have⟨av,q45,h⟩:=hg;hH 119 78 q45 [118]<|eH 1 [2] [(120,vi hv)]<|t1 (some 121) (λb=>vs (pa b) 1 1) (.cells #[vi hv] 3)<|λbp H11 e46 e47=>have h:=h bp H11 e46 e47;kc [120] [(121,vs (pa bp) 1 1)]<|zO 122 [119,121] h λao j r cj h=>eT 2 [] [(123,vi j),(124,vi 0)]<|p0 4<|have⟨bx,m65,i48,i49⟩:=h;bL (x:=K64) (σ:=Int) (λs_=> [(0,Vq f),(1,vi g),(10,vs e gensN gensC),(13,vp (pa m)),(122,vs ao j r),(123,vi j),(124,vi s_)]) (λs_ H=>bx s_ H) (λs_ H=>m65 s_ H) (0:Int) (by kernel_rfl) i48 sk ?_
  rintro p H13 i50
  have h:=i49 p H13 i50
  refine nx [(0,Vq f),(1,vi g),(10,vs e gensN gensC),(13,vp (pa m)),(122,vs ao j r),(123,vi j),(124,vi p)]<|ar 19<|eT 1 [] [(125,.bool (decide (p< (j:Int))))]<|ge<|qx h (λc51 h=>?_) (λc51 h=>?_)
  ·refine aJ 125 (zX c51)<|nc<|ge<|p0 5<|ar 20<|yS [125] [] ?_
   obtain⟨s,rfl,q53,hh⟩:=h
   refine yI (some 126) 75 3 1 s j r .i64 p C3 q53.1 q53.2 [122] [(122,vs (some s) j r),(126,Vq (s.add (Int.toNat p*1)))]<|have⟨q,q54,h⟩:=hh;hH 127 3 q54 [126]<|eT 1 [127] [(17,vi q)]<|ar 21<|eH 3 [] [(131,Vq f)]<|have⟨be,q55,h⟩:=h;hH 132 49 q55 [131] ?_
   obtain⟨bb,rfl,hi⟩:=h
   refine eH 2 [132] [(134,Vq bb)]<|have⟨bh,q56,h⟩:=hi;hH 135 52 q56 [134] ?_
   obtain⟨bc,rfl,hj⟩:=h
   refine eH 2 [135] [(137,Vq bc)]<|have⟨az,q57,h⟩:=hj;hH 138 78 q57 [137]<|eH 1 [] [(139,vi q)]<|zU 140 [138,139] h λan ai a2 ac ae af ab rb ce h=>eH 3 [140] [(141,.agg #[vi an,vi ai,vi a2,vi ac,vi ae,vi af,vi ab]),(142,.bool rb)]<|t1 (some 18) (λb=>vp (pa b)) (.cells #[vi 0,vi 0,vi 0,vi 0,vi 0,vi 0,vi 0] 108)<|λaa H15 e58 e59=>have h:=h aa H15 e58 e59;kc [] [(18,vp (pa aa))]<|have⟨q61,h⟩:=h;fN 108 [vi an,vi ai,vi a2,vi ac,vi ae,vi af,vi ab] q61<|λay e60=>have h:=h ay e60;kc [141] []<|eT 1 [142] []<|have⟨ag,q62,aj,q63,ak,q64,ah,q65,h⟩:=h;yq 22 (Code.ops K77) [(14,((ad m).add 1026),[.map ag]),(14,((ad m).add 1027),[.map aj]),(16,((ad aa).add 2),[vi ak]),(19,((ad aa).add 2),[vi ah])] 20 (bv 20 0) (show aE _ _ _ from⟨⟨q62,EO⟩,⟨q63,EO⟩,⟨q64,EO⟩,⟨q65,EO⟩,EO⟩)<|zr 0 (some 143) (vp (pa m)) (bv 20 1) [(0,Vq f),(1,vi g),(10,vs e gensN gensC),(13,vp (pa m)),(17,vi q),(18,vp (pa aa)),(122,vs (some s) j r),(123,vi j),(124,vi p),(143,vp (pa m))]<|aG 1 144 (vp (pa m)) (bv 20 3) [143]<|aG 2 145 (Vq ((ad m).add 1026)) (bv 20 7) [144]<|kT 3 146 (.map ag) (bv 20 15) [145] (aQ 102 (Vq ((ad m).add 1026))) (yY 14 yX)<|aG 4 147 (vi q) (bv 20 31) []<|aG 5 148 (vp (pa m)) (bv 20 63) []<|aG 6 149 (vp (pa m)) (bv 20 127) [148]<|aG 7 150 (Vq ((ad m).add 1027)) (bv 20 255) [149]<|kT 8 151 (.map aj) (bv 20 511) [150] (aQ 102 (Vq ((ad m).add 1027))) (yY 14 yQ)<|aG 9 152 (vi q) (bv 20 1023) [17]<|aG 10 153 (Vq ((ad aa).add 2)) (bv 20 2047) []<|kT 11 154 (vi ak) (bv 20 4095) [153] (aQ 3 (Vq ((ad aa).add 2))) (yY 16 yJ)<|aG 12 155 (Vq ((ad aa).add 2)) (bv 20 8191) [18]<|kT 13 156 (vi ah) (bv 20 16383) [155] (aQ 3 (Vq ((ad aa).add 2))) (yY 19 yK) ?_
   obtain⟨mr,rfl,es,cl,ks,q68,q69,q73,hl⟩:=h
   refine ox 14 (some 157) (bv 20 32767) (nO 102 (.map (some mr)) (vi q)) (λu Hz=> ∃es2 cl2 sp v0,Hz=aM ay mr (.map es2 cl2)/\vb (aY .i64) es2.toList (yM ks q v0)/\Born es2 cl2/\lT es2 (vi q) sp/\u=.tuple #[v0,vi sp]) (by kernel_rfl) (λ_=>by kernel_rfl) (pK (kk:=(aY .i64)) (z:=vi 0) Es underlying3 (λ_=>by kernel_rfl) q68 q69 q73) (by kernel_rfl) ?_
   rintro _ H17 ⟨a4,cl_2,stamp,x_21,e71,e72,e74,e75,rfl⟩
   refine have h:=hl a4 cl_2 stamp x_21 H17 e71 e72 e74 e75;have⟨f66,f67,h⟩:=h;⟨[(0,Vq f),(1,vi g),(10,vs e gensN gensC),(13,vp (pa m)),(122,vs (some s) j r),(123,vi j),(124,vi p),(146,.map (some mr)),(151,.map aj),(152,vi q),(154,vi ak),(156,vi ah),(157,.tuple #[x_21,vi stamp])],pk,(show aE _ _ _ from⟨EO,EO,f66,f67,EO⟩),?_⟩
   refine zB 15 (some 158) (vi stamp) (bv 20 65535) [(0,Vq f),(1,vi g),(10,vs e gensN gensC),(13,vp (pa m)),(122,vs (some s) j r),(123,vi j),(124,vi p),(146,.map (some mr)),(151,.map aj),(152,vi q),(154,vi ak),(156,vi ah),(158,vi stamp)] (pure (.value (vi stamp)):Sem Next) (λ_ _ _ _ _=>rfl)<|have⟨bm,cl_3,ks_2,k,q77,q78,q79,q80,h⟩:=h;fH 16 none (bv 20 131071) (po 102 (.map (some mr)) (vi stamp) (vi ak)) (λHz=> ∃es2,Hz=aM H17 mr (.map es2 cl_3)/\vb (aY .i64) es2.toList (yM ks_2 k (vi ak))/\Born es2 cl_3) (by kernel_rfl) (λ_=>by kernel_rfl) (pL (kk:=(aY .i64)) q77 q78 q79 q80) (by kernel_rfl) ?_
   rintro H18 ⟨a9,e81,e82,e83⟩
   refine have h:=h a9 H18 e81 e82 e83;have⟨f76,h⟩:=h;⟨[(0,Vq f),(1,vi g),(10,vs e gensN gensC),(13,vp (pa m)),(122,vs (some s) j r),(123,vi j),(124,vi p),(151,.map aj),(152,vi q),(156,vi ah)],pk,(show aE _ _ _ from⟨EO,EO,EO,f76,EO⟩),?_⟩
   obtain⟨al,rfl,bq,cl_4,ks_3,q85,q86,q90,hm⟩:=h
   refine ox 17 (some 159) (bv 20 262143) (nO 102 (.map (some al)) (vi q)) (λu Hz=> ∃es2 cl2 sp v0,Hz=aM H18 al (.map es2 cl2)/\vb (aY .i64) es2.toList (yM ks_3 q v0)/\Born es2 cl2/\lT es2 (vi q) sp/\u=.tuple #[v0,vi sp]) (by kernel_rfl) (λ_=>by kernel_rfl) (pK (kk:=(aY .i64)) (z:=vi 0) Es underlying3 (λ_=>by kernel_rfl) q85 q86 q90) (by kernel_rfl) ?_
   rintro _ H19 ⟨a3,cl_5,stamp_2,x_22,e88,e89,e91,e92,rfl⟩
   refine have h:=hm a3 cl_5 stamp_2 x_22 H19 e88 e89 e91 e92;have⟨f84,h⟩:=h;⟨[(0,Vq f),(1,vi g),(10,vs e gensN gensC),(13,vp (pa m)),(122,vs (some s) j r),(123,vi j),(124,vi p),(151,.map (some al)),(156,vi ah),(159,.tuple #[x_22,vi stamp_2])],pk,(show aE _ _ _ from⟨EO,EO,EO,f84,EO⟩),?_⟩
   refine zB 18 (some 160) (vi stamp_2) (bv 20 524287) [(0,Vq f),(1,vi g),(10,vs e gensN gensC),(13,vp (pa m)),(122,vs (some s) j r),(123,vi j),(124,vi p),(151,.map (some al)),(156,vi ah),(160,vi stamp_2)] (pure (.value (vi stamp_2)):Sem Next) (λ_ _ _ _ _=>rfl)<|have⟨a7,cl_6,ks_4,k_2,q93,q94,q95,q96,h⟩:=h;fH 19 none (bv 20 1048575) (po 102 (.map (some al)) (vi stamp_2) (vi ah)) (λHz=> ∃es2,Hz=aM H19 al (.map es2 cl_6)/\vb (aY .i64) es2.toList (yM ks_4 k_2 (vi ah))/\Born es2 cl_6) (by kernel_rfl) (λ_=>by kernel_rfl) (pL (kk:=(aY .i64)) q93 q94 q95 q96) (by kernel_rfl) ?_
   rintro H20 ⟨bn,e97,e98,e99⟩
   refine have h:=h bn H20 e97 e98 e99;⟨[(0,Vq f),(1,vi g),(10,vs e gensN gensC),(13,vp (pa m)),(122,vs (some s) j r),(123,vi j),(124,vi p)],pk,(show aE _ _ _ from⟨EO,EO,EO,EO,EO⟩),?_⟩
   exact eq [(0,Vq f),(1,vi g),(10,vs e gensN gensC),(13,vp (pa m)),(122,vs (some s) j r),(123,vi j),(124,vi p)] sk<|yz<|aA<|aC<|oo 23<|u5 2 [(0,Vq f),(1,vi g),(10,vs e gensN gensC),(13,vp (pa m)),(122,vs (some s) j r),(123,vi j),(124,vi (zY (p+1)))]<|aR ((zY (p+1)):Int) sk h
  refine aK 125 (zQ c51)<|zk 4<|aB<|aB<|aN<|aC<|ar 24<|eH 3 [122,123,124,125] [(164,Vq f)]<|have⟨bl,q100,h⟩:=h;hH 165 49 q100 [164] ?_
  obtain⟨a8,rfl,hn⟩:=h
  refine eH 2 [165] [(167,Vq a8)] ?_
  obtain⟨a1,q101,h⟩:=hn
  refine hH 168 52 q101 [167]<|eH 1 [10] [(169,vs e gensN gensC)]<|zC (some 170) h ?_;clear h
  exact λv_5 cd h=>kc [168,169] []<|yH<|ar 25<|eH 4 [0] [(171,vp (pa m)),(174,Vq f)]<|have⟨a0,q102,h⟩:=h;hH 175 49 q102 [174]<|eH 1 [1] [(176,vi g)]<|zO 177 [175,176] h λaw ax au cc h=>eH 2 [171] [(179,Vq ((ad m).add 1028))]<|have⟨q104,h⟩:=h;eQ 104 (vs aw ax au) q104<|λb8 e103=>have h:=h b8 e103;kc [177,179] []<|yH<|ar 26<|kb 3 [8,9] [vp (pa m),vi 0] hQ h
 refine λhk=>Ac [(0,Vq f),(1,vi g),(2,vi hv),(3,vi o),(33,.bool (decide (g<0)))] ?_
 by_cases c2:g<0
 ·have b3:(decide (g<0))=true:=zX c2
  exact cD [(0,Vq f),(1,vi g),(2,vi hv),(3,vi o),(33,VT)] (by rw[b3])<|eH 18 [33] [(51,VT)]<|zq<|xl 51 (b:=true) (v:=(((((decide (g<0)) || (decide (g>=4))) || (decide (hv<g))) || (decide (hv>(zY (g+1))))) || (decide (o<0)))) (by simp only[b3,BL])<|hk
 have b3:(decide (g<0))=false:=zQ c2
 refine cD [(0,Vq f),(1,vi g),(2,vi hv),(3,vi o),(33,VF)] (by rw[b3])<|eH 4 [33] [(37,.bool (decide (g>=4)))] ?_
 by_cases c4:g>=4
 ·have b5:(decide (g>=4))=true:=zX c4
  exact o0 37 b5<|eH 14 [37] [(51,VT)]<|zq<|xl 51 (b:=true) (v:=(((((decide (g<0)) || (decide (g>=4))) || (decide (hv<g))) || (decide (hv>(zY (g+1))))) || (decide (o<0)))) (by simp only[b3,b5,BL])<|hk
 have b5:(decide (g>=4))=false:=zQ c4
 refine o0 37 b5<|eH 5 [37] [(42,.bool (decide (hv<g)))] ?_
 by_cases c6:hv<g
 ·have b7:(decide (hv<g))=true:=zX c6
  exact o0 42 b7<|eH 9 [42] [(51,VT)]<|zq<|xl 51 (b:=true) (v:=(((((decide (g<0)) || (decide (g>=4))) || (decide (hv<g))) || (decide (hv>(zY (g+1))))) || (decide (o<0)))) (by simp only[b3,b5,b7,BL])<|hk
 have b7:(decide (hv<g))=false:=zQ c6
 refine o0 42 b7<|eH 6 [42] [(48,.bool (decide (hv>(zY (g+1)))))] ?_
 by_cases c8:hv>(zY (g+1))
 ·have b9:(decide (hv>(zY (g+1))))=true:=zX c8
  exact o0 48 b9<|eH 3 [48] [(51,VT)]<|zq<|xl 51 (b:=true) (v:=(((((decide (g<0)) || (decide (g>=4))) || (decide (hv<g))) || (decide (hv>(zY (g+1))))) || (decide (o<0)))) (by simp only[b3,b5,b7,b9,BL])<|hk
 have b9:(decide (hv>(zY (g+1))))=false:=zQ c8
 exact o0 48 b9<|eH 3 [48] [(51,.bool (decide (o<0)))]<|zq<|xl 51 (b:=(decide (o<0))) (v:=(((((decide (g<0)) || (decide (g>=4))) || (decide (hv<g))) || (decide (hv>(zY (g+1))))) || (decide (o<0)))) (by simp only[b3,b5,b7,b9,BL])<|hk
namespace bA
def K0:=EP f13
def K2:=cb K0
def K4:=cb K2
def zS:=cb K4
def Al:=cb zS
def Au:=cb Al
def AS:=cb Au
def AO:=cb AS
def Af:=ca AO
def Bv:=cb AO
def BJ:=cb Bv
def AN:=ca BJ
def Bj:=cb AN
def Bp:=ca Bj
def B5:=ca Bp
end bA
def bA.pt(tv:zW)(wv:Int)(H:zV)(R:zv):=
 dJ.C tv wv H (λv H1=> ∃x,v=.bool x/\
 if x=true then(
 cY.C tv wv H1 (λbs H2=> ∃ra rb,bs=.tuple #[vu ra,.bool rb]/\
 if rb=true then(
 R (vu ra) H2)
 else
 ∃d,tv=some d/\
 ∃ao,hat H2 d=some (vp ao)/\
 bO.C ao wv H2 (λbt H3=> ∃f,bt=vi f/\
 if f=0 then(
 R (vu wv) H3)
 else
 gK.C wv H3 (λbx H4=> ∃a bf,bx=.tuple #[vi a,.bool bf]/\
 ∃bc,hat H4 d=some (vp bc)/\
 ∃a9,bc=some a9/\
 ∃bb,hat H4 a9=some (vp bb)/\
 ∃bd,bb=some bd/\
 ∃a8,hat H4 bd=some (vp a8)/\
 ∃ba,a8=some ba/\
 ∃az,hat H4 ba=some (vp az)/\
 bB.C az (zY (Int.tdiv a 64)) H4 (λbq H5=> ∃s q af j k m i ah,bq=.tuple #[.agg #[vi s,vi q,vi af,vi j,vi k,vi m,vi i],.bool ah]/\
 ∀b H6,b=H5.size->H6=H5.push (.cells #[vi 0,vi 0,vi 0,vi 0,vi 0,vi 0,vi 0] 108)->
 (aH H6 (ad b) 0 7)/\ ∀H7,H7=aP H6 (ad b) [vi s,vi q,vi af,vi j,vi k,vi m,vi i] 0->
 ∃bk,hat H7 d=some (vp bk)/\
 ∃u,bk=some u/\
 ∃bl,hat H7 u=some (vp bl)/\
 ∃t,bl=some t/\
 ∃r,hat H7 t=some (vp r)/\
 ∃y,hat H7 (d.add 1)=some (vi y)/\
 ∃z,hat H7 ((ad b).add 1)=some (vi z)/\
 cL.C r y z f H7 (λbr H8=> ∃e n,br=.tuple #[vi e,vi n]/\
 if n=0 then(
 ∃(a7:zw) (m47:Int->zV->Nat),a7 0 H8/\ ∀g H9,a7 g H9->
 if g<f then(
 ∃av,hat H9 d=some (vp av)/\
 ∃aq,av=some aq/\
 ∃au,hat H9 aq=some (vp au)/\
 ∃am,au=some am/\
 ∃ax,hat H9 am=some (vp ax)/\
 ∃an,ax=some an/\
 ∃aa,hat H9 an=some (vp aa)/\
 cG.C aa (zY (a+g)) H9 (λbw a6=> ∃p be,bw=.tuple #[vu p,vi be]/\
 ∃ap,hat a6 d=some (vp ap)/\
 ∃ay,ap=some ay/\
 ∃aw,hat a6 ay=some (vp aw)/\
 ∃ai,aw=some ai/\
 ∃a4,hat a6 ai=some (vp a4)/\
 ∃a0,a4=some a0/\
 ∃ae,hat a6 a0=some (vp ae)/\
 bU.C ae (zY (e+g)) p a6 (λb3 bn=> ∃bm,b3=vi bm/\
 (a7 (zY (g+1)) bn/\m47 (zY (g+1)) bn<m47 g H9))))
 else
 jT.C 6 e H9 (λb0 a5=> ∃o bh,b0=.tuple #[vu o,vi bh]/\
 ∃a2,hat a5 d=some (vp a2)/\
 ∃ak,a2=some ak/\
 ∃a1,hat a5 ak=some (vp a1)/\
 ∃aj,a1=some aj/\
 ∃a3,hat a5 aj=some (vp a3)/\
 ∃al,a3=some al/\
 ∃ab,hat a5 al=some (vp ab)/\
 bU.C ab a o a5 (λbp bz=> ∃bi,bp=vi bi/\
 cM.C wv bz (λbo b1=> ∃ag,bo=vi ag/\
 jT.C ag e b1 (λbj bu=> ∃ac bg,bj=.tuple #[vu ac,vi bg]/\
 R (vu ac) bu)))))
 else
 R (vu wv) H8))))))
 else
 R (vu wv) H1)
theorem bA.link{wv:Int}(h:pt d wv H R):C d wv H R:=by
 refine sa K0 163 func13 ?_
 intro w0 Q hQ
 unfold pt zY at h
 refine nx [(0,vp d),(1,vu wv)]<|ar 0<|eT 1 [] []<|ge<|ar 1<|eH 2 [] [(21,vp d),(22,vu wv)]<|sv 23 [21,22] h λx H1 h=>eT 1 [23] [(24,.bool (!x))]<|qx h (λc1 h=>?_) (λc1 h=>?_)
 ·refine aK 24 (CJ Bool.not (c1))<|nc<|ge<|ar 3<|eH 2 [24] [(27,vp d),(28,vu wv)]<|yT 29 [27,28] h λra rb H2 h=>eT 5 [29] [(5,vu ra),(6,.bool rb)]<|ar 4<|eT 1 [6] [(32,.bool rb)]<|qx h (λc3 h=>?_) (λc3 h=>?_)
  ·exact aJ 32 c3<|ar 5<|kb 2 [4] [vu ra] hQ h
  refine aK 32 (zZ c3)<|nc<|ar 6<|eH 1 [5,32] [(34,vp d)] ?_
  obtain⟨tv,rfl,ha⟩:=h
  refine eH 2 [0,34] [(0,Vq tv),(36,Vq tv)]<|have⟨ao,q5,h⟩:=ha;hH 37 23 q5 [36]<|eH 1 [] [(38,vu wv)]<|sv 39 [37,38] h λf H3 h=>eT 1 [39] [(7,vi f)]<|ge<|ar 7<|eT 2 [] [(41,.bool (f==0))]<|qx h (λc6 h=>?_) (λc6 h=>?_)
  ·exact aJ 41 (zK c6)<|ar 8<|kb 2 [4] [vu wv] hQ h
  refine aK 41 (zJ c6)<|nc<|ar 9<|eH 1 [41] [(44,vu wv)]<|yT 45 [44] h λa bf H4 h=>eT 5 [45] [(8,vi a)]<|ar 10<|eH 3 [] [(51,Vq tv)]<|have⟨bc,q8,h⟩:=h;hH 52 23 q8 [51] ?_
  obtain⟨a9,rfl,hb⟩:=h
  refine eH 2 [52] [(54,Vq a9)]<|have⟨bb,q9,h⟩:=hb;hH 55 49 q9 [54] ?_
  obtain⟨bd,rfl,hc⟩:=h
  refine eH 2 [55] [(57,Vq bd)]<|have⟨a8,q10,h⟩:=hc;hH 58 52 q10 [57] ?_
  obtain⟨ba,rfl,hd⟩:=h
  refine eH 2 [58] [(60,Vq ba)]<|have⟨az,q11,h⟩:=hd;hH 61 78 q11 [60]<|eH 2 [] [(63,vi (zY (Int.tdiv a 64)))]<|zU 64 [61,63] h λs q af j k m i ah H5 h=>eH 3 [64] [(65,.agg #[vi s,vi q,vi af,vi j,vi k,vi m,vi i]),(66,.bool ah)]<|t1 (some 10) (λb=>vp (pa b)) (.cells #[vi 0,vi 0,vi 0,vi 0,vi 0,vi 0,vi 0] 108)<|λb H6 e12 e13=>have h:=h b H6 e12 e13;kc [] [(10,vp (pa b))]<|have⟨q15,h⟩:=h;fN 108 [vi s,vi q,vi af,vi j,vi k,vi m,vi i] q15<|λH7 e14=>have h:=h H7 e14;kc [65] []<|eT 1 [66] []<|ge ?_
  obtain⟨bk,q16,u,rfl,bl,q17,t,rfl,r,q18,y,q19,z,q20,he⟩:=h
  refine yq 11 (Code.ops Af) [(17,tv,[Vq u]),(17,u,[Vq t]),(17,t,[vp r]),(17,(tv.add 1),[vi y]),(17,((ad b).add 1),[vi z])] 23 (bv 23 0) (show aE _ _ _ from⟨⟨q16,EO⟩,⟨q17,EO⟩,⟨q18,EO⟩,⟨q19,EO⟩,⟨q20,EO⟩,EO⟩)<|zr 0 (some 68) (Vq tv) (bv 23 1) [(0,Vq tv),(1,vu wv),(7,vi f),(8,vi a),(10,vp (pa b)),(68,Vq tv)]<|aG 1 69 (Vq tv) (bv 23 3) [68]<|aG 2 70 (Vq tv) (bv 23 7) [69]<|kT 3 71 (Vq u) (bv 23 15) [70] (aQ 23 (Vq tv)) (yY 17 yX)<|aG 4 72 (Vq u) (bv 23 31) [71]<|aG 5 73 (Vq u) (bv 23 63) [72]<|kT 6 74 (Vq t) (bv 23 127) [73] (aQ 49 (Vq u)) (yY 17 yQ)<|aG 7 75 (Vq t) (bv 23 255) [74]<|aG 8 76 (Vq t) (bv 23 511) [75]<|kT 9 77 (vp r) (bv 23 1023) [76] (aQ 52 (Vq t)) (yY 17 yJ)<|aG 10 78 (Vq tv) (bv 23 2047) []<|aG 11 79 (Vq tv) (bv 23 4095) [78]<|aG 12 80 (Vq (tv.add 1)) (bv 23 8191) [79]<|kT 13 81 (vi y) (bv 23 16383) [80] (aQ 3 (Vq (tv.add 1))) (yY 17 yK)<|aG 14 82 (Vq ((ad b).add 1)) (bv 23 32767) [10]<|kT 15 83 (vi z) (bv 23 65535) [82] (aQ 3 (Vq ((ad b).add 1))) (yY 17 yV)<|aG 16 84 (vi f) (bv 23 131071) []<|yx 17 (some 85) (bv 23 262143) 53 #[vp r,vi y,vi z,vi f] he ?_;clear he
  rintro br H8 ⟨e,n,rfl,h⟩
  refine⟨[(0,Vq tv),(1,vu wv),(7,vi f),(8,vi a),(85,.tuple #[vi e,vi n])],pk,(show aE _ _ _ from⟨EO,EO,EO,EO,EO,EO⟩),?_⟩
  refine zB 18 (some 67) (.tuple #[vi e,vi n]) (bv 23 524287) [(0,Vq tv),(1,vu wv),(7,vi f),(8,vi a),(67,.tuple #[vi e,vi n])] (pure (.value (.tuple #[vi e,vi n])):Sem Next) (λ_ _ _ _ _=>rfl)<|kT 19 86 (vi e) (bv 23 1048575) [] (pure (.value (vi e)):Sem Next) (λ_ _ _ _ _=>rfl)<|kT 20 87 (vi n) (bv 23 2097151) [67] (pure (.value (vi n)):Sem Next) (λ_ _ _ _ _=>rfl)<|kT 21 12 (vi e) (bv 23 4194303) [86] (pure (.value (vi e)):Sem Next) (λ_ _ _ _ _=>rfl)<|kT 22 13 (vi n) (bv 23 8388607) [87] (pure (.value (vi n)):Sem Next) (λ_ _ _ _ _=>rfl)<|eq [(0,Vq tv),(1,vu wv),(7,vi f),(8,vi a),(12,vi e),(13,vi n)] sk<|yz<|aC<|ge<|ar 12<|u5 2 [(0,Vq tv),(1,vu wv),(7,vi f),(8,vi a),(12,vi e),(89,.bool (n !=0))]<|qx h (λc21 h=>?_) (λc21 h=>?_)
  ·refine aK 89 (CX.mpr c21)<|nc<|ge<|ar 14<|eT 2 [7,89] [(91,vi f),(92,vi 0)]<|p0 0<|have⟨a7,m47,i23,i24⟩:=h;bL (x:=B5) (σ:=Int) (λs_=> [(0,Vq tv),(1,vu wv),(8,vi a),(12,vi e),(91,vi f),(92,vi s_)]) (λs_ H=>a7 s_ H) (λs_ H=>m47 s_ H) (0:Int) (by kernel_rfl) i23 sk ?_
   rintro g H9 i25
   have h:=i24 g H9 i25
   refine nx [(0,Vq tv),(1,vu wv),(8,vi a),(12,vi e),(91,vi f),(92,vi g)]<|ar 15<|eT 1 [] [(93,.bool (decide (g<f)))]<|ge<|qx h (λc26 h=>?_) (λc26 h=>?_)
   ·refine aJ 93 (zX c26)<|nc<|ge<|p0 1<|ar 16<|eT 2 [93] [(14,vi g)]<|ar 17<|eH 3 [] [(98,Vq tv)]<|have⟨av,q28,h⟩:=h;hH 99 23 q28 [98] ?_
    obtain⟨aq,rfl,hf⟩:=h
    refine eH 2 [99] [(101,Vq aq)]<|have⟨au,q29,h⟩:=hf;hH 102 49 q29 [101] ?_
    obtain⟨am,rfl,hg⟩:=h
    refine eH 2 [102] [(104,Vq am)]<|have⟨ax,q30,h⟩:=hg;hH 105 52 q30 [104] ?_
    obtain⟨an,rfl,hh⟩:=h
    refine eH 2 [105] [(107,Vq an)]<|have⟨aa,q31,h⟩:=hh;hH 108 78 q31 [107]<|eH 3 [] [(111,vi (zY (a+g)))]<|yT 112 [108,111] h λp be a6 h=>eT 5 [112] [(15,vu p)]<|oo 18<|eH 3 [] [(117,Vq tv)]<|have⟨ap,q32,h⟩:=h;hH 118 23 q32 [117] ?_
    obtain⟨ay,rfl,hi⟩:=h
    refine eH 2 [118] [(120,Vq ay)]<|have⟨aw,q33,h⟩:=hi;hH 121 49 q33 [120] ?_
    obtain⟨ai,rfl,hj⟩:=h
    refine eH 2 [121] [(123,Vq ai)]<|have⟨a4,q34,h⟩:=hj;hH 124 52 q34 [123] ?_
    obtain⟨a0,rfl,hk⟩:=h
    refine eH 2 [124] [(126,Vq a0)] ?_
    obtain⟨ae,q35,h⟩:=hk
    refine hH 127 78 q35 [126]<|eH 4 [14,15] [(130,vi (zY (e+g))),(131,vu p)]<|zC (some 132) h ?_;clear h
    rintro b3 bn ⟨bm,rfl,h⟩
    exact kc [127,130,131] []<|zq<|aA<|aC<|oo 19<|eT 2 [92] [(92,vi (zY (g+1)))]<|aR ((zY (g+1)):Int) sk h
   refine aK 93 (zQ c26)<|zk 0<|aB<|aB<|aN<|aC<|ar 20<|eH 1 [91,92,93] [(135,vi e)]<|yT 136 [135] h λo bh a5 h=>eT 5 [136] [(17,vu o)]<|ar 21<|eH 3 [0] [(141,Vq tv)]<|have⟨a2,q36,h⟩:=h;hH 142 23 q36 [141] ?_
   obtain⟨ak,rfl,hl⟩:=h
   refine eH 2 [142] [(144,Vq ak)]<|have⟨a1,q37,h⟩:=hl;hH 145 49 q37 [144] ?_
   obtain⟨aj,rfl,hm⟩:=h
   refine eH 2 [145] [(147,Vq aj)]<|have⟨a3,q38,h⟩:=hm;hH 148 52 q38 [147] ?_
   obtain⟨al,rfl,hn⟩:=h
   refine eH 2 [148] [(150,Vq al)] ?_
   obtain⟨ab,q39,h⟩:=hn
   refine hH 151 78 q39 [150]<|eH 2 [8,17] [(152,vi a),(153,vu o)]<|zC (some 154) h ?_;clear h
   rintro bp bz ⟨bi,rfl,h⟩
   exact kc [151,152,153] []<|yH<|ar 22<|eH 1 [1] [(156,vu wv)]<|sv 157 [156] h λag b1 h=>eH 1 [12] [(158,vi e)]<|zI 159 (λac bg=>[(159,.tuple #[vu ac,vi bg])]) h λac bg bu h=>u5 5 [(19,vu ac)]<|ar 23<|kb 2 [4] [vu ac] hQ h
  exact aJ 89 (CY.mpr c21)<|ar 13<|kb 2 [4] [vu wv] hQ h
 exact aJ 24 (CJ Bool.not (zZ c1))<|ar 2<|kb 2 [4] [vu wv] hQ h
def cW.K0:=EP f14
def cW.K1:=ca K0
def cW.K2:=ca K1
def cW.pt(tv:zW)(H:zV)(R:zv):=
 ∃(I3:zV->Prop) (m3:zV->Nat),I3 H/\ ∀H1,I3 H1->
 bM.C tv H1 (λv H2=> ∃x,v=.bool x/\
 if x=true then(
 R (.tuple #[]) H2)
 else
 dV.C tv H2 (λb H3=> ∃a,b=.bool a/\
 if a=true then(
 (I3 H3/\m3 H3<m3 H1))
 else
 R (.tuple #[]) H3))
theorem cW.link(h:pt d H R):C d H R:=by
 refine sa K0 9 func14 ?_
 intro w0 Q hQ
 unfold pt at h
 refine nx [(0,vp d)]<|p0 0<|have⟨I3,m3,i1,i2⟩:=h;bL (x:=K2) (σ:=Unit) (λs_=> [(0,vp d)]) (λs_ H=>I3 H) (λs_ H=>m3 H) (():Unit) (by kernel_rfl) i1 sk ?_
 rintro _ H1 i3
 have h:=i2 H1 i3
 refine nx [(0,vp d)]<|ge<|ar 0<|eH 1 [] [(2,vp d)]<|sv 3 [2] h λx H2 h=>eH 2 [3] [(5,.bool (!x))]<|qx h (λc4 h=>?_) (λc4 h=>?_)
 ·have b5:(!x)=false:=CJ Bool.not (c4)
  have b52:x=true:=c4
  refine o0 5 (b:=(!x)) (v:=false) (by simp only[b5,b52,Da,C5]) ?_
  clear b5 b52
  exact eT 3 [5] [(8,VF)]<|yL 8<|zk 0<|aB<|aB<|aN<|gH (fn:=f14) [] hQ (show bV _ _ _ [] _ from .nil) h
 have b5:(!x)=true:=CJ Bool.not (zZ c4)
 have b52:x=false:=zZ c4
 refine o0 5 (b:=(!x)) (v:=true) (by simp only[b5,b52,Da,C5]) ?_
 clear b5 b52
 refine eH 1 [] [(6,vp d)]<|sv 7 [6] h λa H3 h=>eT 1 [5,7] [(8,.bool a)]<|qx h (λc6 h=>?_) (λc6 h=>?_)
 ·exact aJ 8 c6<|nc<|p0 1<|zp<|aA<|aC<|aR (s:=()) (():Unit) sk h
 exact aK 8 (zZ c6)<|zk 0<|aB<|aB<|aN<|gH (fn:=f14) [] hQ (show bV _ _ _ [] _ from .nil) h
namespace dI
def K0:=EP f16
def K2:=cb K0
def K7:=ca K2
def K8:=cb K2
def zS:=cb K7
def K11:=ca zS
def zy:=ca K11
def Bg:=ca K8
def Ae:=cb Bg
def AO:=ca Ae
def Af:=ca AO
def AV:=cb Af
def Br:=cb AV
def Bz:=ca Br
def AE:=ca Bz
def Bj:=cb AE
end dI
def dI.pt(tv:zW)(H:zV)(R:zv):=
 bM.C tv H (λv H1=> ∃x,v=.bool x/\
 if x=true then(
 R (.tuple #[]) H1)
 else
 ∃d,tv=some d/\
 ∃g:List Value,g.length=1024/\aL H1 (d.add 2) 0 g/\
 ∃(af:zw) (m13:Int->zV->Nat),af 0 H1/\ ∀e H2,af e H2->
 if e<1024 then(
 ∃s,((0<=e/\e< (1024:Int))/\((g:List Value).toArray)[Int.toNat e]?=some (vi s))/\
 if s=1 then(
 ∃ab,hat H2 d=some (vp ab)/\
 ∃ae,ab=some ae/\
 ∃aa,hat H2 ae=some (vp aa)/\
 ∃ac,aa=some ac/\
 ∃z,hat H2 ac=some (vp z)/\
 eL.C z e H2 (λaj H3=> ∃ak,aj=vi ak/\
 (af (zY (e+1)) H3/\m13 (zY (e+1)) H3<m13 e H2)))
 else
 (af (zY (e+1)) H2/\m13 (zY (e+1)) H2<m13 e H2))
 else
 ∃xB xN xC,hat H2 (d.add 1028)=some (vs xB xN xC)/\
 ∃(ag:zw) (m34:Int->zV->Nat),ag 0 H2/\ ∀f H4,ag f H4->
 if f< (xN:Int)then(
 ∃j,xB=some j/\
 yZ f xN/\
 ∃q m,aL H4 (j.add (Int.toNat f*2)) 0 [vi q,vi m]/\
 ∀b H5,b=H4.size->H5=H4.push (.cells #[vi 0,vi 0] 127)->
 (aH H5 (ad b) 0 2)/\ ∀H6,H6=aP H5 (ad b) [vi q,vi m] 0->
 ∃ai,hat H6 d=some (vp ai)/\
 ∃o,ai=some o/\
 ∃r,hat H6 o=some (vp r)/\
 ∃p,hat H6 (ad b)=some (vi p)/\
 ∃u,hat H6 ((ad b).add 1)=some (vi u)/\
 dL.C r p u H6 (λal H7=> ∃ah,al=vi ah/\
 (ag (zY (f+1)) H7/\m34 (zY (f+1)) H7<m34 f H4)))
 else
 ∃y,hat H4 d=some (vp y)/\
 gR.C y H4 (λ_ H8=>
 (aH H8 (d.add 1029) 0 1)/\ ∀H9,H9=aP H8 (d.add 1029) [vi 1] 0->
 R (.tuple #[]) H9))
theorem dI.link(h:pt d H R):C d H R:=by
 refine sa K0 61 func16 ?_
 intro w0 Q hQ
 unfold pt zY at h
 refine nx [(0,vp d)]<|ge<|ar 0<|eH 1 [] [(6,vp d)]<|sv 7 [6] h λx H1 h=>yH<|qx h (λc1 h=>?_) (λc1 h=>?_)
 ·exact aJ 7 c1<|hX [] [] hQ h
 refine aK 7 (zZ c1)<|nc<|ge<|ar 1<|eH 1 [7] [(8,vp d)] ?_
 obtain⟨tv,rfl,ha⟩:=h
 refine va 2 [(0,Vq tv),(10,Vq (tv.add 2))] ?_
 obtain⟨g,l4,q3,h⟩:=ha
 refine zd 11 (aQ 103 (Vq (tv.add 2))) (.agg (g).toArray) (ke (eR (λ_=>by kernel_rfl) (λw=>by rw[l4];kernel_rfl) q3)) [10]<|eT 1 [] [(12,vi 0)]<|p0 0 ?_
 refine have⟨af,m13,i5,i6⟩:=h;bL (x:=zy) (σ:=Int) (λs_=> [(0,Vq tv),(11,.agg (g).toArray),(12,vi s_)]) (λs_ H=>af s_ H) (λs_ H=>m13 s_ H) (0:Int) (by kernel_rfl) i5 sk ?_
 rintro e H2 i7
 have h:=i6 e H2 i7
 refine nx [(0,Vq tv),(11,.agg (g).toArray),(12,vi e)]<|ar 2<|eT 1 [] [(13,.bool (decide (e<1024)))]<|ge<|qx h (λc8 h=>?_) (λc8 h=>?_)
 ·refine aJ 13 (zX c8)<|nc<|ge<|p0 1<|ar 3<|eH 1 [13] [(14,vi e)]<|have⟨s,q10,h⟩:=h;zd 15 (mL 103 (.agg (g).toArray) (vi e)) (vi s) (λw _=>kf (P:=prog) (t:=103) (elem:=3) (n:=1024) Er (λ_=>by kernel_rfl) (λ_=>by kernel_rfl) q10.1.1 q10.1.2 q10.2 w) []<|eT 2 [14,15] [(2,vi e),(3,vi s)]<|ar 4<|eT 2 [3] [(17,.bool (s==1))]<|qx h (λc11 h=>?_) (λc11 h=>?_)
  ·refine aJ 17 (zK c11)<|oo 5<|eH 3 [17] [(20,Vq tv)]<|have⟨ab,q13,h⟩:=h;hH 21 23 q13 [20] ?_
   obtain⟨ae,rfl,hb⟩:=h
   refine eH 2 [21] [(23,Vq ae)]<|have⟨aa,q14,h⟩:=hb;hH 24 49 q14 [23] ?_
   obtain⟨ac,rfl,hc⟩:=h
   refine eH 2 [24] [(26,Vq ac)] ?_
   obtain⟨z,q15,h⟩:=hc
   refine hH 27 52 q15 [26]<|eH 1 [2] [(28,vi e)]<|zC (some 29) h ?_;clear h
   rintro aj H3 ⟨ak,rfl,h⟩
   exact kc [27,28] []<|zq<|aA<|aC<|oo 6<|eT 2 [12] [(12,vi (zY (e+1)))]<|aR ((zY (e+1)):Int) sk h
  exact aK 17 (zJ c11)<|zp<|aA<|aC<|oo 6<|eT 2 [2,12,17] [(12,vi (zY (e+1)))]<|aR ((zY (e+1)):Int) sk h
 refine aK 13 (zQ c8)<|zk 0<|aB<|aB<|aN<|aC<|ge<|ar 7<|eH 3 [11,12,13] [(33,Vq (tv.add 1028))]<|have⟨xB,xN,xC,q16,h⟩:=h;hH 34 104 q16 [33]<|eT 2 [] [(35,vi xN),(36,vi 0)]<|p0 2<|have⟨ag,m34,i17,i18⟩:=h;bL (x:=Af) (σ:=Int) (λs_=> [(0,Vq tv),(34,vs xB xN xC),(35,vi xN),(36,vi s_)]) (λs_ H=>ag s_ H) (λs_ H=>m34 s_ H) (0:Int) (by kernel_rfl) i17 sk ?_
 rintro f H4 i19
 have h:=i18 f H4 i19
 refine nx [(0,Vq tv),(34,vs xB xN xC),(35,vi xN),(36,vi f)]<|ar 8<|eT 1 [] [(37,.bool (decide (f< (xN:Int))))]<|ge<|qx h (λc20 h=>?_) (λc20 h=>?_)
 ·refine aJ 37 (zX c20)<|nc<|ge<|p0 3<|ar 9<|yS [37] [] ?_
  obtain⟨j,rfl,q22,hd⟩:=h
  refine yI (some 38) 104 127 2 j xN xC .i64 f Et q22.1 q22.2 [34] [(34,vs (some j) xN xC),(38,Vq (j.add (Int.toNat f*2)))]<|have⟨q,m,q23,h⟩:=hd;zN 39 127 q23 [38]<|t1 (some 5) (λb=>vp (pa b)) (.cells #[vi 0,vi 0] 127)<|λb H5 e24 e25=>have h:=h b H5 e24 e25;kc [] [(5,vp (pa b))]<|have⟨q27,h⟩:=h;fN 127 [vi q,vi m] q27<|λH6 e26=>have h:=h H6 e26;kc [39] []<|yH ?_
  obtain⟨ai,q28,o,rfl,r,q29,p,q30,u,q31,he⟩:=h
  refine yq 10 (Code.ops Bj) [(11,tv,[Vq o]),(11,o,[vp r]),(11,(ad b),[vi p]),(11,((ad b).add 1),[vi u])] 12 (bv 12 0) (show aE _ _ _ from⟨⟨q28,EO⟩,⟨q29,EO⟩,⟨q30,EO⟩,⟨q31,EO⟩,EO⟩)<|zr 0 (some 40) (Vq tv) (bv 12 1) [(0,Vq tv),(5,vp (pa b)),(34,vs (some j) xN xC),(35,vi xN),(36,vi f),(40,Vq tv)]<|aG 1 41 (Vq tv) (bv 12 3) [40]<|aG 2 42 (Vq tv) (bv 12 7) [41]<|kT 3 43 (Vq o) (bv 12 15) [42] (aQ 23 (Vq tv)) (yY 11 yX)<|aG 4 44 (Vq o) (bv 12 31) [43]<|aG 5 45 (Vq o) (bv 12 63) [44]<|kT 6 46 (vp r) (bv 12 127) [45] (aQ 49 (Vq o)) (yY 11 yQ)<|aG 7 47 (vp (pa b)) (bv 12 255) []<|kT 8 48 (vi p) (bv 12 511) [47] (aQ 3 (vp (pa b))) (yY 11 yJ)<|aG 9 49 (Vq ((ad b).add 1)) (bv 12 1023) [5]<|kT 10 50 (vi u) (bv 12 2047) [49] (aQ 3 (Vq ((ad b).add 1))) (yY 11 yK)<|yx 11 (some 51) (bv 12 4095) 64 #[vp r,vi p,vi u] he ?_;clear he
  rintro al H7 ⟨ah,rfl,h⟩
  refine⟨[(0,Vq tv),(34,vs (some j) xN xC),(35,vi xN),(36,vi f)],pk,(show aE _ _ _ from⟨EO,EO,EO,EO,EO⟩),?_⟩
  exact eq [(0,Vq tv),(34,vs (some j) xN xC),(35,vi xN),(36,vi f)] sk<|yz<|aA<|aC<|oo 11<|u5 2 [(0,Vq tv),(34,vs (some j) xN xC),(35,vi xN),(36,vi (zY (f+1)))]<|aR ((zY (f+1)):Int) sk h
 refine aK 37 (zQ c20)<|zk 2<|aB<|aB<|aN<|aC<|ar 12<|va 3 [(0,Vq tv),(55,Vq tv)] ?_
 obtain⟨y,q32,h⟩:=h
 refine hH 56 23 q32 [55]<|zC (some 57) h ?_;clear h
 refine λv_4 H8 h=>kc [56] []<|yH<|oo 13<|va 3 [(60,Vq (tv.add 1029))]<|have⟨q34,h⟩:=h;eQ 3 (vi 1) q34<|λH9 e33=>have h:=h H9 e33;⟨[],pk,?_⟩
 exact zq<|gH (fn:=f16) [] hQ (show bV _ _ _ [] _ from .nil) h
theorem dI.linkD{tv:zW}{H:zV}{R:zv}(h:pt tv H R):CD tv H (λH=> ∃v,R v H):=by
 refine vJ (fn:=f16) (c:=K0) 61 func16 (by kernel_rfl) (by kernel_rfl) (Nat.le_of_ble_eq_true (by kernel_rfl)) ?_
 intro w0 Q hQ
 unfold pt zY at h
 refine nx [(0,vp tv)]<|ge<|ar 0<|eH 1 [] [(6,vp tv)]<|sv 7 [6] h λx H1 h=>yH<|qx h (λc1 h=>?_) (λc1 h=>?_)
 ·refine aJ 7 c1<|zx ?_
  show At _ _ _ _ _ (Q .ret)
  exact wU (fn:=f16) [] hQ (show bV _ _ _ [] _ from .nil) h
 refine aK 7 (zZ c1)<|nc<|ge<|ar 1<|eH 1 [7] [(8,vp tv)] ?_
 obtain⟨d,rfl,ha⟩:=h
 refine va 2 [(0,Vq d),(10,Vq (d.add 2))] ?_
 obtain⟨g,l4,q3,h⟩:=ha
 refine zd 11 (aQ 103 (Vq (d.add 2))) (.agg (g).toArray) (ke (eR (λ_=>by kernel_rfl) (λw=>by rw[l4];kernel_rfl) q3)) [10]<|eT 1 [] [(12,vi 0)]<|p0 0 ?_
 refine have⟨af,m13,i5,i6⟩:=h;bL (x:=zy) (σ:=Int) (λs_=> [(0,Vq d),(11,.agg (g).toArray),(12,vi s_)]) (λs_ H=>af s_ H) (λs_ H=>m13 s_ H) (0:Int) (by kernel_rfl) i5 sk ?_
 rintro e H2 i7
 have h:=i6 e H2 i7
 refine nx [(0,Vq d),(11,.agg (g).toArray),(12,vi e)]<|ar 2<|eT 1 [] [(13,.bool (decide (e<1024)))]<|ge<|qx h (λc8 h=>?_) (λc8 h=>?_)
 ·refine aJ 13 (zX c8)<|nc<|ge<|p0 1<|ar 3<|eH 1 [13] [(14,vi e)]<|have⟨s,q10,h⟩:=h;zd 15 (mL 103 (.agg (g).toArray) (vi e)) (vi s) (λw _=>kf (P:=prog) (t:=103) (elem:=3) (n:=1024) Er (λ_=>by kernel_rfl) (λ_=>by kernel_rfl) q10.1.1 q10.1.2 q10.2 w) []<|eT 2 [14,15] [(2,vi e),(3,vi s)]<|ar 4<|eT 2 [3] [(17,.bool (s==1))]<|qx h (λc11 h=>?_) (λc11 h=>?_)
  ·refine aJ 17 (zK c11)<|oo 5<|eH 3 [17] [(20,Vq d)]<|have⟨ab,q13,h⟩:=h;hH 21 23 q13 [20] ?_
   obtain⟨ae,rfl,hb⟩:=h
   refine eH 2 [21] [(23,Vq ae)]<|have⟨aa,q14,h⟩:=hb;hH 24 49 q14 [23] ?_
   obtain⟨ac,rfl,hc⟩:=h
   refine eH 2 [24] [(26,Vq ac)] ?_
   obtain⟨z,q15,h⟩:=hc
   refine hH 27 52 q15 [26]<|eH 1 [2] [(28,vi e)]<|zC (some 29) h ?_;clear h
   rintro aj H3 ⟨ak,rfl,h⟩
   exact kc [27,28] []<|zq<|aA<|aC<|oo 6<|eT 2 [12] [(12,vi (zY (e+1)))]<|aR ((zY (e+1)):Int) sk h
  exact aK 17 (zJ c11)<|zp<|aA<|aC<|oo 6<|eT 2 [2,12,17] [(12,vi (zY (e+1)))]<|aR ((zY (e+1)):Int) sk h
 refine aK 13 (zQ c8)<|zk 0<|aB<|aB<|aN<|aC<|ge<|ar 7<|eH 3 [11,12,13] [(33,Vq (d.add 1028))]<|have⟨xB,xN,xC,q16,h⟩:=h;hH 34 104 q16 [33]<|eT 2 [] [(35,vi xN),(36,vi 0)]<|p0 2<|have⟨ag,m34,i17,i18⟩:=h;bL (x:=Af) (σ:=Int) (λs_=> [(0,Vq d),(34,vs xB xN xC),(35,vi xN),(36,vi s_)]) (λs_ H=>ag s_ H) (λs_ H=>m34 s_ H) (0:Int) (by kernel_rfl) i17 sk ?_
 rintro f H4 i19
 have h:=i18 f H4 i19
 refine nx [(0,Vq d),(34,vs xB xN xC),(35,vi xN),(36,vi f)]<|ar 8<|eT 1 [] [(37,.bool (decide (f< (xN:Int))))]<|ge<|qx h (λc20 h=>?_) (λc20 h=>?_)
 ·refine aJ 37 (zX c20)<|nc<|ge<|p0 3<|ar 9<|yS [37] [] ?_
  obtain⟨j,rfl,q22,hd⟩:=h
  refine yI (some 38) 104 127 2 j xN xC .i64 f Et q22.1 q22.2 [34] [(34,vs (some j) xN xC),(38,Vq (j.add (Int.toNat f*2)))]<|have⟨q,m,q23,h⟩:=hd;zN 39 127 q23 [38]<|t1 (some 5) (λb=>vp (pa b)) (.cells #[vi 0,vi 0] 127)<|λb H5 e24 e25=>have h:=h b H5 e24 e25;kc [] [(5,vp (pa b))]<|have⟨q27,h⟩:=h;fN 127 [vi q,vi m] q27<|λH6 e26=>have h:=h H6 e26;kc [39] []<|yH ?_
  obtain⟨ai,q28,o,rfl,r,q29,p,q30,u,q31,he⟩:=h
  refine yq 10 (Code.ops Bj) [(11,d,[Vq o]),(11,o,[vp r]),(11,(ad b),[vi p]),(11,((ad b).add 1),[vi u])] 12 (bv 12 0) (show aE _ _ _ from⟨⟨q28,EO⟩,⟨q29,EO⟩,⟨q30,EO⟩,⟨q31,EO⟩,EO⟩)<|zr 0 (some 40) (Vq d) (bv 12 1) [(0,Vq d),(5,vp (pa b)),(34,vs (some j) xN xC),(35,vi xN),(36,vi f),(40,Vq d)]<|aG 1 41 (Vq d) (bv 12 3) [40]<|aG 2 42 (Vq d) (bv 12 7) [41]<|kT 3 43 (Vq o) (bv 12 15) [42] (aQ 23 (Vq d)) (yY 11 yX)<|aG 4 44 (Vq o) (bv 12 31) [43]<|aG 5 45 (Vq o) (bv 12 63) [44]<|kT 6 46 (vp r) (bv 12 127) [45] (aQ 49 (Vq o)) (yY 11 yQ)<|aG 7 47 (vp (pa b)) (bv 12 255) []<|kT 8 48 (vi p) (bv 12 511) [47] (aQ 3 (vp (pa b))) (yY 11 yJ)<|aG 9 49 (Vq ((ad b).add 1)) (bv 12 1023) [5]<|kT 10 50 (vi u) (bv 12 2047) [49] (aQ 3 (Vq ((ad b).add 1))) (yY 11 yK)<|yx 11 (some 51) (bv 12 4095) 64 #[vp r,vi p,vi u] he ?_;clear he
  rintro al H7 ⟨ah,rfl,h⟩
  refine⟨[(0,Vq d),(34,vs (some j) xN xC),(35,vi xN),(36,vi f)],pk,(show aE _ _ _ from⟨EO,EO,EO,EO,EO⟩),?_⟩
  exact eq [(0,Vq d),(34,vs (some j) xN xC),(35,vi xN),(36,vi f)] sk<|yz<|aA<|aC<|oo 11<|u5 2 [(0,Vq d),(34,vs (some j) xN xC),(35,vi xN),(36,vi (zY (f+1)))]<|aR ((zY (f+1)):Int) sk h
 refine aK 37 (zQ c20)<|zk 2<|aB<|aB<|aN<|aC<|ar 12<|va 3 [(0,Vq d),(55,Vq d)] ?_
 obtain⟨y,q32,h⟩:=h
 refine hH 56 23 q32 [55]<|zC (some 57) h ?_;clear h
 refine λv_4 H8 h=>kc [56] []<|yH<|oo 13<|va 3 [(60,Vq (d.add 1029))]<|have⟨q34,h⟩:=h;eQ 3 (vi 1) q34<|λH9 e33=>have h:=h H9 e33;⟨[],pk,?_⟩
 exact zq<|vK (fn:=f16) [] hQ (show bV _ _ _ [] _ from .nil) h
end Go.Proofs.YtfhbhckhmnleoaaGreat
namespace Go.Proofs.YtfhbhckhmnleoaaGreat
open Go Go.Proofs.Tryz
open Int(tdiv)
variable{H:zV}{d:zW}{R:zv}{i:Int}
namespace dP
def K0:=EP f27
def K2:=cb K0
def K8:=cb K2
def K9:=ca K8
def zS:=ca K9
def zy:=cb zS
def Ab:=cb zy
def Aa:=ca Ab
def Ar:=ca Aa
def AP:=cb Ar
def Au:=ca AP
end dP
def dP.pt(tv:zW)(H:zV)(R:zv):=
 bM.C tv H (λv H1=> ∃x,v=.bool x/\
 if x=true then(
 R (.tuple #[]) H1)
 else
 ∃d,tv=some d/\
 ∃xB xN xC,hat H1 (d.add 1028)=some (vs xB xN xC)/\
 ∃(a1:zw) (m11:Int->zV->Nat),a1 0 H1/\ ∀e H2,a1 e H2->
 if e< (xN:Int)then(
 ∃f,xB=some f/\
 yZ e xN/\
 ∃av ao,aL H2 (f.add (Int.toNat e*2)) 0 [vi av,vi ao]/\
 ∀b H3,b=H2.size->H3=H2.push (.cells #[vi 0,vi 0] 127)->
 (aH H3 (ad b) 0 2)/\ ∀H4,H4=aP H3 (ad b) [vi av,vi ao] 0->
 ∃a4,hat H4 d=some (vp a4)/\
 ∃an,a4=some an/\
 ∃a5,hat H4 an=some (vp a5)/\
 ∃ak,a5=some ak/\
 ∃a6,hat H4 ak=some (vp a6)/\
 ∃al,a6=some al/\
 ∃au,hat H4 al=some (vp au)/\
 ∃ax,hat H4 (ad b)=some (vi ax)/\
 (
 bB.C au ax H4 (λa8 H5=> ∃aa y am q r o p rb,a8=.tuple #[.agg #[vi aa,vi y,vi am,vi q,vi r,vi o,vi p],.bool rb]/\
 ∀ac H6,ac=H5.size->H6=H5.push (.cells #[vi 0,vi 0,vi 0,vi 0,vi 0,vi 0,vi 0] 108)->
 (aH H6 (ad ac) 0 7)/\ ∀H7,H7=aP H6 (ad ac) [vi aa,vi y,vi am,vi q,vi r,vi o,vi p] 0->
 ∃aq,hat H7 (ad b)=some (vi aq)/\
 ∃aw,hat H7 ((ad b).add 1)=some (vi aw)/\
 ∃ap,hat H7 ((ad ac).add 2)=some (vi ap)/\
 ∃ah,hat H7 ((ad b).add 1)=some (vi ah)/\
 ∃a0,hat H7 ((ad ac).add 1)=some (vi a0)/\
 cJ.C (some d) aq (zY (aw*16)) (if(zY ((zY (ah+1))*16))<ap then(zY ((zY (ah+1))*16))else ap) a0 H7 (λ_ H8=>
 (a1 (zY (e+1)) H8/\m11 (zY (e+1)) H8<m11 e H2))))/\(
 ∀z H9,z=H4.size->H9=H4.push (.cells #[vi 0,vi 0,vi 0,vi 0,vi 0,vi 0,vi 0] 108)->aL H9 d 0 [Vq an]/\aL H9 an 0 [Vq ak]/\aL H9 ak 0 [Vq al]/\aL H9 al 0 [vp au]/\aL H9 (ad b) 0 [vi ax]/\
 bB.C au ax H9 (λa7 a2=> ∃u s ab j m g n ag,a7=.tuple #[.agg #[vi u,vi s,vi ab,vi j,vi m,vi g,vi n],.bool ag]/\
 (aH a2 (ad z) 0 7)/\ ∀ay,ay=aP a2 (ad z) [vi u,vi s,vi ab,vi j,vi m,vi g,vi n] 0->
 ∃af,hat ay (ad b)=some (vi af)/\
 ∃ai,hat ay ((ad b).add 1)=some (vi ai)/\
 ∃ae,hat ay ((ad z).add 2)=some (vi ae)/\
 ∃aj,hat ay ((ad b).add 1)=some (vi aj)/\
 ∃az,hat ay ((ad z).add 1)=some (vi az)/\
 cJ.C (some d) af (zY (ai*16)) (if(zY ((zY (aj+1))*16))<ae then(zY ((zY (aj+1))*16))else ae) az ay (λ_ a3=>
 (a1 (zY (e+1)) a3/\m11 (zY (e+1)) a3<m11 e H2)))))
 else
 R (.tuple #[]) H2)
theorem dP.link(h:pt d H R):C d H R:=by
 refine sa K0 53 func27 ?_
 intro w0 Q hQ
 unfold pt zY at h
 refine nx [(0,vp d)]<|ge<|ar 0<|eH 1 [] [(6,vp d)]<|sv 7 [6] h λx H1 h=>yH<|qx h (λc1 h=>?_) (λc1 h=>?_)
 ·exact aJ 7 c1<|hX [] [] hQ h
 refine aK 7 (zZ c1)<|nc<|ar 1<|eH 1 [7] [(8,vp d)] ?_
 obtain⟨tv,rfl,ha⟩:=h
 refine va 2 [(0,Vq tv),(10,Vq (tv.add 1028))]<|have⟨xB,xN,xC,q3,h⟩:=ha;hH 11 104 q3 [10]<|eT 2 [] [(12,vi xN),(13,vi 0)]<|p0 0<|have⟨a1,m11,i4,i5⟩:=h;bL (x:=zS) (σ:=Int) (λs_=> [(0,Vq tv),(11,vs xB xN xC),(12,vi xN),(13,vi s_)]) (λs_ H=>a1 s_ H) (λs_ H=>m11 s_ H) (0:Int) (by kernel_rfl) i4 sk ?_
 rintro e H2 i6
 have h:=i5 e H2 i6
 refine nx [(0,Vq tv),(11,vs xB xN xC),(12,vi xN),(13,vi e)]<|ar 2<|eT 1 [] [(14,.bool (decide (e< (xN:Int))))]<|ge<|qx h (λc7 h=>?_) (λc7 h=>?_)
 ·refine aJ 14 (zX c7)<|nc<|ge<|p0 1<|ar 3<|yS [14] [] ?_
  obtain⟨f,rfl,q9,hb⟩:=h
  refine yI (some 15) 104 127 2 f xN xC .i64 e Et q9.1 q9.2 [11] [(11,vs (some f) xN xC),(15,Vq (f.add (Int.toNat e*2)))]<|have⟨av,ao,q10,h⟩:=hb;zN 16 127 q10 [15]<|t1 (some 3) (λb=>vp (pa b)) (.cells #[vi 0,vi 0] 127)<|λb H3 e11 e12=>have h:=h b H3 e11 e12;kc [] [(3,vp (pa b))]<|have⟨q14,h⟩:=h;fN 127 [vi av,vi ao] q14<|λH4 e13=>have h:=h H4 e13;kc [16] []<|yH<|ge ?_
  obtain⟨a4,q15,an,rfl,a5,q16,ak,rfl,a6,q17,al,rfl,au,q18,ax,q19,hc⟩:=h
  have h:=hc
  refine yq 4 (Code.ops Au) [(15,tv,[Vq an]),(15,an,[Vq ak]),(15,ak,[Vq al]),(15,al,[vp au]),(15,(ad b),[vi ax])] 22 (bv 22 0) (show aE _ _ _ from⟨⟨q15,EO⟩,⟨q16,EO⟩,⟨q17,EO⟩,⟨q18,EO⟩,⟨q19,EO⟩,EO⟩)<|zr 0 (some 18) (Vq tv) (bv 22 1) [(0,Vq tv),(3,vp (pa b)),(11,vs (some f) xN xC),(12,vi xN),(13,vi e),(18,Vq tv)]<|aG 1 19 (Vq tv) (bv 22 3) [18]<|aG 2 20 (Vq tv) (bv 22 7) [19]<|kT 3 21 (Vq an) (bv 22 15) [20] (aQ 23 (Vq tv)) (yY 15 yX)<|aG 4 22 (Vq an) (bv 22 31) [21]<|aG 5 23 (Vq an) (bv 22 63) [22]<|kT 6 24 (Vq ak) (bv 22 127) [23] (aQ 49 (Vq an)) (yY 15 yQ)<|aG 7 25 (Vq ak) (bv 22 255) [24]<|aG 8 26 (Vq ak) (bv 22 511) [25]<|kT 9 27 (Vq al) (bv 22 1023) [26] (aQ 52 (Vq ak)) (yY 15 yJ)<|aG 10 28 (Vq al) (bv 22 2047) [27]<|aG 11 29 (Vq al) (bv 22 4095) [28]<|kT 12 30 (vp au) (bv 22 8191) [29] (aQ 78 (Vq al)) (yY 15 yK)<|aG 13 31 (vp (pa b)) (bv 22 16383) []<|kT 14 32 (vi ax) (bv 22 32767) [31] (aQ 3 (vp (pa b))) (yY 15 yV)<|pF 15 19 (by kernel_rfl) ?fa1 ?fb1
  case' fa1=>
   replace h:=h.1
   refine pG 15 (some 33) (bv 22 65535) 47 #[vp au,vi ax] (by kernel_rfl) (λ_=>by kernel_rfl) h (by kernel_rfl) ?_;clear h
   rintro a8 H5 ⟨aa,y,am,q,r,o,p,rb,rfl,h⟩
   refine⟨[(0,Vq tv),(3,vp (pa b)),(11,vs (some f) xN xC),(12,vi xN),(13,vi e),(33,.tuple #[.agg #[vi aa,vi y,vi am,vi q,vi r,vi o,vi p],.bool rb])],pk,(show aE _ _ _ from⟨EO,EO,EO,EO,EO,EO⟩),?_⟩
   refine zB 16 (some 17) (.tuple #[.agg #[vi aa,vi y,vi am,vi q,vi r,vi o,vi p],.bool rb]) (bv 22 131071) [(0,Vq tv),(3,vp (pa b)),(11,vs (some f) xN xC),(12,vi xN),(13,vi e),(17,.tuple #[.agg #[vi aa,vi y,vi am,vi q,vi r,vi o,vi p],.bool rb])] (pure (.value (.tuple #[.agg #[vi aa,vi y,vi am,vi q,vi r,vi o,vi p],.bool rb])):Sem Next) (λ_ _ _ _ _=>rfl)<|kT 17 34 (.agg #[vi aa,vi y,vi am,vi q,vi r,vi o,vi p]) (bv 22 262143) [] (pure (.value (.agg #[vi aa,vi y,vi am,vi q,vi r,vi o,vi p])):Sem Next) (λ_ _ _ _ _=>rfl)<|kT 18 35 (.bool rb) (bv 22 524287) [17] (pure (.value (.bool rb)):Sem Next) (λ_ _ _ _ _=>rfl)<|mO 19 (some 4) (bv 22 1048575) (λb=>vp (pa b)) (.cells #[vi 0,vi 0,vi 0,vi 0,vi 0,vi 0,vi 0] 108) (by kernel_rfl) (λ_=>by kernel_rfl) (by kernel_rfl)<|λac H6 e20 e21=>have h:=h ac H6 e20 e21;⟨[(0,Vq tv),(3,vp (pa b)),(4,vp (pa ac)),(11,vs (some f) xN xC),(12,vi xN),(13,vi e),(34,.agg #[vi aa,vi y,vi am,vi q,vi r,vi o,vi p]),(35,.bool rb)],pk,(show aE _ _ _ from⟨EO,EO,EO,EO,EO,EO⟩),?_⟩
  case' fb1=>
   refine have h:=h.2;su 19 (some 4) (bv 22 557055) (λb=>vp (pa b)) (.cells #[vi 0,vi 0,vi 0,vi 0,vi 0,vi 0,vi 0] 108) (by kernel_rfl) (λ_=>by kernel_rfl) (by kernel_rfl)<|λac H9 e34 e35=>have h:=h ac H9 e34 e35;have⟨f29,f30,f31,f32,f33,h⟩:=h;⟨[(0,Vq tv),(3,vp (pa b)),(4,vp (pa ac)),(11,vs (some f) xN xC),(12,vi xN),(13,vi e),(30,vp au),(32,vi ax)],pk,(show aE _ _ _ from⟨f29,f30,f31,f32,f33,EO⟩),?_⟩
   refine yx 15 (some 33) (bv 22 589823) 47 #[vp au,vi ax] h ?_;clear h
   rintro a7 H6 ⟨aa,y,am,q,r,o,p,rb,rfl,h⟩
   refine⟨[(0,Vq tv),(3,vp (pa b)),(4,vp (pa ac)),(11,vs (some f) xN xC),(12,vi xN),(13,vi e),(33,.tuple #[.agg #[vi aa,vi y,vi am,vi q,vi r,vi o,vi p],.bool rb])],pk,(show aE _ _ _ from⟨EO,EO,EO,EO,EO,EO⟩),?_⟩
   refine zB 16 (some 17) (.tuple #[.agg #[vi aa,vi y,vi am,vi q,vi r,vi o,vi p],.bool rb]) (bv 22 655359) [(0,Vq tv),(3,vp (pa b)),(4,vp (pa ac)),(11,vs (some f) xN xC),(12,vi xN),(13,vi e),(17,.tuple #[.agg #[vi aa,vi y,vi am,vi q,vi r,vi o,vi p],.bool rb])] (pure (.value (.tuple #[.agg #[vi aa,vi y,vi am,vi q,vi r,vi o,vi p],.bool rb])):Sem Next) (λ_ _ _ _ _=>rfl)<|kT 17 34 (.agg #[vi aa,vi y,vi am,vi q,vi r,vi o,vi p]) (bv 22 786431) [] (pure (.value (.agg #[vi aa,vi y,vi am,vi q,vi r,vi o,vi p])):Sem Next) (λ_ _ _ _ _=>rfl)<|kT 18 35 (.bool rb) (bv 22 1048575) [17] (pure (.value (.bool rb)):Sem Next) (λ_ _ _ _ _=>rfl) ?_
  all_goals
   refine have⟨q23,h⟩:=h;fH 20 none (bv 22 2097151) (jJ 108 (vp (pa ac)) (.agg #[vi aa,vi y,vi am,vi q,vi r,vi o,vi p])) (λHz=>Hz=aP H6 (ad ac) [vi aa,vi y,vi am,vi q,vi r,vi o,vi p] 0) (by kernel_rfl) (λ_=>by kernel_rfl) (iR [vi aa,vi y,vi am,vi q,vi r,vi o,vi p] 7 (by kernel_rfl) (by kernel_rfl) (λ_=>by kernel_rfl) (by kernel_rfl) q23) (by kernel_rfl)<|λH7 e22=>have h:=h H7 e22;⟨[(0,Vq tv),(3,vp (pa b)),(4,vp (pa ac)),(11,vs (some f) xN xC),(12,vi xN),(13,vi e),(35,.bool rb)],pk,(show aE _ _ _ from⟨EO,EO,EO,EO,EO,EO⟩),?_⟩
   refine zB 21 (some 5) (.bool rb) (bv 22 4194303) [(0,Vq tv),(3,vp (pa b)),(4,vp (pa ac)),(11,vs (some f) xN xC),(12,vi xN),(13,vi e)] (pure (.value (.bool rb)):Sem Next) (λ_ _ _ _ _=>rfl)<|eq [(0,Vq tv),(3,vp (pa b)),(4,vp (pa ac)),(11,vs (some f) xN xC),(12,vi xN),(13,vi e)] sk<|yz<|aC<|oo 5<|va 2 [(0,Vq tv),(3,vp (pa b)),(4,vp (pa ac)),(11,vs (some f) xN xC),(12,vi xN),(13,vi e),(36,Vq tv),(37,vp (pa b))]<|have⟨aq,q24,h⟩:=h;hH 38 3 q24 [37]<|eH 1 [] [(39,Vq ((ad b).add 1))]<|have⟨aw,q25,h⟩:=h;hH 40 3 q25 [39]<|eH 2 [40] [(41,vi (zY (aw*16))),(42,Vq ((ad ac).add 2))]<|have⟨ap,q26,h⟩:=h;hH 43 3 q26 [42]<|eH 1 [3] [(44,Vq ((ad b).add 1))]<|have⟨ah,q27,h⟩:=h;hH 45 3 q27 [44]<|eH 4 [4,43,45] [(48,vi (if(zY ((zY (ah+1))*16))<ap then(zY ((zY (ah+1))*16))else ap)),(49,Vq ((ad ac).add 1))] ?_
   obtain⟨a0,q28,h⟩:=h
   refine hH 50 3 q28 [49]<|zC (some 51) h ?_;clear h
   exact λv_3 H8 h=>kc [36,38,41,48,50] []<|zq<|aA<|aC<|oo 6<|eT 2 [13] [(13,vi (zY (e+1)))]<|aR ((zY (e+1)):Int) sk h
 exact aK 14 (zQ c7)<|zk 0<|aB<|aB<|aN<|gH (fn:=f27) [] hQ (show bV _ _ _ [] _ from .nil) h
def bK.K0:=EP f28
def bK.pt(tv:zW)(wv:Int)(H:zV)(R:zv):=
 dJ.C tv wv H (λv H1=> ∃x,v=.bool x/\
 if x=true then(
 cY.C tv wv H1 (λa H2=> ∃ra rb,a=.tuple #[vu ra,.bool rb]/\
 R (.bool rb) H2))
 else
 R VT H1)
theorem bK.link(h:pt d i H R):C d i H R:=by
 refine sa K0 18 func28 ?_
 intro w0 Q hQ
 unfold pt at h
 refine nx [(0,vp d),(1,vu i)]<|ar 0<|eT 1 [] []<|ge<|ar 1<|eH 2 [] [(7,vp d),(8,vu i)]<|sv 9 [7,8] h λx H1 h=>eT 1 [9] [(10,.bool (!x))]<|qx h (λc1 h=>?_) (λc1 h=>?_)
 ·exact aK 10 (CJ Bool.not (c1))<|nc<|ar 3<|va 2 [(12,vp d),(13,vu i)]<|zI 14 (λra rb=>[(14,.tuple #[vu ra,.bool rb])]) h λra rb H2 h=>u5 5 [(6,.bool rb)]<|ar 4<|kb 2 [4] [.bool rb] hQ h
 exact aJ 10 (CJ Bool.not (zZ c1))<|ar 2<|kb 1 [4] [VT] hQ h
def dJ.K0:=EP Tryz.f29
def dJ.pt(tv:zW)(wv:Int)(H:zV)(R:zv):=
 gK.C wv H (λv H1=> ∃ra rb,v=.tuple #[vi ra,.bool rb]/\
 bM.C tv H1 (λf H2=> ∃x,f=.bool x/\
 if x=true then(
 R VF H2)
 else
 if rb=true then(
 cM.C wv H2 (λg H3=> ∃d,g=vi d/\
 if d=6 then(
 R VF H3)
 else
 ∃b,tv=some b/\
 ((0:Int)<=(zY (tdiv ra 64))/\(zY (tdiv ra 64))< (1024:Int))/\
 ∃e,hat H3 ((b.add 2).add (Int.toNat (zY (tdiv ra 64))*1))=some (vi e)/\
 R (.bool (e==1)) H3))
 else
 R VF H2))
theorem dJ.link(h:pt d i H R):C d i H R:=by
 refine sa K0 33 func29 ?_
 intro w0 Q hQ
 unfold pt zY at h
 refine nx [(0,vp d),(1,vu i)]<|ar 0<|eT 1 [] []<|ar 1<|eH 1 [] [(8,vu i)]<|yT 9 [8] h λra rb H1 h=>eT 5 [9] [(5,vi ra),(6,.bool rb)]<|ar 2<|eH 1 [] [(12,vp d)]<|sv 13 [12] h λx H2 h=>eH 2 [13] [(15,.bool (!x))]<|qx h (λc1 h=>?_) (λc1 h=>?_)
 ·have b2:(!x)=false:=CJ Bool.not (c1)
  have b22:x=true:=c1
  refine o0 15 (b:=(!x)) (v:=false) (by simp only[b2,b22,Da,C5]) ?_
  clear b2 b22
  exact kb 18 [4] [VF] hQ h
 have b2:(!x)=true:=CJ Bool.not (zZ c1)
 have b22:x=false:=zZ c1
 refine o0 15 (b:=(!x)) (v:=true) (by simp only[b2,b22,Da,C5]) ?_
 clear b2 b22
 refine eH 3 [6,15] [(18,.bool rb)]<|qx h (λc3 h=>?_) (λc3 h=>?_)
 ·refine o0 18 c3<|eH 1 [1] [(19,vu i)]<|sv 20 [19] h λwv H3 h=>eH 3 [18,20] [(23,.bool (wv !=6))]<|qx h (λc5 h=>?_) (λc5 h=>?_)
  ·exact o0 23 (CX.mpr c5)<|kb 10 [4] [VF] hQ h
  refine o0 23 (CY.mpr c5)<|eH 3 [0,5] [(24,vp d),(26,vi (zY (tdiv ra 64)))] ?_
  obtain⟨b,rfl,ha⟩:=h
  exact eH 2 [24] [(28,Vq (b.add 2))]<|have⟨q7,h⟩:=ha;zd 29 (bE 103 (Vq (b.add 2)) (vi (zY (tdiv ra 64)))) (vp (some ((b.add 2).add (Int.toNat (zY (tdiv ra 64))*1)))) (λw _=>bQ (P:=prog) (t:=103) (elem:=3) (sz:=1) (n:=1024) (a:=(b.add 2)) (k:=.i64) (i:=(zY (tdiv ra 64))) Er (λ_=>by kernel_rfl) q7.1 q7.2 w) [26,28]<|have⟨e,q8,h⟩:=h;hH 30 3 q8 [29]<|kb 3 [4] [.bool (e==1)] hQ h
 exact o0 18 (zZ c3)<|kb 15 [4] [VF] hQ h
namespace dQ
def K0:=EP Tryz.f32
def K2:=cb K0
def K4:=cb K2
def zy:=cb K4
def Ab:=cb zy
def Bs:=ca Ab
def Ay:=cb Ab
def Aa:=ca Bs
def An:=cb Bs
def Ar:=ca An
def Al:=ca Ar
def Au:=cb Al
def AW:=cb Au
def Aw:=ca AW
def Av:=ca Aw
def Ae:=cb Av
def Af:=cb Ae
def AV:=cb Af
def BJ:=ca AV
def Bm:=ca Ay
def AN:=cb Bm
def AE:=ca AN
def AG:=ca AE
def Bp:=cb AG
def BW:=cb Bp
def B7:=ca BW
def Cw:=ca B7
def BU:=cb Cw
def K55:=ca BU
end dQ
def dQ.pt(tv:zW)(H:zV)(R:zv):=
 bM.C tv H (λv H1=> ∃x,v=.bool x/\
 if x=true then(
 R VN H1)
 else
 ∀b H2,b=H1.size->H2=H1.push (.cells #[VN] 75)->
 ∃e,tv=some e/\
 ∃cj,hat H2 e=some (vp cj)/\
 ∃a8,cj=some a8/\
 ∃ck,hat H2 a8=some (vp ck)/\
 ∃ba,ck=some ba/\
 ∃co,hat H2 ba=some (vp co)/\
 ∃a9,co=some a9/\
 ∃bg,hat H2 a9=some (vp bg)/\
 ∃b1,hat H2 (e.add 1)=some (vi b1)/\
 ∀b7 H3,b7=H2.size->H3=H2.push (.cells #[vi b1] 3)->aL H3 e 0 [Vq a8]/\aL H3 a8 0 [Vq ba]/\aL H3 ba 0 [Vq a9]/\aL H3 a9 0 [vp bg]/\
 cH.C bg (some (ad b7)) 1 1 H3 (λcr H4=> ∃xB xN xC,cr=vs xB xN xC/\
 ∃(b6:zw) (m21:Int->zV->Nat),b6 0 H4/\ ∀o H5,b6 o H5->
 if o< (xN:Int)then(
 ∃af,xB=some af/\
 yZ o xN/\
 ∃p,hat H5 (af.add (Int.toNat o*1))=some (vi p)/\
 ∃b8,hat H5 e=some (vp b8)/\
 ∃cd,b8=some cd/\
 ∃b9,hat H5 cd=some (vp b9)/\
 ∃cc,b9=some cc/\
 ∃b5,hat H5 cc=some (vp b5)/\
 ∃b4,b5=some b4/\
 ∃bu,hat H5 b4=some (vp bu)/\
 bB.C bu p H5 (λcs H6=> ∃bc az bz an ao ap am rb,cs=.tuple #[.agg #[vi bc,vi az,vi bz,vi an,vi ao,vi ap,vi am],.bool rb]/\
 ∀ai H7,ai=H6.size->H7=H6.push (.cells #[vi 0,vi 0,vi 0,vi 0,vi 0,vi 0,vi 0] 108)->
 (aH H7 (ad ai) 0 7)/\ ∀H8,H8=aP H7 (ad ai) [vi bc,vi az,vi bz,vi an,vi ao,vi ap,vi am] 0->
 ∃bk,hat H8 ((ad ai).add 1)=some (vi bk)/\
 if bk=1 then(
 yZ p 1024/\
 ∃bm,hat H8 ((e.add 2).add (Int.toNat p*1))=some (vi bm)/\
 if bm=0 then(
 ∃bl,hat H8 (e.add 1026)=some (.map bl)/\
 ∃bn,hat H8 ((ad ai).add 2)=some (vi bn)/\
 ∃mr,bl=some mr/\
 ∃es cl ks,H8[mr]?=some (.map es cl)/\vb (aY .i64) es.toList ks/\
 ∃b0,(yG ks p).getD (vi 0)=vi b0/\
 aL H8 ((ad ai).add 2) 0 [vi bn]/\bN.C p b0 bn (some (ad b)) H8 (λ_ H9=>
 (b6 (zY (o+1)) H9/\m21 (zY (o+1)) H9<m21 o H5)))
 else
 (b6 (zY (o+1)) H8/\m21 (zY (o+1)) H8<m21 o H5))
 else
 (b6 (zY (o+1)) H8/\m21 (zY (o+1)) H8<m21 o H5)))
 else
 ∃a5 d f,hat H5 (e.add 1028)=some (vs a5 d f)/\
 ∃(b3:zw) (m44:Int->zV->Nat),b3 0 H5/\ ∀g H10,b3 g H10->
 if g< (d:Int)then(
 ∃j,a5=some j/\
 yZ g d/\
 ∃bo bb,aL H10 (j.add (Int.toNat g*2)) 0 [vi bo,vi bb]/\
 ∀m H11,m=H10.size->H11=H10.push (.cells #[vi 0,vi 0] 127)->
 (aH H11 (ad m) 0 2)/\ ∀bs,bs=aP H11 (ad m) [vi bo,vi bb] 0->
 ∃ce,hat bs e=some (vp ce)/\
 ∃ax,ce=some ax/\
 ∃cg,hat bs ax=some (vp cg)/\
 ∃aw,cg=some aw/\
 ∃ch,hat bs aw=some (vp ch)/\
 ∃ay,ch=some ay/\
 ∃a2,hat bs ay=some (vp a2)/\
 ∃be,hat bs (ad m)=some (vi be)/\
 (
 bB.C a2 be bs (λcq cm=> ∃aj ag aq q y s r a0,cq=.tuple #[.agg #[vi aj,vi ag,vi aq,vi q,vi y,vi s,vi r],.bool a0]/\
 ∀au H14,au=cm.size->H14=cm.push (.cells #[vi 0,vi 0,vi 0,vi 0,vi 0,vi 0,vi 0] 108)->
 (aH H14 (ad au) 0 7)/\ ∀br,br=aP H14 (ad au) [vi aj,vi ag,vi aq,vi q,vi y,vi s,vi r] 0->
 ∃bp,hat br ((ad au).add 1)=some (vi bp)/\
 if bp=1 then(
 ∃a4,hat br (ad m)=some (vi a4)/\
 ∃bf,hat br ((ad m).add 1)=some (vi bf)/\
 ∃a6,hat br ((ad au).add 2)=some (vi a6)/\
 ∃bh,hat br ((ad m).add 1)=some (vi bh)/\
 bN.C a4 (zY (bf*16)) (if(zY ((zY (bh+1))*16))<a6 then(zY ((zY (bh+1))*16))else a6) (some (ad b)) br (λ_ cn=>
 (b3 (zY (g+1)) cn/\m44 (zY (g+1)) cn<m44 g H10)))
 else
 (b3 (zY (g+1)) br/\m44 (zY (g+1)) br<m44 g H10)))/\(
 ∀al H17,al=bs.size->H17=bs.push (.cells #[vi 0,vi 0,vi 0,vi 0,vi 0,vi 0,vi 0] 108)->aL H17 e 0 [Vq ax]/\aL H17 ax 0 [Vq aw]/\aL H17 aw 0 [Vq ay]/\aL H17 ay 0 [vp a2]/\aL H17 (ad m) 0 [vi be]/\
 bB.C a2 be H17 (λct ci=> ∃ak ah av ab aa ac ae a3,ct=.tuple #[.agg #[vi ak,vi ah,vi av,vi ab,vi aa,vi ac,vi ae],.bool a3]/\
 (aH ci (ad al) 0 7)/\ ∀bq,bq=aP ci (ad al) [vi ak,vi ah,vi av,vi ab,vi aa,vi ac,vi ae] 0->
 ∃bj,hat bq ((ad al).add 1)=some (vi bj)/\
 if bj=1 then(
 ∃a1,hat bq (ad m)=some (vi a1)/\
 ∃bd,hat bq ((ad m).add 1)=some (vi bd)/\
 ∃a7,hat bq ((ad al).add 2)=some (vi a7)/\
 ∃bi,hat bq ((ad m).add 1)=some (vi bi)/\
 bN.C a1 (zY (bd*16)) (if(zY ((zY (bi+1))*16))<a7 then(zY ((zY (bi+1))*16))else a7) (some (ad b)) bq (λ_ cp=>
 (b3 (zY (g+1)) cp/\m44 (zY (g+1)) cp<m44 g H10)))
 else
 (b3 (zY (g+1)) bq/\m44 (zY (g+1)) bq<m44 g H10))))
 else
 ∃bw bx bt,hat H10 (ad b)=some (vs bw bx bt)/\
 R (vs bw bx bt) H10))
theorem dQ.link(h:pt d H R):C d H R:=by
 refine sa K0 129 func32 ?_
 intro w0 Q hQ
 unfold pt zY at h
 refine nx [(0,vp d)]<|ar 0<|eT 1 [] []<|ge<|ar 1<|eH 1 [] [(13,vp d)]<|sv 14 [13] h λx H1 h=>yH<|qx h (λc1 h=>?_) (λc1 h=>?_)
 ·exact aJ 14 c1<|ar 2<|kb 1 [2] [VN] hQ h
 refine aK 14 (zZ c1)<|nc<|ar 3<|yS [14] []<|t1 (some 3) (λb=>vp (pa b)) (.cells #[VN] 75)<|λb H2 e3 e4=>have h:=h b H2 e3 e4;kc [] [(3,vp (pa b))]<|yH<|ar 4<|eT 2 [] [(4,.func (.func 74) #[] #[vp (pa b)])]<|ge<|ge ?_
 obtain⟨e,rfl,cj,q5,a8,rfl,ck,q6,ba,rfl,co,q7,a9,rfl,bg,q8,b1,q9,ha⟩:=h
 refine yq 5 (Code.ops Aa) [(18,e,[Vq a8]),(18,a8,[Vq ba]),(18,ba,[Vq a9]),(18,a9,[vp bg]),(17,(e.add 1),[vi b1])] 21 (bv 21 0) (show aE _ _ _ from⟨⟨q5,EO⟩,⟨q6,EO⟩,⟨q7,EO⟩,⟨q8,EO⟩,⟨q9,EO⟩,EO⟩)<|zr 0 (some 16) (Vq e) (bv 21 1) [(0,Vq e),(3,vp (pa b)),(4,.func (.func 74) #[] #[vp (pa b)]),(16,Vq e)]<|aG 1 17 (Vq e) (bv 21 3) [16]<|aG 2 18 (Vq e) (bv 21 7) [17]<|kT 3 19 (Vq a8) (bv 21 15) [18] (aQ 23 (Vq e)) (yY 18 yX)<|aG 4 20 (Vq a8) (bv 21 31) [19]<|aG 5 21 (Vq a8) (bv 21 63) [20]<|kT 6 22 (Vq ba) (bv 21 127) [21] (aQ 49 (Vq a8)) (yY 18 yQ)<|aG 7 23 (Vq ba) (bv 21 255) [22]<|aG 8 24 (Vq ba) (bv 21 511) [23]<|kT 9 25 (Vq a9) (bv 21 1023) [24] (aQ 52 (Vq ba)) (yY 18 yJ)<|aG 10 26 (Vq a9) (bv 21 2047) [25]<|aG 11 27 (Vq a9) (bv 21 4095) [26]<|kT 12 28 (vp bg) (bv 21 8191) [27] (aQ 78 (Vq a9)) (yY 18 yK)<|aG 13 29 (Vq e) (bv 21 16383) []<|aG 14 30 (Vq e) (bv 21 32767) [29]<|aG 15 31 (Vq (e.add 1)) (bv 21 65535) [30]<|kT 16 32 (vi b1) (bv 21 131071) [31] (aQ 3 (Vq (e.add 1))) (yY 17 yV)<|aG 20 36 (vi 0) (bv 21 1179647) []<|mO 17 (some 33) (bv 21 1310719) (λb=>vs (pa b) 1 1) (.cells #[vi b1] 3) (by kernel_rfl) (λ_=>by kernel_rfl) (by kernel_rfl)<|λb7 H3 e14 e15=>have h:=ha b7 H3 e14 e15;have⟨f10,f11,f12,f13,h⟩:=h;⟨[(0,Vq e),(3,vp (pa b)),(4,.func (.func 74) #[] #[vp (pa b)]),(28,vp bg),(33,vs (pa b7) 1 1),(36,vi 0)],pk,(show aE _ _ _ from⟨f10,f11,f12,f13,EO,EO⟩),?_⟩
 refine yx 18 (some 34) (bv 21 1572863) 45 #[vp bg,vs (pa b7) 1 1] h ?_;clear h
 rintro cr H4 ⟨xB,xN,xC,rfl,h⟩
 refine⟨[(0,Vq e),(3,vp (pa b)),(4,.func (.func 74) #[] #[vp (pa b)]),(34,vs xB xN xC),(36,vi 0)],pk,(show aE _ _ _ from⟨EO,EO,EO,EO,EO,EO⟩),?_⟩
 refine zB 19 (some 35) (vi xN) (bv 21 2097151) [(0,Vq e),(3,vp (pa b)),(4,.func (.func 74) #[] #[vp (pa b)]),(34,vs xB xN xC),(35,vi xN),(36,vi 0)] (pure (.value (vi xN)):Sem Next) (λ_ _ _ _ _=>rfl)<|eq [(0,Vq e),(3,vp (pa b)),(4,.func (.func 74) #[] #[vp (pa b)]),(34,vs xB xN xC),(35,vi xN),(36,vi 0)] sk<|yz<|aC<|p0 0<|have⟨b6,m21,i16,i17⟩:=h;bL (x:=Al) (σ:=Int) (λs_=> [(0,Vq e),(3,vp (pa b)),(4,.func (.func 74) #[] #[vp (pa b)]),(34,vs xB xN xC),(35,vi xN),(36,vi s_)]) (λs_ H=>b6 s_ H) (λs_ H=>m21 s_ H) (0:Int) (by kernel_rfl) i16 sk ?_
 rintro o H5 i18
 have h:=i17 o H5 i18
 refine nx [(0,Vq e),(3,vp (pa b)),(4,.func (.func 74) #[] #[vp (pa b)]),(34,vs xB xN xC),(35,vi xN),(36,vi o)]<|ar 6<|eT 1 [] [(37,.bool (decide (o< (xN:Int))))]<|ge<|qx h (λc19 h=>?_) (λc19 h=>?_)
 ·refine aJ 37 (zX c19)<|nc<|ge<|p0 1<|ar 7<|yS [37] [] ?_
  obtain⟨af,rfl,q21,hb⟩:=h
  refine yI (some 38) 75 3 1 af xN xC .i64 o C3 q21.1 q21.2 [34] [(34,vs (some af) xN xC),(38,Vq (af.add (Int.toNat o*1)))]<|have⟨p,q22,h⟩:=hb;hH 39 3 q22 [38]<|eT 1 [39] [(6,vi p)]<|ar 8<|eH 3 [] [(43,Vq e)]<|have⟨b8,q23,h⟩:=h;hH 44 23 q23 [43] ?_
  obtain⟨cd,rfl,hc⟩:=h
  refine eH 2 [44] [(46,Vq cd)]<|have⟨b9,q24,h⟩:=hc;hH 47 49 q24 [46] ?_
  obtain⟨cc,rfl,hd⟩:=h
  refine eH 2 [47] [(49,Vq cc)]<|have⟨b5,q25,h⟩:=hd;hH 50 52 q25 [49] ?_
  obtain⟨b4,rfl,he⟩:=h
  refine eH 2 [50] [(52,Vq b4)]<|have⟨bu,q26,h⟩:=he;hH 53 78 q26 [52]<|eH 1 [] [(54,vi p)]<|zU 55 [53,54] h λbc az bz an ao ap am rb H6 h=>eH 3 [55] [(56,.agg #[vi bc,vi az,vi bz,vi an,vi ao,vi ap,vi am]),(57,.bool rb)]<|t1 (some 7) (λb=>vp (pa b)) (.cells #[vi 0,vi 0,vi 0,vi 0,vi 0,vi 0,vi 0] 108)<|λai H7 e27 e28=>have h:=h ai H7 e27 e28;kc [] [(7,vp (pa ai))]<|have⟨q30,h⟩:=h;fN 108 [vi bc,vi az,vi bz,vi an,vi ao,vi ap,vi am] q30<|λH8 e29=>have h:=h H8 e29;kc [56] []<|eT 1 [57] []<|ar 9<|eH 1 [] [(58,Vq ((ad ai).add 1))]<|have⟨bk,q31,h⟩:=h;hH 59 3 q31 [58]<|eH 2 [59] [(61,.bool (bk==1))]<|qx h (λc32 h=>?_) (λc32 h=>?_)
  ·refine o0 61 (zK c32)<|eH 4 [] [(63,vi p),(65,Vq (e.add 2))]<|have⟨q34,h⟩:=h;zd 66 (bE 103 (Vq (e.add 2)) (vi p)) (Vq ((e.add 2).add (Int.toNat p*1))) (λw _=>bQ (P:=prog) (t:=103) (elem:=3) (sz:=1) (n:=1024) (a:=(e.add 2)) (k:=.i64) (i:=p) Er (λ_=>by kernel_rfl) q34.1 q34.2 w) [63,65]<|have⟨bm,q35,h⟩:=h;hH 67 3 q35 [66]<|eT 2 [61,67] [(69,.bool (bm==0))]<|qx h (λc36 h=>?_) (λc36 h=>?_)
   ·refine aJ 69 (zK c36)<|have⟨bl,q38,bn,q39,h⟩:=h;yq 10 (Code.ops BJ) [(7,(e.add 1026),[.map bl]),(10,((ad ai).add 2),[vi bn])] 11 (bv 11 0) (show aE _ _ _ from⟨⟨q38,EO⟩,⟨q39,EO⟩,EO⟩)<|zr 0 (some 70) (.func (.func 74) #[] #[vp (pa b)]) (bv 11 1) [(0,Vq e),(3,vp (pa b)),(4,.func (.func 74) #[] #[vp (pa b)]),(6,vi p),(7,vp (pa ai)),(34,vs (some af) xN xC),(35,vi xN),(36,vi o),(70,.func (.func 74) #[] #[vp (pa b)])]<|aG 1 71 (vi p) (bv 11 3) []<|aG 2 72 (Vq e) (bv 11 7) []<|aG 3 73 (Vq e) (bv 11 15) [72]<|aG 4 74 (Vq (e.add 1026)) (bv 11 31) [73]<|kT 5 75 (.map bl) (bv 11 63) [74] (aQ 102 (Vq (e.add 1026))) (yY 7 yX)<|aG 6 76 (vi p) (bv 11 127) [6]<|aG 8 78 (Vq ((ad ai).add 2)) (bv 11 383) [7]<|kT 9 79 (vi bn) (bv 11 895) [78] (aQ 3 (Vq ((ad ai).add 2))) (yY 10 yQ) ?_
    obtain⟨mr,rfl,es,cl,ks,q41,q42,b0,e44,hf⟩:=h
    refine ox 7 (some 77) (bv 11 1023) (jR 102 (.map (some mr)) (vi p) false) (λu H1=>u=vi b0/\H1=H8) (by kernel_rfl) (λ_=>by kernel_rfl) (λw hw=>⟨_,w,(iB (kk:=(aY .i64)) (z:=vi 0) Es underlying3 (λ_=>by kernel_rfl) (by rw[hw];exact q41) q42 false),D0 w,by simp only[Dj,Df,e44],hw⟩) (by kernel_rfl) ?_
    rintro _ _ ⟨rfl,rfl⟩
    refine have⟨f40,h⟩:=hf;⟨[(0,Vq e),(3,vp (pa b)),(4,.func (.func 74) #[] #[vp (pa b)]),(34,vs (some af) xN xC),(35,vi xN),(36,vi o),(70,.func (.func 74) #[] #[vp (pa b)]),(71,vi p),(77,vi b0),(79,vi bn)],pk,(show aE _ _ _ from⟨EO,f40,EO⟩),?_⟩
    refine yx 10 (some 80) (bv 11 2047) 74 #[vi p,vi b0,vi bn,vp (pa b)] h ?_;clear h
    refine λv_4 H9 h=>⟨[(0,Vq e),(3,vp (pa b)),(4,.func (.func 74) #[] #[vp (pa b)]),(34,vs (some af) xN xC),(35,vi xN),(36,vi o)],pk,(show aE _ _ _ from⟨EO,EO,EO⟩),?_⟩
    exact eq [(0,Vq e),(3,vp (pa b)),(4,.func (.func 74) #[] #[vp (pa b)]),(34,vs (some af) xN xC),(35,vi xN),(36,vi o)] sk<|yz<|aA<|aC<|oo 11<|u5 2 [(0,Vq e),(3,vp (pa b)),(4,.func (.func 74) #[] #[vp (pa b)]),(34,vs (some af) xN xC),(35,vi xN),(36,vi (zY (o+1)))]<|aR ((zY (o+1)):Int) sk h
   exact aK 69 (zJ c36)<|zp<|aA<|aC<|oo 11<|eT 2 [6,7,36,69] [(36,vi (zY (o+1)))]<|aR ((zY (o+1)):Int) sk h
  exact o0 61 (zJ c32)<|eT 8 [61] [(69,VF)]<|yL 69<|zp<|aA<|aC<|oo 11<|eT 2 [6,7,36,69] [(36,vi (zY (o+1)))]<|aR ((zY (o+1)):Int) sk h
 refine aK 37 (zQ c19)<|zk 0<|aB<|aB<|aN<|aC<|ge<|ar 12<|eH 3 [34,35,36,37] [(84,Vq (e.add 1028))]<|have⟨a5,tv,f,q45,h⟩:=h;hH 85 104 q45 [84]<|eT 2 [] [(86,vi tv),(87,vi 0)]<|p0 2<|have⟨b3,m44,i46,i47⟩:=h;bL (x:=AG) (σ:=Int) (λs_=> [(0,Vq e),(3,vp (pa b)),(4,.func (.func 74) #[] #[vp (pa b)]),(85,vs a5 tv f),(86,vi tv),(87,vi s_)]) (λs_ H=>b3 s_ H) (λs_ H=>m44 s_ H) (0:Int) (by kernel_rfl) i46 sk ?_
 rintro g H10 i48
 have h:=i47 g H10 i48
 refine nx [(0,Vq e),(3,vp (pa b)),(4,.func (.func 74) #[] #[vp (pa b)]),(85,vs a5 tv f),(86,vi tv),(87,vi g)]<|ar 13<|eT 1 [] [(88,.bool (decide (g< (tv:Int))))]<|ge<|qx h (λc49 h=>?_) (λc49 h=>?_)
 ·refine aJ 88 (zX c49)<|nc<|ge<|p0 3<|ar 14<|yS [88] [] ?_
  obtain⟨j,rfl,q51,hg⟩:=h
  refine yI (some 89) 104 127 2 j tv f .i64 g Et q51.1 q51.2 [85] [(85,vs (some j) tv f),(89,Vq (j.add (Int.toNat g*2)))]<|have⟨bo,bb,q52,h⟩:=hg;zN 90 127 q52 [89]<|t1 (some 10) (λb=>vp (pa b)) (.cells #[vi 0,vi 0] 127)<|λm H11 e53 e54=>have h:=h m H11 e53 e54;kc [] [(10,vp (pa m))]<|have⟨q56,h⟩:=h;fN 127 [vi bo,vi bb] q56<|λbs e55=>have h:=h bs e55;kc [90] []<|yH<|ge ?_
  obtain⟨ce,q57,ax,rfl,cg,q58,aw,rfl,ch,q59,ay,rfl,a2,q60,be,q61,hh⟩:=h
  have h:=hh
  refine yq 15 (Code.ops K55) [(15,e,[Vq ax]),(15,ax,[Vq aw]),(15,aw,[Vq ay]),(15,ay,[vp a2]),(15,(ad m),[vi be])] 22 (bv 22 0) (show aE _ _ _ from⟨⟨q57,EO⟩,⟨q58,EO⟩,⟨q59,EO⟩,⟨q60,EO⟩,⟨q61,EO⟩,EO⟩)<|zr 0 (some 92) (Vq e) (bv 22 1) [(0,Vq e),(3,vp (pa b)),(4,.func (.func 74) #[] #[vp (pa b)]),(10,vp (pa m)),(85,vs (some j) tv f),(86,vi tv),(87,vi g),(92,Vq e)]<|aG 1 93 (Vq e) (bv 22 3) [92]<|aG 2 94 (Vq e) (bv 22 7) [93]<|kT 3 95 (Vq ax) (bv 22 15) [94] (aQ 23 (Vq e)) (yY 15 yX)<|aG 4 96 (Vq ax) (bv 22 31) [95]<|aG 5 97 (Vq ax) (bv 22 63) [96]<|kT 6 98 (Vq aw) (bv 22 127) [97] (aQ 49 (Vq ax)) (yY 15 yQ)<|aG 7 99 (Vq aw) (bv 22 255) [98]<|aG 8 100 (Vq aw) (bv 22 511) [99]<|kT 9 101 (Vq ay) (bv 22 1023) [100] (aQ 52 (Vq aw)) (yY 15 yJ)<|aG 10 102 (Vq ay) (bv 22 2047) [101]<|aG 11 103 (Vq ay) (bv 22 4095) [102]<|kT 12 104 (vp a2) (bv 22 8191) [103] (aQ 78 (Vq ay)) (yY 15 yK)<|aG 13 105 (vp (pa m)) (bv 22 16383) []<|kT 14 106 (vi be) (bv 22 32767) [105] (aQ 3 (vp (pa m))) (yY 15 yV)<|pF 15 19 (by kernel_rfl) ?fa1 ?fb1
  case' fa1=>
   replace h:=h.1
   refine pG 15 (some 107) (bv 22 65535) 47 #[vp a2,vi be] (by kernel_rfl) (λ_=>by kernel_rfl) h (by kernel_rfl) ?_;clear h
   rintro cq cm ⟨aj,ag,aq,q,y,s,r,a0,rfl,h⟩
   refine⟨[(0,Vq e),(3,vp (pa b)),(4,.func (.func 74) #[] #[vp (pa b)]),(10,vp (pa m)),(85,vs (some j) tv f),(86,vi tv),(87,vi g),(107,.tuple #[.agg #[vi aj,vi ag,vi aq,vi q,vi y,vi s,vi r],.bool a0])],pk,(show aE _ _ _ from⟨EO,EO,EO,EO,EO,EO⟩),?_⟩
   refine zB 16 (some 91) (.tuple #[.agg #[vi aj,vi ag,vi aq,vi q,vi y,vi s,vi r],.bool a0]) (bv 22 131071) [(0,Vq e),(3,vp (pa b)),(4,.func (.func 74) #[] #[vp (pa b)]),(10,vp (pa m)),(85,vs (some j) tv f),(86,vi tv),(87,vi g),(91,.tuple #[.agg #[vi aj,vi ag,vi aq,vi q,vi y,vi s,vi r],.bool a0])] (pure (.value (.tuple #[.agg #[vi aj,vi ag,vi aq,vi q,vi y,vi s,vi r],.bool a0])):Sem Next) (λ_ _ _ _ _=>rfl)<|kT 17 108 (.agg #[vi aj,vi ag,vi aq,vi q,vi y,vi s,vi r]) (bv 22 262143) [] (pure (.value (.agg #[vi aj,vi ag,vi aq,vi q,vi y,vi s,vi r])):Sem Next) (λ_ _ _ _ _=>rfl)<|kT 18 109 (.bool a0) (bv 22 524287) [91] (pure (.value (.bool a0)):Sem Next) (λ_ _ _ _ _=>rfl)<|mO 19 (some 11) (bv 22 1048575) (λb=>vp (pa b)) (.cells #[vi 0,vi 0,vi 0,vi 0,vi 0,vi 0,vi 0] 108) (by kernel_rfl) (λ_=>by kernel_rfl) (by kernel_rfl)<|λau H14 e62 e63=>have h:=h au H14 e62 e63;⟨[(0,Vq e),(3,vp (pa b)),(4,.func (.func 74) #[] #[vp (pa b)]),(10,vp (pa m)),(11,vp (pa au)),(85,vs (some j) tv f),(86,vi tv),(87,vi g),(108,.agg #[vi aj,vi ag,vi aq,vi q,vi y,vi s,vi r]),(109,.bool a0)],pk,(show aE _ _ _ from⟨EO,EO,EO,EO,EO,EO⟩),?_⟩
  case' fb1=>
   refine have h:=h.2;su 19 (some 11) (bv 22 557055) (λb=>vp (pa b)) (.cells #[vi 0,vi 0,vi 0,vi 0,vi 0,vi 0,vi 0] 108) (by kernel_rfl) (λ_=>by kernel_rfl) (by kernel_rfl)<|λau H17 e78 e79=>have h:=h au H17 e78 e79;have⟨f73,f74,f75,f76,f77,h⟩:=h;⟨[(0,Vq e),(3,vp (pa b)),(4,.func (.func 74) #[] #[vp (pa b)]),(10,vp (pa m)),(11,vp (pa au)),(85,vs (some j) tv f),(86,vi tv),(87,vi g),(104,vp a2),(106,vi be)],pk,(show aE _ _ _ from⟨f73,f74,f75,f76,f77,EO⟩),?_⟩
   refine yx 15 (some 107) (bv 22 589823) 47 #[vp a2,vi be] h ?_;clear h
   rintro ct H14 ⟨aj,ag,aq,q,y,s,r,a0,rfl,h⟩
   refine⟨[(0,Vq e),(3,vp (pa b)),(4,.func (.func 74) #[] #[vp (pa b)]),(10,vp (pa m)),(11,vp (pa au)),(85,vs (some j) tv f),(86,vi tv),(87,vi g),(107,.tuple #[.agg #[vi aj,vi ag,vi aq,vi q,vi y,vi s,vi r],.bool a0])],pk,(show aE _ _ _ from⟨EO,EO,EO,EO,EO,EO⟩),?_⟩
   refine zB 16 (some 91) (.tuple #[.agg #[vi aj,vi ag,vi aq,vi q,vi y,vi s,vi r],.bool a0]) (bv 22 655359) [(0,Vq e),(3,vp (pa b)),(4,.func (.func 74) #[] #[vp (pa b)]),(10,vp (pa m)),(11,vp (pa au)),(85,vs (some j) tv f),(86,vi tv),(87,vi g),(91,.tuple #[.agg #[vi aj,vi ag,vi aq,vi q,vi y,vi s,vi r],.bool a0])] (pure (.value (.tuple #[.agg #[vi aj,vi ag,vi aq,vi q,vi y,vi s,vi r],.bool a0])):Sem Next) (λ_ _ _ _ _=>rfl)<|kT 17 108 (.agg #[vi aj,vi ag,vi aq,vi q,vi y,vi s,vi r]) (bv 22 786431) [] (pure (.value (.agg #[vi aj,vi ag,vi aq,vi q,vi y,vi s,vi r])):Sem Next) (λ_ _ _ _ _=>rfl)<|kT 18 109 (.bool a0) (bv 22 1048575) [91] (pure (.value (.bool a0)):Sem Next) (λ_ _ _ _ _=>rfl) ?_
  all_goals
   refine have⟨q65,h⟩:=h;fH 20 none (bv 22 2097151) (jJ 108 (vp (pa au)) (.agg #[vi aj,vi ag,vi aq,vi q,vi y,vi s,vi r])) (λHz=>Hz=aP H14 (ad au) [vi aj,vi ag,vi aq,vi q,vi y,vi s,vi r] 0) (by kernel_rfl) (λ_=>by kernel_rfl) (iR [vi aj,vi ag,vi aq,vi q,vi y,vi s,vi r] 7 (by kernel_rfl) (by kernel_rfl) (λ_=>by kernel_rfl) (by kernel_rfl) q65) (by kernel_rfl)<|λbr e64=>have h:=h br e64;⟨[(0,Vq e),(3,vp (pa b)),(4,.func (.func 74) #[] #[vp (pa b)]),(10,vp (pa m)),(11,vp (pa au)),(85,vs (some j) tv f),(86,vi tv),(87,vi g),(109,.bool a0)],pk,(show aE _ _ _ from⟨EO,EO,EO,EO,EO,EO⟩),?_⟩
   refine zB 21 (some 12) (.bool a0) (bv 22 4194303) [(0,Vq e),(3,vp (pa b)),(4,.func (.func 74) #[] #[vp (pa b)]),(10,vp (pa m)),(11,vp (pa au)),(85,vs (some j) tv f),(86,vi tv),(87,vi g)] (pure (.value (.bool a0)):Sem Next) (λ_ _ _ _ _=>rfl)<|eq [(0,Vq e),(3,vp (pa b)),(4,.func (.func 74) #[] #[vp (pa b)]),(10,vp (pa m)),(11,vp (pa au)),(85,vs (some j) tv f),(86,vi tv),(87,vi g)] sk<|yz<|aC<|ar 16<|va 1 [(0,Vq e),(3,vp (pa b)),(4,.func (.func 74) #[] #[vp (pa b)]),(10,vp (pa m)),(11,vp (pa au)),(85,vs (some j) tv f),(86,vi tv),(87,vi g),(110,Vq ((ad au).add 1))]<|have⟨bp,q66,h⟩:=h;hH 111 3 q66 [110]<|eT 1 [111] [(112,.bool (bp==1))]<|qx h (λc67 h=>?_) (λc67 h=>?_)
   ·refine aJ 112 (zK c67)<|oo 17<|eH 2 [112] [(113,.func (.func 74) #[] #[vp (pa b)]),(114,vp (pa m))]<|have⟨a4,q69,h⟩:=h;hH 115 3 q69 [114]<|eH 1 [] [(116,Vq ((ad m).add 1))]<|have⟨bf,q70,h⟩:=h;hH 117 3 q70 [116]<|eH 2 [11,117] [(118,vi (zY (bf*16))),(119,Vq ((ad au).add 2))]<|have⟨a6,q71,h⟩:=h;hH 120 3 q71 [119]<|eH 1 [10] [(121,Vq ((ad m).add 1))] ?_
    obtain⟨bh,q72,h⟩:=h
    refine hH 122 3 q72 [121]<|eH 3 [120,122] [(125,vi (if(zY ((zY (bh+1))*16))<a6 then(zY ((zY (bh+1))*16))else a6))]<|zC (some 126) h ?_;clear h
    exact λv_6 cn h=>kc [113,115,118,125] []<|zq<|aA<|aC<|oo 18<|eT 2 [87] [(87,vi (zY (g+1)))]<|aR ((zY (g+1)):Int) sk h
   exact aK 112 (zJ c67)<|zp<|aA<|aC<|oo 18<|eT 2 [10,11,87,112] [(87,vi (zY (g+1)))]<|aR ((zY (g+1)):Int) sk h
 exact aK 88 (zQ c49)<|zk 2<|aB<|aB<|aN<|aC<|ar 19<|Ac [(3,vp (pa b))]<|have⟨bw,bx,bt,q89,h⟩:=h;hH 128 75 q89 [3]<|kb 1 [2] [vs bw bx bt] hQ h
def cY.K0:=EP f50
def cY.pt(tv:zW)(wv:Int)(H:zV)(R:zv):=
 gK.C wv H (λv H1=> ∃ra rb,v=.tuple #[vi ra,.bool rb]/\
 ∃o,tv=some o/\
 ∃x,hat H1 o=some (vp x)/\
 ∃xA,x=some xA/\
 ∃k,hat H1 xA=some (vp k)/\
 ∃p,k=some p/\
 ∃m,hat H1 p=some (vp m)/\
 ∃n,m=some n/\
 ∃i,hat H1 n=some (vp i)/\
 cG.C i ra H1 (λu H2=> ∃b e,u=.tuple #[vu b,vi e]/\
 gK.C b H2 (λy H3=> ∃a d,y=.tuple #[vi a,.bool d]/\
 if e=0 then(
 if d=true then(
 cM.C b H3 (λr H4=> ∃g,r=vi g/\
 if g=6 then(
 cM.C wv H4 (λs H5=> ∃j,s=vi j/\
 jT.C j a H5 (λt H6=> ∃f q,t=.tuple #[vu f,vi q]/\
 R (.tuple #[vu f,VT]) H6)))
 else
 R (.tuple #[vu wv,VF]) H4))
 else
 R (.tuple #[vu wv,VF]) H3)
 else
 R (.tuple #[vu wv,VF]) H3)))
theorem cY.link(h:pt d i H R):C d i H R:=by
 refine sa K0 62 func50 ?_
 intro w0 Q hQ
 unfold pt at h
 refine nx [(0,vp d),(1,vu i)]<|ar 0<|eT 2 [] []<|ar 1<|eH 1 [] [(15,vu i)]<|yT 16 [15] h λra rb H1 h=>eT 5 [16] [(6,vi ra)]<|ar 2<|eH 1 [0] [(20,vp d)] ?_
 obtain⟨o,rfl,ha⟩:=h
 refine eH 2 [20] [(22,Vq o)]<|have⟨x,q1,h⟩:=ha;hH 23 23 q1 [22] ?_
 obtain⟨xA,rfl,hb⟩:=h
 refine eH 2 [23] [(25,Vq xA)]<|have⟨k,q2,h⟩:=hb;hH 26 49 q2 [25] ?_
 obtain⟨p,rfl,hc⟩:=h
 refine eH 2 [26] [(28,Vq p)]<|have⟨m,q3,h⟩:=hc;hH 29 52 q3 [28] ?_
 obtain⟨n,rfl,hd⟩:=h
 refine eH 2 [29] [(31,Vq n)]<|have⟨tv,q4,h⟩:=hd;hH 32 78 q4 [31]<|eH 1 [6] [(33,vi ra)]<|yT 34 [32,33] h λb e H2 h=>eT 5 [34] [(8,vu b),(9,vi e)]<|ar 3<|eH 1 [] [(38,vu b)]<|yT 39 [38] h λa wv H3 h=>eT 5 [39] [(10,vi a),(11,.bool wv)]<|ge<|ar 4<|eH 3 [9] [(44,.bool (e !=0))]<|qx h (λc5 h=>?_) (λc5 h=>?_)
 ·refine o0 44 (CX.mpr c5)<|eH 4 [11,44] [(48,.bool (!wv))]<|qx h (λc7 h=>?_) (λc7 h=>?_)
  ·have b8:(!wv)=false:=CJ Bool.not (c7)
   have b82:wv=true:=c7
   refine o0 48 (b:=(!wv)) (v:=false) (by simp only[b8,b82,Da,C5]) ?_
   clear b8 b82
   refine eH 1 [8] [(49,vu b)]<|sv 50 [49] h λg H4 h=>eT 2 [48,50] [(52,.bool (g !=6))]<|qx h (λc9 h=>?_) (λc9 h=>?_)
   ·exact aK 52 (CX.mpr c9)<|nc<|ar 6<|eH 1 [1,52] [(55,vu i)]<|sv 56 [55] h λj H5 h=>eH 1 [10] [(57,vi a)]<|zI 58 (λf q=>[(58,.tuple #[vu f,vi q])]) h λf q H6 h=>u5 5 [(12,vu f)]<|ar 7<|kb 3 [4,5] [vu f,VT] hQ h
   exact aJ 52 (CY.mpr c9)<|ar 5<|kb 3 [4,5] [vu i,VF] hQ h
  have b8:(!wv)=true:=CJ Bool.not (zZ c7)
  have b82:wv=false:=zZ c7
  refine o0 48 (b:=(!wv)) (v:=true) (by simp only[b8,b82,Da,C5]) ?_
  clear b8 b82
  exact eT 4 [8,48] [(52,VT)]<|wc 52<|ar 5<|kb 3 [4,5] [vu i,VF] hQ h
 exact o0 44 (CY.mpr c5)<|eT 8 [8,11,44] [(52,VT)]<|wc 52<|ar 5<|kb 3 [4,5] [vu i,VF] hQ h
def bM.K0:=EP f57
def bM.pt(tv:zW)(H:zV)(R:zv):=
 eU tv (
 R VT H) (λa=>
 ∃x,hat H a=some (vp x)/\
 eU x (
 R VT H) (λxA=>
 ∃b,hat H (a.add 1029)=some (vi b)/\
 R (.bool (b==1)) H))
theorem bM.link(h:pt d H R):C d H R:=by
 refine sa K0 19 func57 ?_
 intro w0 Q hQ
 unfold pt at h
 refine nx [(0,vp d)]<|ar 0<|eT 1 [] []<|ar 1<|eH 1 [] [(3,vp d)] ?_
 rcases d with _ | a
 ·rw[CP]at h
  exact kb 16 [2] [VT] hQ h
 rw[CK]at h
 refine va 5 [(0,Vq a),(5,VF),(8,Vq a)]<|have⟨x,q1,h⟩:=h;hH 9 23 q1 [8] ?_
 rcases x with _ | xA
 ·rw[CP]at h
  exact kb 10 [2] [VT] hQ h
 rw[CK]at h
 exact va 6 [(12,VF),(15,Vq (a.add 1029))]<|have⟨b,q2,h⟩:=h;hH 16 3 q2 [15]<|kb 3 [2] [.bool (b==1)] hQ h
end Go.Proofs.YtfhbhckhmnleoaaGreat
namespace Go.Proofs.YtfhbhckhmnleoaaGreat
open Go Go.Proofs.Tryz
open Int(tmod)
variable{H:zV}{d:zW}{R:zv}{i j:Int}
namespace dV
def K0:=EP f58
def K2:=cb K0
def K4:=cb K2
def K5:=ca K4
def K7:=ca K5
def K8:=cb K5
def K9:=ca K8
def zS:=ca K9
def zy:=cb zS
def Ab:=cb zy
def Aa:=ca Ab
def Ar:=ca Aa
def AP:=cb Ar
def Bf:=cb AP
def Av:=cb Bf
def AS:=ca Av
def Ae:=ca AS
def Af:=cb Ae
def Bm:=ca Af
def Bz:=ca Bm
def AE:=cb Bz
def AG:=ca AE
end dV
def dV.pt(tv:zW)(H:zV)(R:zv):=
 ∃d,tv=some d/\
 ∃x,hat H d=some (vp x)/\
 ∃xA,x=some xA/\
 ∃bz,hat H xA=some (vp bz)/\
 ∃am,bz=some am/\
 ∃b0,hat H am=some (vp b0)/\
 ∃an,b0=some an/\
 ∃av,hat H an=some (vp av)/\
 ∃bb,hat H (d.add 1)=some (vi bb)/\
 ∀b H1,b=H.size->H1=H.push (.cells #[vi bb] 3)->aL H1 d 0 [Vq xA]/\aL H1 xA 0 [Vq am]/\aL H1 am 0 [Vq an]/\aL H1 an 0 [vp av]/\
 cH.C av (some (ad b)) 1 1 H1 (λv H2=> ∃xB xN xC,v=vs xB xN xC/\
 ∃(bk:Bool->zw) (m11:Bool->Int->zV->Nat),bk false 0 H2/\ ∀g s29 H3,bk g s29 H3->
 if s29< (xN:Int)then(
 ∃f,xB=some f/\
 yZ s29 xN/\
 ∃e,hat H3 (f.add (Int.toNat s29*1))=some (vi e)/\
 yZ e 1024/\
 ∃a5,hat H3 ((d.add 2).add (Int.toNat e*1))=some (vi a5)/\
 if a5=1 then(
 (bk g (zY (s29+1)) H3/\m11 g (zY (s29+1)) H3<m11 g s29 H3))
 else
 ∃bn,hat H3 d=some (vp bn)/\
 ∃bs,bn=some bs/\
 ∃bo,hat H3 bs=some (vp bo)/\
 ∃bp,bo=some bp/\
 ∃bh,hat H3 bp=some (vp bh)/\
 ∃bg,bh=some bg/\
 ∃a2,hat H3 bg=some (vp a2)/\
 bB.C a2 e H3 (λb1 H4=> ∃ap ak a4 u y aa r rb,b1=.tuple #[.agg #[vi ap,vi ak,vi a4,vi u,vi y,vi aa,vi r],.bool rb]/\
 ∀a0 H5,a0=H4.size->H5=H4.push (.cells #[vi 0,vi 0,vi 0,vi 0,vi 0,vi 0,vi 0] 108)->
 (aH H5 (ad a0) 0 7)/\ ∀H6,H6=aP H5 (ad a0) [vi ap,vi ak,vi a4,vi u,vi y,vi aa,vi r] 0->
 ∃(br:Bool->zW->zV->Prop) (m32:Bool->zW->zV->Nat),br g (some (ad a0)) H6/\ ∀j s H7,br j s H7->
 ∃a6,hat H7 (d.add 1027)=some (.map a6)/\
 ∃mr,a6=some mr/\
 ∃es cl ks,H7[mr]?=some (.map es cl)/\vb (aY .i64) es.toList ks/\
 ∃al,(yG ks e).getD (vi 0)=vi al/\
 ∃sA,s=some sA/\
 ∃aq,hat H7 (sA.add 2)=some (vi aq)/\
 if al<aq then(
 ∃a8,hat H7 (d.add 1027)=some (.map a8)/\
 ∃bm,a8=some bm/\
 ∃bu cl_2 ks_2,H7[bm]?=some (.map bu cl_2)/\vb (aY .i64) bu.toList ks_2/\
 ∃ac,(yG ks_2 e).getD (vi 0)=vi ac/\
 ∃ay,hat H7 (d.add 1027)=some (.map ay)/\
 ∃az,hat H7 (sA.add 2)=some (vi az)/\
 ∃a9,ay=some a9/\
 ∃bw cl_3 ks_3,H7[a9]?=some (.map bw cl_3)/\vb (aY .i64) bw.toList ks_3/\
 ∀bl cl_4 H8,H8=aM H7 a9 (.map bl cl_4)->vb (aY .i64) bl.toList (yM ks_3 e (vi az))->
 ∃a1,hat H8 (sA.add 2)=some (vi a1)/\
 ∃a7,hat H8 (sA.add 1)=some (vi a7)/\
 cJ.C (some d) e ac a1 a7 H8 (λ_ H9=>
 ∃ax ao aw ah ag af ae,aL H9 sA 0 [vi ax,vi ao,vi aw,vi ah,vi ag,vi af,vi ae]/\
 ∀ab H10,ab=H9.size->H10=H9.push (.cells #[vi 0,vi 0,vi 0,vi 0,vi 0,vi 0,vi 0] 108)->
 (aH H10 (ad ab) 0 7)/\ ∀ba,ba=aP H10 (ad ab) [vi ax,vi ao,vi aw,vi ah,vi ag,vi af,vi ae] 0->
 ∃bf,hat ba d=some (vp bf)/\
 ∃be,bf=some be/\
 ∃bj,hat ba be=some (vp bj)/\
 ∃bd,bj=some bd/\
 ∃bi,hat ba bd=some (vp bi)/\
 ∃bc,bi=some bc/\
 ∃a3,hat ba bc=some (vp a3)/\
 bB.C a3 e ba (λb2 bx=> ∃aj ai au m q p o bt,b2=.tuple #[.agg #[vi aj,vi ai,vi au,vi m,vi q,vi p,vi o],.bool bt]/\
 (aH bx (ad ab) 0 7)/\ ∀bq,bq=aP bx (ad ab) [vi aj,vi ai,vi au,vi m,vi q,vi p,vi o] 0->
 (br true (some (ad ab)) bq/\m32 true (some (ad ab)) bq<m32 j s H7))))
 else
 (bk j (zY (s29+1)) H7/\m11 j (zY (s29+1)) H7<m11 g s29 H3)))
 else
 R (.bool g) H3)
theorem dV.link(h:pt d H R):C d H R:=by
 refine sa K0 109 func58 ?_
 intro w0 Q hQ
 unfold pt zY at h
 refine nx [(0,vp d)]<|ar 0<|eT 1 [] []<|ar 1<|eT 1 [] [(3,VF)]<|ge<|ge ?_
 obtain⟨tv,rfl,x,q1,xA,rfl,bz,q2,am,rfl,b0,q3,an,rfl,av,q4,bb,q5,ha⟩:=h
 refine yq 2 (Code.ops K7) [(18,tv,[Vq xA]),(18,xA,[Vq am]),(18,am,[Vq an]),(18,an,[vp av]),(17,(tv.add 1),[vi bb])] 21 (bv 21 0) (show aE _ _ _ from⟨⟨q1,EO⟩,⟨q2,EO⟩,⟨q3,EO⟩,⟨q4,EO⟩,⟨q5,EO⟩,EO⟩)<|zr 0 (some 9) (Vq tv) (bv 21 1) [(0,Vq tv),(3,VF),(9,Vq tv)]<|aG 1 10 (Vq tv) (bv 21 3) [9]<|aG 2 11 (Vq tv) (bv 21 7) [10]<|kT 3 12 (Vq xA) (bv 21 15) [11] (aQ 23 (Vq tv)) (yY 18 yX)<|aG 4 13 (Vq xA) (bv 21 31) [12]<|aG 5 14 (Vq xA) (bv 21 63) [13]<|kT 6 15 (Vq am) (bv 21 127) [14] (aQ 49 (Vq xA)) (yY 18 yQ)<|aG 7 16 (Vq am) (bv 21 255) [15]<|aG 8 17 (Vq am) (bv 21 511) [16]<|kT 9 18 (Vq an) (bv 21 1023) [17] (aQ 52 (Vq am)) (yY 18 yJ)<|aG 10 19 (Vq an) (bv 21 2047) [18]<|aG 11 20 (Vq an) (bv 21 4095) [19]<|kT 12 21 (vp av) (bv 21 8191) [20] (aQ 78 (Vq an)) (yY 18 yK)<|aG 13 22 (Vq tv) (bv 21 16383) []<|aG 14 23 (Vq tv) (bv 21 32767) [22]<|aG 15 24 (Vq (tv.add 1)) (bv 21 65535) [23]<|kT 16 25 (vi bb) (bv 21 131071) [24] (aQ 3 (Vq (tv.add 1))) (yY 17 yV)<|aG 20 29 (vi 0) (bv 21 1179647) []<|mO 17 (some 26) (bv 21 1310719) (λb=>vs (pa b) 1 1) (.cells #[vi bb] 3) (by kernel_rfl) (λ_=>by kernel_rfl) (by kernel_rfl)<|λb H1 e10 e11=>have h:=ha b H1 e10 e11;have⟨f6,f7,f8,f9,h⟩:=h;⟨[(0,Vq tv),(3,VF),(21,vp av),(26,vs (pa b) 1 1),(29,vi 0)],pk,(show aE _ _ _ from⟨f6,f7,f8,f9,EO,EO⟩),?_⟩
 refine yx 18 (some 27) (bv 21 1572863) 45 #[vp av,vs (pa b) 1 1] h ?_;clear h
 rintro v H2 ⟨xB,xN,xC,rfl,h⟩
 refine⟨[(0,Vq tv),(3,VF),(27,vs xB xN xC),(29,vi 0)],pk,(show aE _ _ _ from⟨EO,EO,EO,EO,EO,EO⟩),?_⟩
 refine zB 19 (some 28) (vi xN) (bv 21 2097151) [(0,Vq tv),(3,VF),(27,vs xB xN xC),(28,vi xN),(29,vi 0)] (pure (.value (vi xN)):Sem Next) (λ_ _ _ _ _=>rfl)<|eq [(0,Vq tv),(3,VF),(27,vs xB xN xC),(28,vi xN),(29,vi 0)] sk<|yz<|aC<|p0 0<|have⟨bk,m11,i12,i13⟩:=h;bL (x:=zS) (σ:=Bool×Int) (λs_=> [(0,Vq tv),(3,.bool s_.1),(27,vs xB xN xC),(28,vi xN),(29,vi s_.2)]) (λs_ H=>bk s_.1 s_.2 H) (λs_ H=>m11 s_.1 s_.2 H) ((false,0):Bool×Int) (by kernel_rfl) i12 sk ?_
 rintro⟨g,s29⟩ H3 i14
 have h:=i13 g s29 H3 i14
 refine nx [(0,Vq tv),(3,.bool g),(27,vs xB xN xC),(28,vi xN),(29,vi s29)]<|ar 3<|eT 1 [] [(30,.bool (decide (s29< (xN:Int))))]<|ge<|qx h (λc15 h=>?_) (λc15 h=>?_)
 ·refine aJ 30 (zX c15)<|nc<|ge<|p0 1<|ar 4<|yS [30] [] ?_
  obtain⟨f,rfl,q17,hb⟩:=h
  refine yI (some 31) 75 3 1 f xN xC .i64 s29 C3 q17.1 q17.2 [27] [(27,vs (some f) xN xC),(31,Vq (f.add (Int.toNat s29*1)))]<|have⟨e,q18,h⟩:=hb;hH 32 3 q18 [31]<|eT 1 [32] [(5,vi e)]<|ge<|ar 5<|eH 4 [] [(34,vi e),(36,Vq (tv.add 2))]<|have⟨q19,h⟩:=h;zd 37 (bE 103 (Vq (tv.add 2)) (vi e)) (Vq ((tv.add 2).add (Int.toNat e*1))) (λw _=>bQ (P:=prog) (t:=103) (elem:=3) (sz:=1) (n:=1024) (a:=(tv.add 2)) (k:=.i64) (i:=e) Er (λ_=>by kernel_rfl) q19.1 q19.2 w) [34,36]<|have⟨a5,q20,h⟩:=h;hH 38 3 q20 [37]<|eT 1 [38] [(39,.bool (a5==1))]<|qx h (λc21 h=>?_) (λc21 h=>?_)
  ·exact aJ 39 (zK c21)<|zk 1<|aB<|aN<|aC<|oo 15<|eT 2 [5,29,39] [(29,vi (zY (s29+1)))]<|aR ((g,(zY (s29+1))):Bool×Int) sk h
  refine aK 39 (zJ c21)<|nc<|ar 6<|eH 3 [39] [(43,Vq tv)]<|have⟨bn,q23,h⟩:=h;hH 44 23 q23 [43] ?_
  obtain⟨bs,rfl,hc⟩:=h
  refine eH 2 [44] [(46,Vq bs)]<|have⟨bo,q24,h⟩:=hc;hH 47 49 q24 [46] ?_
  obtain⟨bp,rfl,hd⟩:=h
  refine eH 2 [47] [(49,Vq bp)]<|have⟨bh,q25,h⟩:=hd;hH 50 52 q25 [49] ?_
  obtain⟨bg,rfl,he⟩:=h
  refine eH 2 [50] [(52,Vq bg)]<|have⟨a2,q26,h⟩:=he;hH 53 78 q26 [52]<|eH 1 [] [(54,vi e)]<|zU 55 [53,54] h λap ak a4 u y aa r rb H4 h=>eH 3 [55] [(56,.agg #[vi ap,vi ak,vi a4,vi u,vi y,vi aa,vi r]),(57,.bool rb)]<|t1 (some 6) (λb=>vp (pa b)) (.cells #[vi 0,vi 0,vi 0,vi 0,vi 0,vi 0,vi 0] 108)<|λa0 H5 e27 e28=>have h:=h a0 H5 e27 e28;kc [] [(6,vp (pa a0))]<|have⟨q30,h⟩:=h;fN 108 [vi ap,vi ak,vi a4,vi u,vi y,vi aa,vi r] q30<|λH6 e29=>have h:=h H6 e29;kc [56] []<|eT 1 [57] []<|p0 2<|have⟨br,m32,i31,i32⟩:=h;bL (x:=Ae) (σ:=Bool×zW) (λs_=> [(0,Vq tv),(3,.bool s_.1),(5,vi e),(6,vp s_.2),(27,vs (some f) xN xC),(28,vi xN),(29,vi s29)]) (λs_ H=>br s_.1 s_.2 H) (λs_ H=>m32 s_.1 s_.2 H) ((g,(pa a0)):Bool×zW) (by kernel_rfl) i31 sk ?_
  rintro⟨j,s⟩ H7 i33
  have h:=i32 j s H7 i33
  refine nx [(0,Vq tv),(3,.bool j),(5,vi e),(6,vp s),(27,vs (some f) xN xC),(28,vi xN),(29,vi s29)]<|ge<|ge<|qV 7<|u8 58 (Vq tv) []<|u8 59 (Vq tv) [58]<|u8 60 (Vq (tv.add 1027)) [59]<|have⟨a6,q34,h⟩:=h;np (some 61) 102 q34 [60] [(61,.map a6)]<|BP (some 62) (vi e) [(0,Vq tv),(3,.bool j),(5,vi e),(6,vp s),(27,vs (some f) xN xC),(28,vi xN),(29,vi s29),(61,.map a6),(62,vi e)] ?_
  obtain⟨mr,rfl,es,cl,ks,q35,q36,al,e67,hf⟩:=h
  refine AD (some 63) (jR 102 (.map (some mr)) (vi e) false) (vi al) (λ_=>by kernel_rfl) (λw hw=>(iB (kk:=(aY .i64)) (z:=vi 0) Es underlying3 (λ_=>by kernel_rfl) (by rw[hw];exact q35) q36 false).trans (by simp only[if_true,Dj,Df,e67])) [(0,vp (some tv)),(3,.bool j),(5,vi e),(6,vp s),(27,vs (some f) xN xC),(28,vi xN),(29,vi s29),(63,vi al)] pk ?_
  obtain⟨sA,rfl,hg⟩:=hf
  refine BP (some 64) (Vq (sA.add 2)) [(0,Vq tv),(3,.bool j),(5,vi e),(6,Vq sA),(27,vs (some f) xN xC),(28,vi xN),(29,vi s29),(63,vi al),(64,Vq (sA.add 2))]<|have⟨aq,q38,h⟩:=hg;np (some 65) 3 q38 [64] [(65,vi aq)]<|u8 66 (.bool (decide (al<aq))) [63,65]<|ni [(0,Vq tv),(3,.bool j),(5,vi e),(6,Vq sA),(27,vs (some f) xN xC),(28,vi xN),(29,vi s29),(66,.bool (decide (al<aq)))] sk<|AC<|qx h (λc39 h=>?_) (λc39 h=>?_)
  ·refine aJ 66 (zX c39)<|nc<|ge<|p0 3<|ar 9<|va 3 [(0,Vq tv),(5,vi e),(6,Vq sA),(27,vs (some f) xN xC),(28,vi xN),(29,vi s29),(87,Vq (tv.add 1027))]<|have⟨a8,q41,h⟩:=h;hH 88 102 q41 [87]<|eH 1 [] [(89,vi e)] ?_
   obtain⟨bm,rfl,bu,cl_2,ks_2,q42,q43,ac,e65,hh⟩:=h
   refine zd 90 (jR 102 (.map (some bm)) (vi e) false) (vi ac) (λw hw=>(iB (kk:=(aY .i64)) (z:=vi 0) Es underlying3 (λ_=>by kernel_rfl) (by rw[hw];exact q42) q43 false).trans (by simp only[if_true,Dj,Df,e65])) [88,89]<|eT 1 [90] [(8,vi ac)]<|ge ?_
   refine have⟨ay,q45,az,q46,h⟩:=hh;yq 10 (Code.ops AG) [(7,(tv.add 1027),[.map ay]),(7,(sA.add 2),[vi az])] 8 (bv 8 0) (show aE _ _ _ from⟨⟨q45,EO⟩,⟨q46,EO⟩,EO⟩)<|zr 0 (some 91) (Vq tv) (bv 8 1) [(0,Vq tv),(5,vi e),(6,Vq sA),(8,vi ac),(27,vs (some f) xN xC),(28,vi xN),(29,vi s29),(91,Vq tv)]<|aG 1 92 (Vq tv) (bv 8 3) [91]<|aG 2 93 (Vq (tv.add 1027)) (bv 8 7) [92]<|kT 3 94 (.map ay) (bv 8 15) [93] (aQ 102 (Vq (tv.add 1027))) (yY 7 yX)<|aG 4 95 (vi e) (bv 8 31) []<|aG 5 96 (Vq (sA.add 2)) (bv 8 63) []<|kT 6 97 (vi az) (bv 8 127) [96] (aQ 3 (Vq (sA.add 2))) (yY 7 yQ) ?_
   obtain⟨a9,rfl,bw,cl_3,ks_3,q47,q48,hi⟩:=h
   refine fH 7 none (bv 8 255) (m8 102 (.map (some a9)) (vi e) (vi az)) (λHz=> ∃es2 cl2,Hz=aM H7 a9 (.map es2 cl2)/\vb (aY .i64) es2.toList (yM ks_3 e (vi az))) (by kernel_rfl) (λ_=>by kernel_rfl) (λw hw=>by obtain⟨es2,cl2,q1,q2⟩:=nz (kk:=(aY .i64)) (P:=prog) (w:=w) (k:=e) (v:=vi az) Es underlying3 (by rw[hw];exact q47) q48;exact⟨_,q1,⟨rfl,rfl,rfl,CU _⟩,es2,cl2,by rw[<-hw],q2⟩) (by kernel_rfl) ?_
   rintro H8 ⟨bl,cl_4,e50,e51⟩
   refine have h:=hi bl cl_4 H8 e50 e51;⟨[(0,Vq tv),(5,vi e),(6,Vq sA),(8,vi ac),(27,vs (some f) xN xC),(28,vi xN),(29,vi s29)],pk,(show aE _ _ _ from⟨EO,EO,EO⟩),?_⟩
   refine eq [(0,Vq tv),(5,vi e),(6,Vq sA),(8,vi ac),(27,vs (some f) xN xC),(28,vi xN),(29,vi s29)] sk<|yz<|aC<|ar 11<|va 4 [(0,Vq tv),(5,vi e),(6,Vq sA),(27,vs (some f) xN xC),(28,vi xN),(29,vi s29),(98,Vq tv),(99,vi e),(100,vi ac),(101,Vq (sA.add 2))]<|have⟨a1,q52,h⟩:=h;hH 102 3 q52 [101]<|eH 1 [] [(103,Vq (sA.add 1))] ?_
   obtain⟨a7,q53,h⟩:=h
   refine hH 104 3 q53 [103]<|zC (some 105) h ?_;clear h
   refine λv_3 H9 h=>kc [98,99,100,102,104] []<|yH<|oo 12<|eH 1 [] [(3,VT)]<|zq<|aA<|aC<|ge<|ar 13<|have⟨ax,ao,aw,ah,ag,af,ae,q54,h⟩:=h;zN 106 108 q54 [6]<|yH<|oo 14<|t1 (some 6) (λb=>vp (pa b)) (.cells #[vi 0,vi 0,vi 0,vi 0,vi 0,vi 0,vi 0] 108)<|λab H10 e55 e56=>have h:=h ab H10 e55 e56;kc [] [(6,vp (pa ab))]<|have⟨q58,h⟩:=h;fN 108 [vi ax,vi ao,vi aw,vi ah,vi ag,vi af,vi ae] q58<|λba e57=>have h:=h ba e57;kc [106] []<|yH<|oo 8<|eH 3 [] [(70,Vq tv)]<|have⟨bf,q59,h⟩:=h;hH 71 23 q59 [70] ?_
   obtain⟨be,rfl,hj⟩:=h
   refine eH 2 [71] [(73,Vq be)]<|have⟨bj,q60,h⟩:=hj;hH 74 49 q60 [73] ?_
   obtain⟨bd,rfl,hk⟩:=h
   refine eH 2 [74] [(76,Vq bd)]<|have⟨bi,q61,h⟩:=hk;hH 77 52 q61 [76] ?_
   obtain⟨bc,rfl,hl⟩:=h
   exact eH 2 [77] [(79,Vq bc)]<|have⟨a3,q62,h⟩:=hl;hH 80 78 q62 [79]<|eH 1 [] [(81,vi e)]<|zU 82 [80,81] h λaj ai au m q p o bt bx h=>eH 3 [82] [(83,.agg #[vi aj,vi ai,vi au,vi m,vi q,vi p,vi o])]<|have⟨q64,h⟩:=h;fN 108 [vi aj,vi ai,vi au,vi m,vi q,vi p,vi o] q64<|λbq e63=>have h:=h bq e63;kc [83] []<|yH<|aR ((true,(pa ab)):Bool×zW) sk h
  exact aK 66 (zQ c39)<|zk 2<|aB<|aB<|aN<|aA<|aC<|oo 15<|u5 2 [(0,Vq tv),(3,.bool j),(27,vs (some f) xN xC),(28,vi xN),(29,vi (zY (s29+1)))]<|aR ((j,(zY (s29+1))):Bool×Int) sk h
 exact aK 30 (zQ c15)<|zk 0<|aB<|aB<|aN<|aC<|ar 16<|kb 2 [2] [.bool g] hQ h
def cJ.K0:=EP f72
def cJ.K2:=cb K0
def cJ.K4:=cb K2
def cJ.K6:=cb K4
def cJ.K7:=ca K6
def cJ.K8:=ca K7
def cJ.pt(tv:zW)(d e to a:Int)(H:zV)(R:zv):=
 ∀b H1,b=H.size->H1=H.push (.cells #[vp tv] 37)->
 ∃(I9:zw) (m9:Int->zV->Nat),I9 e H1/\ ∀i H2,I9 i H2->
 if((decide (i<to)) && (a !=3))=true then(
 if((a !=1) || ((tmod i 2)==1))=true then(
 dH.C (zY ((zY (d*64))+i)) (some (ad b)) H2 (λ_ H3=>
 (I9 (zY (i+1)) H3/\m9 (zY (i+1)) H3<m9 i H2)))
 else
 (I9 (zY (i+1)) H2/\m9 (zY (i+1)) H2<m9 i H2))
 else
 R (.tuple #[]) H2
theorem cJ.link{to a:Int}(h:pt d i j to a H R):C d i j to a H R:=by
 refine sa K0 36 func72 ?_
 intro w0 Q hQ
 unfold pt zY at h
 refine nx [(0,vp d),(1,vi i),(2,vi j),(3,vi to),(4,vi a)]<|ar 0<|t1 (some 5) (λb=>vp (pa b)) (.cells #[vp d] 37)<|λb H1 e1 e2=>have h:=h b H1 e1 e2;kc [0] [(5,vp (pa b))]<|yH<|ar 1<|eT 2 [5] [(10,.func (.func 112) #[] #[vp (pa b)])]<|ar 2<|eT 2 [2] [(11,vi j)]<|p0 0<|have⟨I9,m9,i3,i4⟩:=h;bL (x:=K8) (σ:=Int) (λs_=> [(1,vi i),(3,vi to),(4,vi a),(10,.func (.func 112) #[] #[vp (pa b)]),(11,vi s_)]) (λs_ H=>I9 s_ H) (λs_ H=>m9 s_ H) (j:Int) (by kernel_rfl) i3 sk ?_
 rintro e H2 i5
 have h:=i4 e H2 i5
 refine nx [(1,vi i),(3,vi to),(4,vi a),(10,.func (.func 112) #[] #[vp (pa b)]),(11,vi e)]<|ge<|ar 3<|iX [(1,vi i),(3,vi to),(4,vi a),(10,.func (.func 112) #[] #[vp (pa b)]),(11,vi e),(20,.bool ((decide (e<to)) && (a !=3)))] ?_ ?_
 ·refine aC<|qx h (λc8 h=>?_) (λc8 h=>?_)
  ·refine aJ 20 c8<|nc<|ge<|p0 1<|ar 5<|iX [(1,vi i),(3,vi to),(4,vi a),(10,.func (.func 112) #[] #[vp (pa b)]),(11,vi e),(29,.bool ((a !=1) || ((tmod e 2)==1)))] ?_ ?_
   ·refine aC<|qx h (λc12 h=>?_) (λc12 h=>?_)
    ·refine aJ 29 c12<|oo 6<|va 5 [(1,vi i),(3,vi to),(4,vi a),(10,.func (.func 112) #[] #[vp (pa b)]),(11,vi e),(30,.func (.func 112) #[] #[vp (pa b)]),(34,vi (zY ((zY (i*64))+e)))]<|zC (some 35) h ?_;clear h
     exact λv H3 h=>kc [30,34] []<|zq<|aA<|aC<|oo 4<|eT 3 [11] [(11,vi (zY (e+1)))]<|aR ((zY (e+1)):Int) sk h
    exact aK 29 (zZ c12)<|zp<|aA<|aC<|oo 4<|u5 3 [(1,vi i),(3,vi to),(4,vi a),(10,.func (.func 112) #[] #[vp (pa b)]),(11,vi (zY (e+1)))]<|aR ((zY (e+1)):Int) sk h
   refine λhk=>va 3 [(1,vi i),(3,vi to),(4,vi a),(10,.func (.func 112) #[] #[vp (pa b)]),(11,vi e),(25,.bool (a !=1))] ?_
   by_cases c10:a=1
   ·have b11:(a !=1)=false:=CX.mpr c10
    exact cD [(1,vi i),(3,vi to),(4,vi a),(10,.func (.func 112) #[] #[vp (pa b)]),(11,vi e),(25,VF)] (by rw[b11])<|eH 4 [25] [(29,.bool ((tmod e 2)==1))]<|zq<|xl 29 (b:=((tmod e 2)==1)) (v:=((a !=1) || ((tmod e 2)==1))) (by simp only[b11,BL])<|hk
   have b11:(a !=1)=true:=CY.mpr c10
   exact cD [(1,vi i),(3,vi to),(4,vi a),(10,.func (.func 112) #[] #[vp (pa b)]),(11,vi e),(25,VT)] (by rw[b11])<|eH 4 [25] [(29,VT)]<|zq<|xl 29 (b:=true) (v:=((a !=1) || ((tmod e 2)==1))) (by simp only[b11,BL])<|hk
  exact aK 20 (zZ c8)<|zk 0<|aB<|aB<|aN<|gH (fn:=f72) [] hQ (show bV _ _ _ [] _ from .nil) h
 refine λhk=>va 4 [(1,vi i),(3,vi to),(4,vi a),(10,.func (.func 112) #[] #[vp (pa b)]),(11,vi e),(17,.bool (decide (e<to)))] ?_
 by_cases c6:e<to
 ·have b7:(decide (e<to))=true:=zX c6
  exact cD [(1,vi i),(3,vi to),(4,vi a),(10,.func (.func 112) #[] #[vp (pa b)]),(11,vi e),(17,VT)] (by rw[b7])<|eH 3 [17] [(20,.bool (a !=3))]<|zq<|xl 20 (b:=(a !=3)) (v:=((decide (e<to)) && (a !=3))) (by simp only[b7,BL])<|hk
 have b7:(decide (e<to))=false:=zQ c6
 exact cD [(1,vi i),(3,vi to),(4,vi a),(10,.func (.func 112) #[] #[vp (pa b)]),(11,vi e),(17,VF)] (by rw[b7])<|eH 3 [17] [(20,VF)]<|zq<|xl 20 (b:=false) (v:=((decide (e<to)) && (a !=3))) (by simp only[b7,BL])<|hk
def bN.K0:=EP f74
def bN.K2:=cb K0
def bN.K3:=ca K2
def bN.K4:=ca K3
def bN.pt(d f to:Int)(e:zW)(H:zV)(R:zv):=
 ∃(I5:zw) (m5:Int->zV->Nat),I5 f H/\ ∀i H1,I5 i H1->
 if i<to then(
 ∃a,e=some a/\
 ∃xB xN xC,hat H1 a=some (vs xB xN xC)/\
 ∀b H2,b=H1.size->H2=H1.push (.cells #[vi (zY ((zY (d*64))+i))] 3)->
 bH 1 3 8 [vi 0] xB xN xC (some (ad b)) 1 H2 (λap g H3=>
 (aH H3 a 0 1)/\ ∀H4,H4=aP H3 a [vs ap (xN+1) g] 0->
 (I5 (zY (i+2)) H4/\m5 (zY (i+2)) H4<m5 i H1)))
 else
 R (.tuple #[]) H1
theorem bN.link{to:Int}(h:pt i j to d H R):C i j to d H R:=by
 refine sa K0 21 func74 ?_
 intro w0 Q hQ
 unfold pt zY at h
 refine nx [(0,vi i),(1,vi j),(2,vi to),(3,vp d)]<|ar 0<|eT 2 [1] [(7,vi j)]<|p0 0<|have⟨I5,m5,i1,i2⟩:=h;bL (x:=K4) (σ:=Int) (λs_=> [(0,vi i),(2,vi to),(3,vp d),(7,vi s_)]) (λs_ H=>I5 s_ H) (λs_ H=>m5 s_ H) (j:Int) (by kernel_rfl) i1 sk ?_
 rintro e H1 i3
 have h:=i2 e H1 i3
 refine nx [(0,vi i),(2,vi to),(3,vp d),(7,vi e)]<|ge<|ar 1<|eT 3 [] [(11,.bool (decide (e<to)))]<|qx h (λc4 h=>?_) (λc4 h=>?_)
 ·refine aJ 11 (zX c4)<|nc<|ge<|p0 1<|oo 3<|yS [11] [] ?_
  obtain⟨a,rfl,xB,xN,xC,q6,ha⟩:=h
  have h:=ha
  refine As (some 14) 75 q6 [3] [(3,Vq a),(14,vs xB xN xC)]<|eH 4 [] [(18,vi (zY ((zY (i*64))+e)))]<|t1 (some 19) (λb=>vs (pa b) 1 1) (.cells #[vi (zY ((zY (i*64))+e))] 3) ?_
  intro b H2 e7 e8
  replace h:=h b H2 e7 e8
  refine kc [18] [(19,vs (pa b) 1 1)]<|zi (some 20) (cF #[75,75] 75 #[vs xB xN xC,vs (pa b) 1 1]) _ (λ_=>by kernel_rfl) (bJ (T:=3) (sz:=1) (bytes:=8) (zero:=(vi 0:Value)) C3 C3 rfl (show prog.info? 3=some t3 from by kernel_rfl) (by kernel_rfl) (by kernel_rfl) (by decide) (by kernel_rfl) (by first | exact h | (simpa only[Value.cells,C9]using h))) ?_;clear h
  rintro _ H3 ⟨ap,g,rfl,h⟩
  exact kc [14,19] [(20,vs ap (xN+1) g)]<|have⟨q10,h⟩:=h;eQ 75 (vs ap (xN+1) g) q10<|λH4 e9=>have h:=h H4 e9;kc [20] []<|zq<|aA<|aC<|oo 2<|eT 3 [7] [(7,vi (zY (e+2)))]<|aR ((zY (e+2)):Int) sk h
 exact aK 11 (zQ c4)<|zk 0<|aB<|aB<|aN<|gH (fn:=f74) [] hQ (show bV _ _ _ [] _ from .nil) h
def dY.K0:=EP f100
def dY.pt(tv:zW)(H:zV)(R:zv):=
 bM.C tv H (λv H1=> ∃x,v=.bool x/\
 R (.bool x) H1)
theorem dY.link(h:pt d H R):C d H R:=by
 refine sa K0 5 func100 ?_
 intro w0 Q hQ
 unfold pt at h
 exact nx [(0,vp d)]<|ar 0<|eT 1 [] []<|ar 1<|va 1 [(3,vp d)]<|zo 4 (λx=>[(4,.bool x)]) h λx H1 h=>kb 1 [2] [.bool x] hQ h
def fC.K0:=EP f102
def fC.K2:=cb K0
def fC.K4:=cb K2
def fC.K11:=ca K4
def fC.pt(tv:zW)(d b:Int)(H:zV)(R:zv):=
 bM.C tv H (λv H1=> ∃x,v=.bool x/\
 if x=true then(
 R (vu 20) H1)
 else
 ∃a,tv=some a/\
 ∃af,hat H1 a=some (vp af)/\
 ∃f,af=some f/\
 ∃ag,hat H1 f=some (vp ag)/\
 ∃e,ag=some e/\
 ∃g,hat H1 e=some (vp g)/\
 ∃n,hat H1 (a.add 1)=some (vi n)/\
 cL.C g n 0 2 H1 (λak H2=> ∃ra rb,ak=.tuple #[vi ra,vi rb]/\
 if rb=0 then(
 ∃u,hat H2 a=some (vp u)/\
 ∃z,u=some z/\
 ∃ab,hat H2 z=some (vp ab)/\
 ∃y,ab=some y/\
 ∃t,hat H2 y=some (vp t)/\
 ∃aa,t=some aa/\
 ∃m,hat H2 aa=some (vp m)/\
 bU.C m ra d H2 (λal H3=> ∃ae,al=vi ae/\
 ∃r,hat H3 a=some (vp r)/\
 ∃s,r=some s/\
 ∃p,hat H3 s=some (vp p)/\
 ∃o,p=some o/\
 ∃k,hat H3 o=some (vp k)/\
 ∃q,k=some q/\
 ∃i,hat H3 q=some (vp i)/\
 bU.C i (zY (ra+1)) b H3 (λai H4=> ∃ah,ai=vi ah/\
 jT.C 1 ra H4 (λaj H5=> ∃j ac,aj=.tuple #[vu j,vi ac]/\
 R (vu j) H5))))
 else
 R (vu 20) H2))
theorem fC.link(h:pt d i j H R):C d i j H R:=by
 refine sa K0 72 func102 ?_
 intro w0 Q hQ
 unfold pt zY at h
 refine nx [(0,vp d),(1,vu i),(2,vu j)]<|ar 0<|eT 1 [] []<|ge<|ar 1<|eH 1 [] [(11,vp d)]<|sv 12 [11] h λx H1 h=>yH<|qx h (λc1 h=>?_) (λc1 h=>?_)
 ·exact aJ 12 c1<|ar 2<|kb 1 [6] [vu 20] hQ h
 refine aK 12 (zZ c1)<|nc<|ge ?_
 obtain⟨a,rfl,af,q3,f,rfl,ag,q4,e,rfl,g,q5,n,q6,ha⟩:=h
 refine yq 3 (Code.ops K11) [(14,a,[Vq f]),(14,f,[Vq e]),(14,e,[vp g]),(14,(a.add 1),[vi n])] 20 (bv 20 0) (show aE _ _ _ from⟨⟨q3,EO⟩,⟨q4,EO⟩,⟨q5,EO⟩,⟨q6,EO⟩,EO⟩)<|zr 0 (some 14) (Vq a) (bv 20 1) [(0,Vq a),(1,vu i),(2,vu j),(14,Vq a)]<|aG 1 15 (Vq a) (bv 20 3) [14]<|aG 2 16 (Vq a) (bv 20 7) [15]<|kT 3 17 (Vq f) (bv 20 15) [16] (aQ 23 (Vq a)) (yY 14 yX)<|aG 4 18 (Vq f) (bv 20 31) [17]<|aG 5 19 (Vq f) (bv 20 63) [18]<|kT 6 20 (Vq e) (bv 20 127) [19] (aQ 49 (Vq f)) (yY 14 yQ)<|aG 7 21 (Vq e) (bv 20 255) [20]<|aG 8 22 (Vq e) (bv 20 511) [21]<|kT 9 23 (vp g) (bv 20 1023) [22] (aQ 52 (Vq e)) (yY 14 yJ)<|aG 10 24 (Vq a) (bv 20 2047) []<|aG 11 25 (Vq a) (bv 20 4095) [24]<|aG 12 26 (Vq (a.add 1)) (bv 20 8191) [25]<|kT 13 27 (vi n) (bv 20 16383) [26] (aQ 3 (Vq (a.add 1))) (yY 14 yK)<|yx 14 (some 28) (bv 20 32767) 53 #[vp g,vi n,vi 0,vi 2] ha ?_;clear ha
 rintro ak H2 ⟨ra,rb,rfl,h⟩
 refine⟨[(0,Vq a),(1,vu i),(2,vu j),(28,.tuple #[vi ra,vi rb])],pk,(show aE _ _ _ from⟨EO,EO,EO,EO,EO⟩),?_⟩
 refine zB 15 (some 13) (.tuple #[vi ra,vi rb]) (bv 20 65535) [(0,Vq a),(1,vu i),(2,vu j),(13,.tuple #[vi ra,vi rb])] (pure (.value (.tuple #[vi ra,vi rb])):Sem Next) (λ_ _ _ _ _=>rfl)<|kT 16 29 (vi ra) (bv 20 131071) [] (pure (.value (vi ra)):Sem Next) (λ_ _ _ _ _=>rfl)<|kT 17 30 (vi rb) (bv 20 262143) [13] (pure (.value (vi rb)):Sem Next) (λ_ _ _ _ _=>rfl)<|kT 18 7 (vi ra) (bv 20 524287) [29] (pure (.value (vi ra)):Sem Next) (λ_ _ _ _ _=>rfl)<|kT 19 8 (vi rb) (bv 20 1048575) [30] (pure (.value (vi rb)):Sem Next) (λ_ _ _ _ _=>rfl)<|eq [(0,Vq a),(1,vu i),(2,vu j),(7,vi ra),(8,vi rb)] sk<|yz<|aC<|ge<|ar 4<|u5 2 [(0,Vq a),(1,vu i),(2,vu j),(7,vi ra),(32,.bool (rb !=0))]<|qx h (λc7 h=>?_) (λc7 h=>?_)
 ·refine aK 32 (CX.mpr c7)<|nc<|ar 6<|eH 3 [32] [(35,Vq a)]<|have⟨u,q9,h⟩:=h;hH 36 23 q9 [35] ?_
  obtain⟨z,rfl,hb⟩:=h
  refine eH 2 [36] [(38,Vq z)]<|have⟨ab,q10,h⟩:=hb;hH 39 49 q10 [38] ?_
  obtain⟨y,rfl,hc⟩:=h
  refine eH 2 [39] [(41,Vq y)]<|have⟨t,q11,h⟩:=hc;hH 42 52 q11 [41] ?_
  obtain⟨aa,rfl,hd⟩:=h
  refine eH 2 [42] [(44,Vq aa)] ?_
  obtain⟨m,q12,h⟩:=hd
  refine hH 45 78 q12 [44]<|eH 2 [1] [(46,vi ra),(47,vu i)]<|zC (some 48) h ?_;clear h
  rintro al H3 ⟨ae,rfl,h⟩
  refine kc [45,46,47] []<|yH<|ar 7<|eH 3 [0] [(51,Vq a)]<|have⟨r,q13,h⟩:=h;hH 52 23 q13 [51] ?_
  obtain⟨s,rfl,he⟩:=h
  refine eH 2 [52] [(54,Vq s)]<|have⟨p,q14,h⟩:=he;hH 55 49 q14 [54] ?_
  obtain⟨o,rfl,hf⟩:=h
  refine eH 2 [55] [(57,Vq o)]<|have⟨k,q15,h⟩:=hf;hH 58 52 q15 [57] ?_
  obtain⟨q,rfl,hg⟩:=h
  exact eH 2 [58] [(60,Vq q)]<|have⟨b,q16,h⟩:=hg;hH 61 78 q16 [60]<|eH 3 [2] [(63,vi (zY (ra+1))),(64,vu j)]<|zo 65 (λah=>[(7,vi ra)]) h λah H4 h=>yH<|ar 8<|va 1 [(67,vi ra)]<|zI 68 (λtv ac=>[(68,.tuple #[vu tv,vi ac])]) h λtv ac H5 h=>u5 5 [(9,vu tv)]<|ar 9<|kb 2 [6] [vu tv] hQ h
 exact aJ 32 (CY.mpr c7)<|ar 5<|kb 1 [6] [vu 20] hQ h
def dH.K0:=EP f112
def dH.K2:=cb K0
def dH.pt(b:Int)(n:zW)(H:zV)(R:zv):=
 ∃a,n=some a/\
 ∃x,hat H a=some (vp x)/\
 ∃xA,x=some xA/\
 ∃o,hat H xA=some (vp o)/\
 ∃t,o=some t/\
 ∃p,hat H t=some (vp p)/\
 ∃q,p=some q/\
 ∃r,hat H q=some (vp r)/\
 ∃s,r=some s/\
 ∃k,hat H s=some (vp k)/\
 cG.C k b H (λv H1=> ∃ra rb,v=.tuple #[vu ra,vi rb]/\
 ∃aa,hat H1 a=some (vp aa)/\
 ∃g,aa=some g/\
 ∃ab,hat H1 g=some (vp ab)/\
 ∃f,ab=some f/\
 ∃z,hat H1 f=some (vp z)/\
 ∃i,z=some i/\
 ∃y,hat H1 i=some (vp y)/\
 ∃e,y=some e/\
 ∃d,hat H1 e=some (vp d)/\
 ∃j,hat H1 a=some (vp j)/\
 bA.C j ra H1 (λac H2=> ∃m,ac=vu m/\aL H2 a 0 [Vq g]/\aL H2 g 0 [Vq f]/\aL H2 f 0 [Vq i]/\aL H2 i 0 [Vq e]/\aL H2 e 0 [vp d]/\
 bU.C d b m H2 (λae H3=> ∃u,ae=vi u/\
 R (.tuple #[]) H3)))
theorem dH.link(h:pt i d H R):C i d H R:=by
 refine sa K0 41 func112 ?_
 intro w0 Q hQ
 unfold pt at h
 refine nx [(0,vi i),(1,vp d)]<|ar 0 ?_
 obtain⟨a,rfl,x,q1,ha⟩:=h
 refine As (some 6) 37 q1 [1] [(1,Vq a),(6,vp x)] ?_
 obtain⟨xA,rfl,hb⟩:=ha
 refine eH 2 [6] [(8,Vq xA)]<|have⟨o,q2,h⟩:=hb;hH 9 23 q2 [8] ?_
 obtain⟨t,rfl,hc⟩:=h
 refine eH 2 [9] [(11,Vq t)]<|have⟨p,q3,h⟩:=hc;hH 12 49 q3 [11] ?_
 obtain⟨q,rfl,hd⟩:=h
 refine eH 2 [12] [(14,Vq q)]<|have⟨r,q4,h⟩:=hd;hH 15 52 q4 [14] ?_
 obtain⟨s,rfl,he⟩:=h
 refine eH 2 [15] [(17,Vq s)]<|have⟨k,q5,h⟩:=he;hH 18 78 q5 [17]<|eH 1 [] [(19,vi i)]<|yT 20 [18,19] h λra rb H1 h=>eT 5 [20] [(3,vu ra)] ?_
 obtain⟨aa,q6,g,rfl,ab,q7,f,rfl,z,q8,b,rfl,y,q9,e,rfl,n,q10,j,q11,hf⟩:=h
 refine yq 1 (Code.ops K2) [(17,a,[Vq g]),(17,g,[Vq f]),(17,f,[Vq b]),(17,b,[Vq e]),(17,e,[vp n]),(16,a,[vp j])] 18 (bv 18 0) (show aE _ _ _ from⟨⟨q6,EO⟩,⟨q7,EO⟩,⟨q8,EO⟩,⟨q9,EO⟩,⟨q10,EO⟩,⟨q11,EO⟩,EO⟩)<|zB 0 (some 23) (Vq g) (bv 18 1) [(0,vi i),(1,Vq a),(3,vu ra),(23,Vq g)] (aQ 37 (Vq a)) (yY 17 yX)<|aG 1 24 (Vq g) (bv 18 3) [23]<|aG 2 25 (Vq g) (bv 18 7) [24]<|kT 3 26 (Vq f) (bv 18 15) [25] (aQ 23 (Vq g)) (yY 17 yQ)<|aG 4 27 (Vq f) (bv 18 31) [26]<|aG 5 28 (Vq f) (bv 18 63) [27]<|kT 6 29 (Vq b) (bv 18 127) [28] (aQ 49 (Vq f)) (yY 17 yJ)<|aG 7 30 (Vq b) (bv 18 255) [29]<|aG 8 31 (Vq b) (bv 18 511) [30]<|kT 9 32 (Vq e) (bv 18 1023) [31] (aQ 52 (Vq b)) (yY 17 yK)<|aG 10 33 (Vq e) (bv 18 2047) [32]<|aG 11 34 (Vq e) (bv 18 4095) [33]<|kT 12 35 (vp n) (bv 18 8191) [34] (aQ 78 (Vq e)) (yY 17 yV)<|aG 13 36 (vi i) (bv 18 16383) [0]<|kT 14 37 (vp j) (bv 18 32767) [1] (aQ 37 (Vq a)) (yY 16 yW)<|aG 15 38 (vu ra) (bv 18 65535) [3]<|yx 16 (some 39) (bv 18 131071) 13 #[vp j,vu ra] hf ?_;clear hf
 rintro ac H2 ⟨m,rfl,f12,f13,f14,f15,f16,h⟩
 refine⟨[(35,vp n),(36,vi i),(39,vu m)],pk,(show aE _ _ _ from⟨f12,f13,f14,f15,f16,EO,EO⟩),?_⟩
 refine yx 17 (some 40) (bv 18 262143) 54 #[vp n,vi i,vu m] h ?_;clear h
 rintro ae H3 ⟨u,rfl,h⟩
 refine⟨[],pk,(show aE _ _ _ from⟨EO,EO,EO,EO,EO,EO,EO⟩),?_⟩
 exact eq [] sk<|yz<|gH (fn:=f112) [] hQ (show bV _ _ _ [] _ from .nil) h
variable{R:zv}{d j:Int}{H:zV}{i:zW}
def cG.K0:=EP f33
def cG.pt(m:zW)(a:Int)(H:zV)(R:zv):=
 gS.C m a H (λv H1=> ∃x,v=vp x/\
 eU x (
 R (.tuple #[vu 0,vi 18]) H1) (λxA=>
 ∃b,hat H1 xA=some (vu b)/\
 R (.tuple #[vu b,vi 0]) H1))
theorem cG.link(h:pt i d H R):C i d H R:=by
 refine sa K0 15 func33 ?_
 intro w0 Q hQ
 unfold pt at h
 refine nx [(0,vp i),(1,vi d)]<|ar 0<|eT 2 [] []<|ge<|ar 1<|va 2 [(7,vp i),(8,vi d)]<|zo 9 (λx=>[(9,vp x)]) h λx H1 h=>u5 1 [(6,vp x)]<|ar 2<|eH 1 [] [(10,vp x)] ?_
 rcases x with _ | xA
 ·rw[CP]at h
  exact u5 1 [(6,vp none),(11,VF)]<|yL 11<|nc<|ar 4<|kb 2 [4,5] [vu 0,vi 18] hQ h
 rw[CK]at h
 exact u5 1 [(6,Vq xA),(11,VT)]<|wc 11<|ar 3<|va 2 [(13,Vq xA)]<|have⟨b,q1,h⟩:=h;hH 14 28 q1 [13]<|kb 2 [4,5] [vu b,vi 0] hQ h
def bB.K0:=EP f47
def bB.pt(m:zW)(y:Int)(H:zV)(R:zv):=
 ∀b H1,b=H.size->H1=H.push (.cells #[vi 0,vi 0,vi 0,vi 0,vi 0,vi 0,vi 0] 108)->
 gL.C m y H1 (λv H2=> ∃x,v=vp x/\
 eU x (
 (aH H2 (ad b) 0 7)/\ ∀H3,H3=aP H2 (ad b) [vi 0,vi 0,vi 0,vi 0,vi 0,vi 0,vi 0] 0->
 ∃ab z rN o q r p,aL H3 (ad b) 0 [vi ab,vi z,vi rN,vi o,vi q,vi r,vi p]/\
 R (.tuple #[.agg #[vi ab,vi z,vi rN,vi o,vi q,vi r,vi p],VF]) H3) (λxA=>
 ∃s n xN d f e a,aL H2 xA 0 [vi s,vi n,vi xN,vi d,vi f,vi e,vi a]/\
 (aH H2 (ad b) 0 7)/\ ∀H4,H4=aP H2 (ad b) [vi s,vi n,vi xN,vi d,vi f,vi e,vi a] 0->
 ∃u t aa i g k j,aL H4 (ad b) 0 [vi u,vi t,vi aa,vi i,vi g,vi k,vi j]/\
 R (.tuple #[.agg #[vi u,vi t,vi aa,vi i,vi g,vi k,vi j],VT]) H4))
theorem bB.link(h:pt i d H R):C i d H R:=by
 refine sa K0 17 func47 ?_
 intro w0 Q hQ
 unfold pt at h
 refine nx [(0,vp i),(1,vi d)]<|ar 0<|t1 (some 4) (λb=>vp (pa b)) (.cells #[vi 0,vi 0,vi 0,vi 0,vi 0,vi 0,vi 0] 108)<|λb H1 e1 e2=>have h:=h b H1 e1 e2;kc [] [(4,vp (pa b))]<|eT 1 [] []<|ar 1<|eH 2 [0,1] [(7,vp i),(8,vi d)]<|sv 9 [7,8] h λx H2 h=>eT 1 [9] [(6,vp x)]<|ge<|ar 2<|eH 1 [] [(10,vp x)] ?_
 rcases x with _ | xA
 ·rw[CP]at h
  refine eT 1 [6,10] [(6,vp none),(11,VT)]<|wc 11<|ar 3<|eH 1 [6,11] [(12,.agg #[vi 0,vi 0,vi 0,vi 0,vi 0,vi 0,vi 0])]<|have⟨q4,h⟩:=h;fN 108 [vi 0,vi 0,vi 0,vi 0,vi 0,vi 0,vi 0] q4<|λH3 e3=>have h:=h H3 e3;kc [12] []<|eT 1 [] [(5,VF)]<|zx ?_
  show At _ _ _ _ _ (Q .ret)
  exact have⟨ab,z,rN,o,q,r,p,q5,h⟩:=h;kW (fn:=f47) [.agg #[vi ab,vi z,vi rN,vi o,vi q,vi r,vi p],VF] hQ (show bV _ _ _ [.cell 4 108,.tmp 5] _ from .cell (by kernel_rfl) (eR (λ_=>by kernel_rfl) (λ_=>by kernel_rfl) q5) (.tmp (by kernel_rfl) (.nil))) h
 rw[CK]at h
 refine eT 1 [6,10] [(6,Vq xA),(11,VF)]<|yL 11<|nc<|ar 4<|eH 3 [6,11] [(15,Vq xA)]<|have⟨s,n,xN,y,f,e,a,q6,h⟩:=h;zN 16 108 q6 [15]<|have⟨q8,h⟩:=h;fN 108 [vi s,vi n,vi xN,vi y,vi f,vi e,vi a] q8<|λH4 e7=>have h:=h H4 e7;kc [16] []<|eT 1 [] [(5,VT)]<|zx ?_
 show At _ _ _ _ _ (Q .ret)
 exact have⟨u,t,aa,m,g,k,j,q9,h⟩:=h;kW (fn:=f47) [.agg #[vi u,vi t,vi aa,vi m,vi g,vi k,vi j],VT] hQ (show bV _ _ _ [.cell 4 108,.tmp 5] _ from .cell (by kernel_rfl) (eR (λ_=>by kernel_rfl) (λ_=>by kernel_rfl) q9) (.tmp (by kernel_rfl) (.nil))) h
def bU.K0:=EP f54
def bU.pt(m:zW)(a wv:Int)(H:zV)(R:zv):=
 gS.C m a H (λv H1=> ∃x,v=vp x/\
 eU x (
 R (vi 18) H1) (λxA=>
 (aH H1 xA 0 1)/\ ∀H2,H2=aP H1 xA [vu wv] 0->
 R (vi 0) H2))
theorem bU.link(h:pt i d j H R):C i d j H R:=by
 refine sa K0 16 func54 ?_
 intro w0 Q hQ
 unfold pt at h
 refine nx [(0,vp i),(1,vi d),(2,vu j)]<|ar 0<|eT 1 [] []<|ar 1<|eH 2 [0,1] [(8,vp i),(9,vi d)]<|sv 10 [8,9] h λx H1 h=>eT 1 [10] [(7,vp x)]<|ge<|ar 2<|eH 1 [] [(11,vp x)] ?_
 rcases x with _ | xA
 ·rw[CP]at h
  exact eT 1 [7,11] [(7,vp none),(12,VT)]<|wc 12<|ar 3<|kb 1 [6] [vi 18] hQ h
 rw[CK]at h
 refine eT 1 [7,11] [(7,Vq xA),(12,VF)]<|yL 12<|nc<|ar 4<|va 3 [(14,vu j),(15,Vq xA)]<|have⟨q2,h⟩:=h;eQ 28 (vu j) q2<|λH2 e1=>have h:=h H2 e1;⟨[],pk,?_⟩
 exact yH<|ar 5<|kb 1 [6] [vi 0] hQ h
def gS.K0:=EP f75
def gS.pt(m:zW)(b:Int)(H:zV)(R:zv):=
 if b<0 then(
 R (vp none) H)
 else
 gL.C m (zY (Int.tdiv b 64)) H (λv H1=> ∃x,v=vp x/\
 eU x (
 R (vp none) H1) (λxA=>
 ∃d,hat H1 (xA.add 2)=some (vi d)/\
 if(tmod b 64)>=d then(
 R (vp none) H1)
 else
 ((0:Int)<=(tmod b 64)/\(tmod b 64)< (64:Int))/\
 R (Vq ((xA.add 8).add (Int.toNat (tmod b 64)*1))) H1))
theorem gS.link(h:pt i d H R):C i d H R:=by
 refine sa K0 30 func75 ?_
 intro w0 Q hQ
 unfold pt zY at h
 refine nx [(0,vp i),(1,vi d)]<|ar 0<|eT 1 [] []<|ge<|ar 1<|eT 2 [] [(7,.bool (decide (d<0)))]<|qx h (λc1 h=>?_) (λc1 h=>?_)
 ·exact aJ 7 (zX c1)<|ar 2<|kb 1 [4] [vp none] hQ h
 refine aK 7 (zQ c1)<|nc<|ar 3<|eH 3 [0,7] [(8,vp i),(10,vi (zY (Int.tdiv d 64)))]<|sv 11 [8,10] h λx H1 h=>eT 1 [11] [(5,vp x)]<|ge<|ar 4<|eH 1 [] [(12,vp x)] ?_
 rcases x with _ | xA
 ·rw[CP]at h
  exact eT 11 [5,12] [(5,vp none),(23,VT)]<|wc 23<|ar 5<|kb 1 [4] [vp none] hQ h
 rw[CK]at h
 refine eH 8 [5,12] [(5,Vq xA),(14,VF),(16,vi (tmod d 64)),(20,Vq (xA.add 2))]<|have⟨b,q3,h⟩:=h;hH 21 3 q3 [20]<|eT 2 [14,16,21] [(23,.bool (decide ((tmod d 64)>=b)))]<|qx h (λc4 h=>?_) (λc4 h=>?_)
 ·exact aJ 23 (zX c4)<|ar 5<|kb 1 [4] [vp none] hQ h
 exact aK 23 (zQ c4)<|nc<|ar 6<|va 5 [(26,vi (tmod d 64)),(28,Vq (xA.add 8))]<|have⟨q6,h⟩:=h;zd 29 (bE 159 (Vq (xA.add 8)) (vi (tmod d 64))) (Vq ((xA.add 8).add (Int.toNat (tmod d 64)*1))) (λw _=>bQ (P:=prog) (t:=159) (elem:=28) (sz:=1) (n:=64) (a:=(xA.add 8)) (k:=.i64) (i:=(tmod d 64)) underlying159 (λ_=>by kernel_rfl) q6.1 q6.2 w) [26,28]<|kb 1 [4] [Vq ((xA.add 8).add (Int.toNat (tmod d 64)*1))] hQ h
def gL.K0:=EP f91
def gL.pt(m:zW)(b:Int)(H:zV)(R:zv):=
 eU m (
 R (vp none) H) (λmA=>
 if b<0 then(
 R (vp none) H)
 else
 ∃xB xN xC,hat H mA=some (vs xB xN xC)/\
 if b>=(xN:Int)then(
 R (vp none) H)
 else
 ∃p f n,hat H mA=some (vs p f n)/\
 ∃e,p=some e/\
 yZ b f/\
 ∃x,hat H ((e.add (Int.toNat b*72)).add 7)=some (vi x)/\
 if x=0 then(
 R (vp none) H)
 else
 ∃o g j,hat H mA=some (vs o g j)/\
 ∃d,o=some d/\
 yZ b g/\
 R (Vq (d.add (Int.toNat b*72))) H)
theorem gL.link(h:pt i d H R):C i d H R:=by
 refine sa K0 37 func91 ?_
 intro w0 Q hQ
 unfold pt at h
 refine nx [(0,vp i),(1,vi d)]<|ar 0<|eT 1 [] []<|ge<|ar 1<|eH 1 [] [(5,vp i)] ?_
 rcases i with _ | mA
 ·rw[CP]at h
  exact eT 25 [0,5] [(0,vp none),(30,VT)]<|wc 30<|ar 2<|kb 1 [4] [vp none] hQ h
 rw[CK]at h
 refine eH 6 [0,5] [(0,Vq mA),(11,.bool (decide (d<0)))]<|qx h (λc1 h=>?_) (λc1 h=>?_)
 ·exact o0 11 (zX c1)<|eT 19 [11] [(30,VT)]<|wc 30<|ar 2<|kb 1 [4] [vp none] hQ h
 refine o0 11 (zQ c1)<|eH 4 [] [(12,vi d),(15,Vq mA)]<|have⟨xB,xN,xC,q3,h⟩:=h;hH 16 155 q3 [15]<|eH 4 [11,12,16] [(20,.bool (decide (d>=(xN:Int))))]<|qx h (λc4 h=>?_) (λc4 h=>?_)
 ·exact o0 20 (zX c4)<|eT 10 [20] [(30,VT)]<|wc 30<|ar 2<|kb 1 [4] [vp none] hQ h
 refine o0 20 (zQ c4)<|eH 3 [] [(23,Vq mA)]<|have⟨p,f,n,q6,h⟩:=h;hH 24 155 q6 [23]<|eH 1 [] [(25,vi d)] ?_
 obtain⟨e,rfl,q7,ha⟩:=h
 refine yI (some 26) 155 161 72 e f n .i64 d DT q7.1 q7.2 [24,25] [(26,Vq (e.add (Int.toNat d*72)))]<|eH 1 [26] [(27,Vq ((e.add (Int.toNat d*72)).add 7))]<|have⟨x,q8,h⟩:=ha;hH 28 3 q8 [27]<|eT 2 [20,28] [(30,.bool (x==0))]<|qx h (λc9 h=>?_) (λc9 h=>?_)
 ·exact aJ 30 (zK c9)<|ar 2<|kb 1 [4] [vp none] hQ h
 refine aK 30 (zJ c9)<|nc<|ar 3<|eH 3 [0,30] [(33,Vq mA)]<|have⟨o,g,j,q11,h⟩:=h;hH 34 155 q11 [33]<|eH 1 [1] [(35,vi d)] ?_
 obtain⟨b,rfl,q12,hb⟩:=h
 exact BH (some 36) 155 161 72 b g j .i64 d DT q12.1 q12.2 [(36,Vq (b.add (Int.toNat d*72)))]<|kb 1 [4] [Vq (b.add (Int.toNat d*72))] hQ hb
def gU.K0:=EP f98
def gU.pt(m:zW)(a nv:Int)(H:zV)(R:zv):=
 gL.C m a H (λv H1=> ∃x,v=vp x/\
 eU x (
 R (.tuple #[vi 0,vi 19]) H1) (λxA=>
 if nv<1 then(
 R (.tuple #[vi 0,vi 1]) H1)
 else
 ∃b,hat H1 (xA.add 2)=some (vi b)/\
 if nv>(zY (64-b))then(
 R (.tuple #[vi 0,vi 2]) H1)
 else
 ∃d,hat H1 (xA.add 2)=some (vi d)/\
 (aH H1 (xA.add 2) 0 1)/\ ∀H2,H2=aP H1 (xA.add 2) [vi (zY (d+nv))] 0->
 ∃e,hat H2 (xA.add 2)=some (vi e)/\
 R (.tuple #[vi (zY ((zY ((zY (a*64))+e))-nv)),vi 0]) H2))
theorem gU.link(h:pt i d j H R):C i d j H R:=by
 refine sa K0 47 func98 ?_
 intro w0 Q hQ
 unfold pt zY at h
 refine nx [(0,vp i),(1,vi d),(2,vi j)]<|ar 0<|eT 2 [] []<|ar 1<|eH 2 [0] [(9,vp i),(10,vi d)]<|sv 11 [9,10] h λx H1 h=>eT 1 [11] [(8,vp x)]<|ge<|p0 0<|ar 2<|eH 1 [] [(13,vp x)] ?_
 rcases x with _ | xA
 ·rw[CP]at h
  exact eT 2 [8,13] [(8,vp none),(12,VT)]<|wc 12<|ar 3<|kb 2 [6,7] [vi 0,vi 19] hQ h
 rw[CK]at h
 refine eT 2 [8,13] [(8,Vq xA),(12,VF)]<|yL 12<|ar 4<|eT 3 [12] [(15,.bool (decide (j<1)))]<|qx h (λc1 h=>?_) (λc1 h=>?_)
 ·exact aJ 15 (zX c1)<|ar 5<|kb 2 [6,7] [vi 0,vi 1] hQ h
 refine aK 15 (zQ c1)<|ar 6<|eH 5 [15] [(19,vi j),(23,Vq (xA.add 2))]<|have⟨b,q3,h⟩:=h;hH 24 3 q3 [23]<|eT 3 [19,24] [(18,.bool (decide (j>(zY (64-b)))))]<|qx h (λc4 h=>?_) (λc4 h=>?_)
 ·exact aJ 18 (zX c4)<|ar 7<|kb 2 [6,7] [vi 0,vi 2] hQ h
 exact aK 18 (zQ c4)<|zp<|aA<|aC<|ar 8<|eH 4 [18] [(27,Vq xA),(30,Vq (xA.add 2))]<|have⟨nv,q6,h⟩:=h;hH 31 3 q6 [30]<|eH 5 [27,31] [(33,vi (zY (nv+j))),(36,Vq (xA.add 2))]<|have⟨q8,h⟩:=h;eQ 3 (vi (zY (nv+j))) q8<|λH2 e7=>have h:=h H2 e7;kc [33,36] []<|yH<|ar 9<|eH 6 [1,8] [(38,vi (zY (d*64))),(42,Vq (xA.add 2))]<|have⟨e,q9,h⟩:=h;hH 43 3 q9 [42]<|kb 5 [6,7] [vi (zY ((zY ((zY (d*64))+e))-j)),vi 0] hQ h
namespace iI
def K0:=EP f99
def K2:=cb K0
def K4:=cb K2
def Ar:=cb K4
def Al:=ca Ar
def AP:=cb Ar
def Au:=ca Al
def Bf:=ca Au
def AO:=cb AP
def Bv:=cb AO
def AV:=ca Bv
end iI
def iI.pt(m:zW)(d b:Int)(H:zV)(R:zv):=
 eU m (
 R (.tuple #[vi 0,vi 1]) H) (λmA=>
 if d<0 then(
 R (.tuple #[vi 0,vi 1]) H)
 else
 if d>4 then(
 R (.tuple #[vi 0,vi 1]) H)
 else
 if b<0 then(
 R (.tuple #[vi 0,vi 1]) H)
 else
 if b>3 then(
 R (.tuple #[vi 0,vi 1]) H)
 else
 ∃xB xN xC,hat H mA=some (vs xB xN xC)/\
 if(xN:Int)=0 then(
 R (.tuple #[vi 0,vi 1]) H)
 else
 ∃x,hat H (mA.add 2)=some (vi x)/\
 if x=0 then(
 R (.tuple #[vi 0,vi 2]) H)
 else
 ∃(y:zw) (m24:Int->zV->Nat),y 0 H/\ ∀k H1,y k H1->
 ∃u o p,hat H1 mA=some (vs u o p)/\
 ∃n,u=some n/\
 yZ k o/\
 ∃q,hat H1 ((n.add (Int.toNat k*72)).add 7)=some (vi q)/\
 if q>0 then(
 (y (zY (k+1)) H1/\m24 (zY (k+1)) H1<m24 k H1))
 else
 ∃r,hat H1 (mA.add 1)=some (vi r)/\
 (aH H1 (mA.add 1) 0 1)/\ ∀H2,H2=aP H1 (mA.add 1) [vi (zY (r+1))] 0->
 ∃s,hat H2 (mA.add 2)=some (vi s)/\
 (aH H2 (mA.add 2) 0 1)/\ ∀H3,H3=aP H2 (mA.add 2) [vi (zY (s-1))] 0->
 ∃z f g,hat H3 mA=some (vs z f g)/\
 ∃j,hat H3 (mA.add 1)=some (vi j)/\
 ∃e,z=some e/\
 yZ k f/\
 (aH H3 (e.add (Int.toNat k*72)) 0 72)/\ ∀H4,H4=aP H3 (e.add (Int.toNat k*72)) ([vi d,vi b,vi 0,vi 5,vi 5,vi 5,vi 5,vi j]++List.replicate 64 (vu 0):List Value) 0->
 R (.tuple #[vi k,vi 0]) H4)
theorem iI.link{H:zV}(h:pt i d j H R):C i d j H R:=by
 refine sa K0 83 func99 ?_
 intro w0 Q hQ
 unfold pt zY at h
 refine nx [(0,vp i),(1,vi d),(2,vi j)]<|ar 0<|eT 2 [] []<|ge<|p0 0<|ar 1<|eH 1 [] [(10,vp i)] ?_
 rcases i with _ | mA
 ·rw[CP]at h
  exact eT 26 [0,10] [(0,vp none),(9,VT)]<|wc 9<|ar 2<|kb 2 [6,7] [vi 0,vi 1] hQ h
 rw[CK]at h
 refine eH 6 [0,10] [(0,Vq mA),(16,.bool (decide (d<0)))]<|qx h (λc1 h=>?_) (λc1 h=>?_)
 ·exact o0 16 (zX c1)<|eT 20 [16] [(9,VT)]<|wc 9<|ar 2<|kb 2 [6,7] [vi 0,vi 1] hQ h
 refine o0 16 (zQ c1)<|eH 4 [16] [(20,.bool (decide (d>4)))]<|qx h (λc3 h=>?_) (λc3 h=>?_)
 ·exact o0 20 (zX c3)<|eT 16 [20] [(9,VT)]<|wc 9<|ar 2<|kb 2 [6,7] [vi 0,vi 1] hQ h
 refine o0 20 (zQ c3)<|eH 4 [20] [(24,.bool (decide (j<0)))]<|qx h (λc5 h=>?_) (λc5 h=>?_)
 ·exact o0 24 (zX c5)<|eT 12 [24] [(9,VT)]<|wc 9<|ar 2<|kb 2 [6,7] [vi 0,vi 1] hQ h
 refine o0 24 (zQ c5)<|eH 4 [24] [(28,.bool (decide (j>3)))]<|qx h (λc7 h=>?_) (λc7 h=>?_)
 ·exact o0 28 (zX c7)<|eT 8 [28] [(9,VT)]<|wc 9<|ar 2<|kb 2 [6,7] [vi 0,vi 1] hQ h
 refine o0 28 (zQ c7)<|eH 3 [] [(31,Vq mA)]<|have⟨xB,xN,xC,q9,h⟩:=h;hH 32 155 q9 [31]<|eT 4 [28,32] [(9,.bool ((xN:Int)==0))]<|qx h (λc10 h=>?_) (λc10 h=>?_)
 ·exact aJ 9 (zK c10)<|ar 2<|kb 2 [6,7] [vi 0,vi 1] hQ h
 refine aK 9 (zJ c10)<|ar 3<|eH 3 [9] [(39,Vq (mA.add 2))]<|have⟨x,q12,h⟩:=h;hH 40 3 q12 [39]<|eT 2 [40] [(36,.bool (x==0))]<|qx h (λc13 h=>?_) (λc13 h=>?_)
 ·exact aJ 36 (zK c13)<|ar 4<|kb 2 [6,7] [vi 0,vi 2] hQ h
 refine aK 36 (zJ c13)<|zp<|aA<|aC<|ar 5<|eT 1 [36] [(8,vi 0)]<|ge<|p0 1<|have⟨y,m24,i15,i16⟩:=h;bL (x:=Bf) (σ:=Int) (λs_=> [(0,Vq mA),(1,vi d),(2,vi j),(8,vi s_)]) (λs_ H=>y s_ H) (λs_ H=>m24 s_ H) (0:Int) (by kernel_rfl) i15 sk ?_
 rintro k H1 i17
 have h:=i16 k H1 i17
 refine nx [(0,Vq mA),(1,vi d),(2,vi j),(8,vi k)]<|ge<|ar 6<|eH 3 [] [(44,Vq mA)]<|have⟨u,o,p,q18,h⟩:=h;hH 45 155 q18 [44]<|eH 1 [] [(46,vi k)] ?_
 obtain⟨n,rfl,q19,ha⟩:=h
 refine yI (some 47) 155 161 72 n o p .i64 k DT q19.1 q19.2 [45,46] [(47,Vq (n.add (Int.toNat k*72)))]<|eH 1 [47] [(48,Vq ((n.add (Int.toNat k*72)).add 7))]<|have⟨q,q20,h⟩:=ha;hH 49 3 q20 [48]<|eT 1 [49] [(50,.bool (decide (q>0)))]<|qx h (λc21 h=>?_) (λc21 h=>?_)
 ·exact aJ 50 (zX c21)<|nc<|p0 2<|oo 7<|eH 3 [8,50] [(8,vi (zY (k+1)))]<|zq<|aA<|aC<|aR ((zY (k+1)):Int) sk h
 refine aK 50 (zQ c21)<|zk 1<|aB<|aB<|aN<|aC<|ar 8<|eH 3 [50] [(53,Vq mA),(55,Vq (mA.add 1))]<|have⟨r,q23,h⟩:=h;hH 56 3 q23 [55]<|eH 3 [53,56] [(57,vi (zY (r+1))),(59,Vq (mA.add 1))]<|have⟨q25,h⟩:=h;eQ 3 (vi (zY (r+1))) q25<|λH2 e24=>have h:=h H2 e24;kc [57,59] []<|yH<|ar 9<|eH 3 [] [(60,Vq mA),(62,Vq (mA.add 2))]<|have⟨s,q26,h⟩:=h;hH 63 3 q26 [62]<|eH 3 [60,63] [(64,vi (zY (s-1))),(66,Vq (mA.add 2))]<|have⟨q28,h⟩:=h;eQ 3 (vi (zY (s-1))) q28<|λH3 e27=>have h:=h H3 e27;kc [64,66] []<|yH<|ge ?_
 obtain⟨z,f,g,q29,m,q30,e,rfl,q31,hb⟩:=h
 refine yq 10 (Code.ops AV) [(15,mA,[vs (some e) f g]),(15,(mA.add 1),[vi m])] 16 (bv 16 0) (show aE _ _ _ from⟨⟨q29,EO⟩,⟨q30,EO⟩,EO⟩)<|zr 0 (some 67) (vp (some mA)) (bv 16 1) [(0,vp (some mA)),(1,vi d),(2,vi j),(8,vi k),(67,vp (some mA))]<|aG 1 68 (vp (some mA)) (bv 16 3) [67]<|aG 2 69 (vp (some mA)) (bv 16 7) [68]<|kT 3 70 (vs (some e) f g) (bv 16 15) [69] (aQ 155 (vp (some mA))) (yY 15 yX)<|aG 4 71 (vi k) (bv 16 31) []<|aG 5 72 (vi d) (bv 16 63) [1]<|aG 6 73 (vi j) (bv 16 127) [2]<|aG 7 74 (.agg #[vi 5,vi 5,vi 5,vi 5]) (bv 16 255) []<|aG 8 75 (.agg #[vi d,vi j,vi 0,vi 5,vi 5,vi 5,vi 5]) (bv 16 511) [72,73,74]<|aG 9 76 (vp (some mA)) (bv 16 1023) [0]<|aG 10 77 (vp (some mA)) (bv 16 2047) [76]<|aG 11 78 (vp (some (mA.add 1))) (bv 16 4095) [77]<|kT 12 79 (vi m) (bv 16 8191) [78] (aQ 3 (vp (some (mA.add 1)))) (yY 15 yQ)<|aG 13 80 (.agg ([vi d,vi j,vi 0,vi 5,vi 5,vi 5,vi 5,vi m]++List.replicate 64 (vu 0):List Value).toArray) (bv 16 16383) [75,79]<|kT 14 81 (vp (some (e.add (Int.toNat k*72)))) (bv 16 32767) [70,71] (bE 155 (vs (some e) f g) (vi k)) (λ_ w _ _ _=>dZ (P:=prog) (t:=155) (elem:=161) (sz:=72) (a:=e) (len:=f) (cap:=g) (k:=.i64) (i:=k) DT (λ_=>by kernel_rfl) q31.1 q31.2 w) ?_
 obtain⟨q33,h⟩:=hb
 refine fH 15 none (bv 16 65535) (jJ 161 (Vq (e.add (Int.toNat k*72))) (.agg ([vi d,vi j,vi 0,vi 5,vi 5,vi 5,vi 5,vi m]++List.replicate 64 (vu 0):List Value).toArray)) (λHz=>Hz=aP H3 (e.add (Int.toNat k*72)) ([vi d,vi j,vi 0,vi 5,vi 5,vi 5,vi 5,vi m]++List.replicate 64 (vu 0):List Value) 0) (by kernel_rfl) (λ_=>by kernel_rfl) (by intro w hw;obtain⟨w1,g1,g2,g3⟩:=iR (P:=prog) (H:=H3) (t:=161) (a:=(e.add (Int.toNat k*72))) (v:=(.agg ([vi d,vi j,vi 0,vi 5,vi 5,vi 5,vi 5,vi m]++List.replicate 64 (vu 0):List Value).toArray)) ([vi d,vi j,vi 0,vi 5,vi 5,vi 5,vi 5,vi m]++List.replicate 64 (vu 0):List Value) 72 (by kernel_rfl) (by kernel_rfl) (λ_=>by kernel_rfl) (by kernel_rfl) q33 w hw;exact⟨w1,g1,g2,g3⟩) (by kernel_rfl) ?_
 refine λH4 e32=>have h:=h H4 e32;⟨[(8,vi k)],pk,(show aE _ _ _ from⟨EO,EO,EO⟩),?_⟩
 exact eq [(8,vi k)] sk<|yz<|aC<|ar 11<|kb 3 [6,7] [vi k,vi 0] hQ h
def gV.K0:=EP f108
def gV.pt(m:zW)(e b d:Int)(H:zV)(R:zv):=
 gL.C m e H (λv H1=> ∃x,v=vp x/\
 eU x (
 R (vi 19) H1) (λxA=>
 if((((decide (b<0)) || (decide (b>=4))) || (decide (d<0))) || (decide (d>5)))=true then(
 R (vi 1) H1)
 else
 yZ b 4/\
 (aH H1 ((xA.add 3).add (Int.toNat b*1)) 0 1)/\ ∀H2,H2=aP H1 ((xA.add 3).add (Int.toNat b*1)) [vi d] 0->
 R (vi 0) H2))
theorem gV.link{e b d:Int}(h:pt i e b d H R):C i e b d H R:=by
 refine sa K0 38 func108 ?_
 intro w0 Q hQ
 unfold pt at h
 refine nx [(0,vp i),(1,vi e),(2,vi b),(3,vi d)]<|ar 0<|eT 1 [] []<|ar 1<|eH 2 [0,1] [(10,vp i),(11,vi e)]<|sv 12 [10,11] h λx H1 h=>eT 1 [12] [(9,vp x)]<|ge<|p0 0<|ar 2<|eH 1 [] [(14,vp x)] ?_
 rcases x with _ | xA
 ·rw[CP]at h
  exact eT 2 [9,14] [(9,vp none),(13,VT)]<|wc 13<|ar 3<|kb 1 [8] [vi 19] hQ h
 rw[CK]at h
 refine eT 2 [9,14] [(9,Vq xA),(13,VF)]<|yL 13<|ar 4<|iX [(2,vi b),(3,vi d),(9,Vq xA),(16,.bool ((((decide (b<0)) || (decide (b>=4))) || (decide (d<0))) || (decide (d>5))))] ?_ ?_
 ·refine aC<|qx h (λc7 h=>?_) (λc7 h=>?_)
  ·exact aJ 16 c7<|ar 5<|kb 1 [8] [vi 1] hQ h
  refine aK 16 (zZ c7)<|zp<|aA<|aC<|ar 6<|va 6 [(32,vi b),(33,vi d),(36,Vq (xA.add 3))]<|have⟨q9,h⟩:=h;zd 37 (bE 79 (Vq (xA.add 3)) (vi b)) (Vq ((xA.add 3).add (Int.toNat b*1))) (λw _=>bQ (P:=prog) (t:=79) (elem:=3) (sz:=1) (n:=4) (a:=(xA.add 3)) (k:=.i64) (i:=b) DN (λ_=>by kernel_rfl) q9.1 q9.2 w) [32,36]<|have⟨q11,h⟩:=h;eQ 3 (vi d) q11<|λH2 e10=>have h:=h H2 e10;⟨[],pk,?_⟩
  exact yH<|ar 7<|kb 1 [8] [vi 0] hQ h
 refine λhk=>va 3 [(2,vi b),(3,vi d),(9,Vq xA),(19,.bool (decide (b<0)))] ?_
 by_cases c1:b<0
 ·have b2:(decide (b<0))=true:=zX c1
  exact cD [(2,vi b),(3,vi d),(9,Vq xA),(19,VT)] (by rw[b2])<|eH 12 [19] [(16,VT)]<|zq<|xl 16 (b:=true) (v:=((((decide (b<0)) || (decide (b>=4))) || (decide (d<0))) || (decide (d>5)))) (by simp only[b2,BL])<|hk
 have b2:(decide (b<0))=false:=zQ c1
 refine cD [(2,vi b),(3,vi d),(9,Vq xA),(19,VF)] (by rw[b2])<|eH 4 [19] [(23,.bool (decide (b>=4)))] ?_
 by_cases c3:b>=4
 ·have b4:(decide (b>=4))=true:=zX c3
  exact o0 23 b4<|eH 8 [23] [(16,VT)]<|zq<|xl 16 (b:=true) (v:=((((decide (b<0)) || (decide (b>=4))) || (decide (d<0))) || (decide (d>5)))) (by simp only[b2,b4,BL])<|hk
 have b4:(decide (b>=4))=false:=zQ c3
 refine o0 23 b4<|eH 4 [23] [(27,.bool (decide (d<0)))] ?_
 by_cases c5:d<0
 ·have b6:(decide (d<0))=true:=zX c5
  exact o0 27 b6<|eH 4 [27] [(16,VT)]<|zq<|xl 16 (b:=true) (v:=((((decide (b<0)) || (decide (b>=4))) || (decide (d<0))) || (decide (d>5)))) (by simp only[b2,b4,b6,BL])<|hk
 have b6:(decide (d<0))=false:=zQ c5
 exact o0 27 b6<|eH 4 [27] [(16,.bool (decide (d>5)))]<|zq<|xl 16 (b:=(decide (d>5))) (v:=((((decide (b<0)) || (decide (b>=4))) || (decide (d<0))) || (decide (d>5)))) (by simp only[b2,b4,b6,BL])<|hk
def lE.K0:=EP f125
def lE.pt(a:Int)(H:zV)(R:zv):=
 if((decide (a<8)) || (decide (a>1024)))=true then(
 R (.tuple #[vp none,vi 1]) H)
 else
 0<=a/\a<=a/\576*a<=2 ^ 48/\a<=9223372036854775807/\
 ∀b H1,b=H.size->H1=H.push (.cells (Builtin.zeroCells (List.replicate 8 (vi 0)++List.replicate 64 (vu 0):List Value).toArray (Int.toNat a)) 161)->
 ∀d H2,d=H1.size->H2=H1.push (.cells #[vs (some (ad b)) (Int.toNat a) (Int.toNat a),vi 0,vi a] 157)->
 R (.tuple #[Vq (ad d),vi 0]) H2
theorem lE.link(h:pt d H R):C d H R:=by
 refine sa K0 15 func125 ?_
 intro w0 Q hQ
 unfold pt at h
 refine nx [(0,vi d)]<|ar 0<|eT 2 [] []<|ge<|ar 1<|iX [(0,vi d),(9,.bool ((decide (d<8)) || (decide (d>1024))))] ?_ ?_
 ·refine aC<|qx h (λc3 h=>?_) (λc3 h=>?_)
  ·exact aJ 9 c3<|ar 2<|kb 2 [2,3] [vp none,vi 1] hQ h
  refine aK 9 (zZ c3)<|nc<|ar 3<|va 1 [(0,vi d),(10,vi d)]<|have⟨q5,q6,q7,q8,h⟩:=h;zi (some 11) (mn 155 (vi d) (vi d)) (λv Hz=>v=Value.slice (some (Addr.mk H.size 0 none)) (Int.toNat d) (Int.toNat d)/\Hz=H.push (.cells (Builtin.zeroCells (List.replicate 8 (vi 0)++List.replicate 64 (vu 0):List Value).toArray (Int.toNat d)) 161)) (λ_=>by kernel_rfl) (uB (T:=161) (zero:=.agg (List.replicate 8 (vi 0)++List.replicate 64 (vu 0):List Value).toArray) DT (show prog.info? 161=some t161 from by kernel_rfl) (by kernel_rfl) q5 q6 q7 q8 (by kernel_rfl) (by decide)) ?_
  rintro _ H1 ⟨rfl,e10⟩
  obtain⟨b,e9⟩: ∃b,b=H.size:=⟨_,rfl⟩
  replace h:=h b H1 e9 e10
  rw[<-e9]
  refine kc [10] [(11,vs (pa b) (Int.toNat d) (Int.toNat d))]<|va 2 [(13,.agg #[vs (pa b) (Int.toNat d) (Int.toNat d),vi 0,vi d])]<|t1 (some 14) (λb=>vp (pa b)) (.cells #[vs (pa b) (Int.toNat d) (Int.toNat d),vi 0,vi d] 157)<|λa H2 e11 e12=>have h:=h a H2 e11 e12;⟨[(14,vp (pa a))],pk,?_⟩
  exact kb 2 [2,3] [vp (pa a),vi 0] hQ h
 refine λhk=>va 3 [(0,vi d),(6,.bool (decide (d<8)))] ?_
 by_cases c1:d<8
 ·have b2:(decide (d<8))=true:=zX c1
  exact cD [(0,vi d),(6,VT)] (by rw[b2])<|eH 3 [6] [(9,VT)]<|zq<|xl 9 (b:=true) (v:=((decide (d<8)) || (decide (d>1024)))) (by simp only[b2,BL])<|hk
 have b2:(decide (d<8))=false:=zQ c1
 exact cD [(0,vi d),(6,VF)] (by rw[b2])<|eH 3 [6] [(9,.bool (decide (d>1024)))]<|zq<|xl 9 (b:=(decide (d>1024))) (v:=((decide (d<8)) || (decide (d>1024)))) (by simp only[b2,BL])<|hk
end Go.Proofs.YtfhbhckhmnleoaaGreat
namespace Go.Proofs.YtfhbhckhmnleoaaGreat
open Go Go.Proofs.Tryz
variable{H:zV}{R:zv}{d:Int}
def iP.K0:=EP f42
def iP.pt(a nv b:Int)(H:zV)(R:zv):=
 if(((((decide (a<1)) || (decide (a>13))) || (decide (nv<0))) || (decide (nv>62))) || (decide (b>=281474976710656)))=true then(
 R (.tuple #[vu 0,vi 1]) H)
 else
 R (.tuple #[vu (Bk .u64 (Bk .u64 (Bk .u64 (zG .u64 b 16) (zG .u64 (IntKind.wrap .u64 nv) 8)) (zG .u64 (IntKind.wrap .u64 a) 3)) 5),vi 0]) H
theorem iP.link{a nv b:Int}(h:pt a nv b H R):C a nv b H R:=by
 refine sa K0 37 func42 ?_
 intro w0 Q hQ
 unfold pt at h
 refine nx [(0,vi a),(1,vi nv),(2,vu b)]<|ar 0<|eT 2 [] []<|ge<|ar 1<|iX [(0,vi a),(1,vi nv),(2,vu b),(25,.bool (((((decide (a<1)) || (decide (a>13))) || (decide (nv<0))) || (decide (nv>62))) || (decide (b>=281474976710656))))] ?_ ?_
 ·refine aC<|qx h (λc9 h=>?_) (λc9 h=>?_)
  ·exact aJ 25 c9<|ar 2<|kb 2 [6,7] [vu 0,vi 1] hQ h
  exact aK 25 (zZ c9)<|nc<|ar 3<|kb 13 [6,7] [vu (Bk .u64 (Bk .u64 (Bk .u64 (zG .u64 b 16) (zG .u64 (EQ nv) 8)) (zG .u64 (EQ a) 3)) 5),vi 0] hQ h
 refine λhk=>va 3 [(0,vi a),(1,vi nv),(2,vu b),(10,.bool (decide (a<1)))] ?_
 by_cases c1:a<1
 ·have b2:(decide (a<1))=true:=zX c1
  exact cD [(0,vi a),(1,vi nv),(2,vu b),(10,VT)] (by rw[b2])<|eH 15 [10] [(25,VT)]<|zq<|xl 25 (b:=true) (v:=(((((decide (a<1)) || (decide (a>13))) || (decide (nv<0))) || (decide (nv>62))) || (decide (b>=281474976710656)))) (by simp only[b2,BL])<|hk
 have b2:(decide (a<1))=false:=zQ c1
 refine cD [(0,vi a),(1,vi nv),(2,vu b),(10,VF)] (by rw[b2])<|eH 4 [10] [(14,.bool (decide (a>13)))] ?_
 by_cases c3:a>13
 ·have b4:(decide (a>13))=true:=zX c3
  exact o0 14 b4<|eH 11 [14] [(25,VT)]<|zq<|xl 25 (b:=true) (v:=(((((decide (a<1)) || (decide (a>13))) || (decide (nv<0))) || (decide (nv>62))) || (decide (b>=281474976710656)))) (by simp only[b2,b4,BL])<|hk
 have b4:(decide (a>13))=false:=zQ c3
 refine o0 14 b4<|eH 4 [14] [(18,.bool (decide (nv<0)))] ?_
 by_cases c5:nv<0
 ·have b6:(decide (nv<0))=true:=zX c5
  exact o0 18 b6<|eH 7 [18] [(25,VT)]<|zq<|xl 25 (b:=true) (v:=(((((decide (a<1)) || (decide (a>13))) || (decide (nv<0))) || (decide (nv>62))) || (decide (b>=281474976710656)))) (by simp only[b2,b4,b6,BL])<|hk
 have b6:(decide (nv<0))=false:=zQ c5
 refine o0 18 b6<|eH 4 [18] [(22,.bool (decide (nv>62)))] ?_
 by_cases c7:nv>62
 ·have b8:(decide (nv>62))=true:=zX c7
  exact o0 22 b8<|eH 3 [22] [(25,VT)]<|zq<|xl 25 (b:=true) (v:=(((((decide (a<1)) || (decide (a>13))) || (decide (nv<0))) || (decide (nv>62))) || (decide (b>=281474976710656)))) (by simp only[b2,b4,b6,b8,BL])<|hk
 have b8:(decide (nv>62))=false:=zQ c7
 exact o0 22 b8<|eH 3 [22] [(25,.bool (decide (b>=281474976710656)))]<|zq<|xl 25 (b:=(decide (b>=281474976710656))) (v:=(((((decide (a<1)) || (decide (a>13))) || (decide (nv<0))) || (decide (nv>62))) || (decide (b>=281474976710656)))) (by simp only[b2,b4,b6,b8,BL])<|hk
def gK.K0:=EP f52
def gK.pt(wv:Int)(H:zV)(R:zv):=
 cM.C wv H (λv H1=> ∃x,v=vi x/\
 jL.C x H1 (λd H2=> ∃a,d=.bool a/\
 if a=true then(
 dX.C wv H2 (λe H3=> ∃b,e=.bool b/\
 if b=true then(
 R (.tuple #[vi (zY (zc .u64 wv 3)),VT]) H3)
 else
 R (.tuple #[vi 0,VF]) H3))
 else
 R (.tuple #[vi 0,VF]) H2))
theorem gK.link(h:pt d H R):C d H R:=by
 refine sa K0 16 func52 ?_
 intro w0 Q hQ
 unfold pt zY at h
 refine nx [(0,vu d)]<|ar 0<|eT 2 [] []<|ge<|ar 1<|eH 1 [] [(4,vu d)]<|sv 5 [4] h λx H1 h=>sv 6 [5] h λa H2 h=>eH 2 [6] [(8,.bool (!a))]<|qx h (λc1 h=>?_) (λc1 h=>?_)
 ·have b2:(!a)=false:=CJ Bool.not (c1)
  have b22:a=true:=c1
  refine o0 8 (b:=(!a)) (v:=false) (by simp only[b2,b22,Da,C5]) ?_
  clear b2 b22
  refine eH 1 [] [(9,vu d)]<|sv 10 [9] h λb H3 h=>eT 2 [8,10] [(12,.bool (!b))]<|qx h (λc3 h=>?_) (λc3 h=>?_)
  ·exact aK 12 (CJ Bool.not (c3))<|nc<|ar 3<|kb 5 [2,3] [vi (zY (zc .u64 d 3)),VT] hQ h
  exact aJ 12 (CJ Bool.not (zZ c3))<|ar 2<|kb 2 [2,3] [vi 0,VF] hQ h
 have b2:(!a)=true:=CJ Bool.not (zZ c1)
 have b22:a=false:=zZ c1
 refine o0 8 (b:=(!a)) (v:=true) (by simp only[b2,b22,Da,C5]) ?_
 clear b2 b22
 exact eT 4 [8] [(12,VT)]<|wc 12<|ar 2<|kb 2 [2,3] [vi 0,VF] hQ h
def jT.K0:=EP f55
def jT.pt(b a:Int)(H:zV)(R:zv):=
 jL.C b H (λv H1=> ∃x,v=.bool x/\
 if x=true then(
 if((decide (a<0)) || (decide (a>=65536)))=true then(
 R (.tuple #[vu 0,vi 18]) H1)
 else
 R (.tuple #[vu (Bk .u64 (zG .u64 (IntKind.wrap .u64 a) 3) (IntKind.wrap .u64 b)),vi 0]) H1)
 else
 R (.tuple #[vu 0,vi 1]) H1)
theorem jT.link{b a:Int}(h:pt b a H R):C b a H R:=by
 refine sa K0 23 func55 ?_
 intro w0 Q hQ
 unfold pt at h
 refine nx [(0,vi b),(1,vi a)]<|ar 0<|eT 2 [] []<|ge<|p0 0<|ar 1<|eH 1 [] [(7,vi b)]<|sv 8 [7] h λx H1 h=>eT 2 [8] [(6,.bool (!x))]<|qx h (λc1 h=>?_) (λc1 h=>?_)
 ·refine aK 6 (CJ Bool.not (c1))<|ar 3<|iX [(0,vi b),(1,vi a),(10,.bool ((decide (a<0)) || (decide (a>=65536))))] ?_ ?_
  ·refine aC<|qx h (λc5 h=>?_) (λc5 h=>?_)
   ·exact aJ 10 c5<|ar 4<|kb 2 [4,5] [vu 0,vi 18] hQ h
   exact aK 10 (zZ c5)<|zp<|aA<|aC<|ar 5<|kb 8 [4,5] [vu (Bk .u64 (zG .u64 (EQ a) 3) (EQ b)),vi 0] hQ h
  refine λhk=>va 3 [(0,vi b),(1,vi a),(13,.bool (decide (a<0)))] ?_
  by_cases c3:a<0
  ·have b4:(decide (a<0))=true:=zX c3
   exact cD [(0,vi b),(1,vi a),(13,VT)] (by rw[b4])<|eH 4 [13] [(10,VT)]<|zq<|xl 10 (b:=true) (v:=((decide (a<0)) || (decide (a>=65536)))) (by simp only[b4,BL])<|hk
  have b4:(decide (a<0))=false:=zQ c3
  exact cD [(0,vi b),(1,vi a),(13,VF)] (by rw[b4])<|eH 4 [13] [(10,.bool (decide (a>=65536)))]<|zq<|xl 10 (b:=(decide (a>=65536))) (v:=((decide (a<0)) || (decide (a>=65536)))) (by simp only[b4,BL])<|hk
 exact aJ 6 (CJ Bool.not (zZ c1))<|ar 2<|kb 2 [4,5] [vu 0,vi 1] hQ h
def cM.K0:=EP f56
def cM.pt(wv:Int)(H:zV)(R:zv):=
 R (vi (zY (yF .u64 wv 7))) H
theorem cM.link(h:pt d H R):C d H R:=by
 refine sa K0 6 func56 ?_
 intro w0 Q hQ
 unfold pt zY at h
 exact nx [(0,vu d)]<|ar 0<|eT 1 [] []<|ar 1<|kb 4 [2] [vi (zY (yF .u64 d 7))] hQ h
def jL.K0:=EP f94
def jL.pt(a:Int)(H:zV)(R:zv):=
 R (.bool (((decide (a>=1)) && (decide (a<=3))) || (a==6))) H
theorem jL.link(h:pt d H R):C d H R:=by
 refine sa K0 13 func94 ?_
 intro w0 Q hQ
 unfold pt at h
 refine nx [(0,vi d)]<|ar 0<|eT 1 [] []<|ar 1<|iX [(2,.bool (((decide (d>=1)) && (decide (d<=3))) || (d==6)))] ?_ ?_
 ·exact aC<|hX [2] [.bool (((decide (d>=1)) && (decide (d<=3))) || (d==6))] hQ h
 refine λhk=>va 3 [(0,vi d),(5,.bool (decide (d>=1)))] ?_
 by_cases c1:d>=1
 ·have b2:(decide (d>=1))=true:=zX c1
  refine cD [(0,vi d),(5,VT)] (by rw[b2])<|eH 4 [5] [(9,.bool (decide (d<=3)))] ?_
  by_cases c3:d<=3
  ·have b4:(decide (d<=3))=true:=zX c3
   exact o0 9 b4<|va 4 [(2,VT)]<|zq<|iT [(2,.bool (((decide (d>=1)) && (decide (d<=3))) || (d==6)))] (by simp only[b2,b4,BL])<|hk
  have b4:(decide (d<=3))=false:=zQ c3
  exact o0 9 b4<|va 4 [(2,.bool (d==6))]<|zq<|iT [(2,.bool (((decide (d>=1)) && (decide (d<=3))) || (d==6)))] (by simp only[b2,b4,BL])<|hk
 have b2:(decide (d>=1))=false:=zQ c1
 exact cD [(0,vi d),(5,VF)] (by rw[b2])<|va 8 [(2,.bool (d==6))]<|zq<|iT [(2,.bool (((decide (d>=1)) && (decide (d<=3))) || (d==6)))] (by simp only[b2,BL])<|hk
def dX.K0:=EP f95
def dX.pt(wv:Int)(H:zV)(R:zv):=
 ju.C wv H (λv H1=> ∃ra rb rc,v=.tuple #[vi ra,vi rb,vu rc]/\
 cM.C wv H1 (λb H2=> ∃x,b=vi x/\
 if x=0 then(
 R VT H2)
 else
 if x=1 then(
 R (.bool (decide ((zc .u64 wv 3)<65536))) H2)
 else
 if x=2 then(
 R (.bool (decide ((zc .u64 wv 3)<65536))) H2)
 else
 if x=3 then(
 R (.bool (decide ((zc .u64 wv 3)<65536))) H2)
 else
 if x=6 then(
 R (.bool (decide ((zc .u64 wv 3)<65536))) H2)
 else
 if x=4 then(
 if ra=7 then(
 jF.C (zc .u64 wv 8) H2 (λd H3=> ∃a,d=.bool a/\
 R (.bool a) H3))
 else
 R (.bool (decide ((zc .u64 wv 3)<=6))) H2)
 else
 if x=5 then(
 R (.bool (((decide (ra>=1)) && (decide (ra<=13))) && (decide (rb<=62)))) H2)
 else
 R VF H2))
theorem dX.link(h:pt d H R):C d H R:=by
 refine sa K0 49 func95 ?_
 intro w0 Q hQ
 unfold pt at h
 refine nx [(0,vu d)]<|ar 0<|eT 1 [] []<|ar 1<|eH 1 [] [(7,vu d)]<|zO 8 [7] h λra rb rc H1 h=>eT 7 [8] [(3,vi ra),(4,vi rb)]<|ge<|ar 2<|eH 1 [] [(12,vu d)]<|sv 13 [12] h λx H2 h=>yH<|p0 0<|ge<|p0 7<|ge<|p0 6<|ge<|p0 5<|p0 4<|p0 3<|p0 2<|ge<|p0 1<|ge<|ge<|ar 3<|eT 2 [] [(14,.bool (x==0))]<|qx h (λc1 h=>?_) (λc1 h=>?_)
 ·exact aJ 14 (zK c1)<|zk 1<|aB<|aB<|aN<|aC<|ge<|ar 10<|kb 1 [2] [VT] hQ h
 refine aK 14 (zJ c1)<|nc<|ge<|ar 4<|eT 2 [14] [(16,.bool (x==1))]<|qx h (λc3 h=>?_) (λc3 h=>?_)
 ·exact aJ 16 (zK c3)<|zk 2<|aB<|aB<|zj<|aB<|aN<|aA<|aA<|aA<|aC<|ge<|ar 11<|kb 4 [2] [.bool (decide ((zc .u64 d 3)<65536))] hQ h
 refine aK 16 (zJ c3)<|nc<|ge<|ar 5<|eT 2 [16] [(18,.bool (x==2))]<|qx h (λc5 h=>?_) (λc5 h=>?_)
 ·exact aJ 18 (zK c5)<|zk 3<|aB<|aB<|zj<|aB<|zj<|aN<|aA<|aA<|aC<|ge<|ar 11<|kb 4 [2] [.bool (decide ((zc .u64 d 3)<65536))] hQ h
 refine aK 18 (zJ c5)<|nc<|ge<|ar 6<|eT 2 [18] [(20,.bool (x==3))]<|qx h (λc7 h=>?_) (λc7 h=>?_)
 ·exact aJ 20 (zK c7)<|zk 4<|aB<|aB<|zj<|aB<|zj<|zj<|aN<|aA<|aC<|ge<|ar 11<|kb 4 [2] [.bool (decide ((zc .u64 d 3)<65536))] hQ h
 refine aK 20 (zJ c7)<|nc<|ge<|ar 7<|eT 2 [20] [(22,.bool (x==6))]<|qx h (λc9 h=>?_) (λc9 h=>?_)
 ·exact aJ 22 (zK c9)<|zk 5<|aB<|aB<|zj<|aB<|zj<|zj<|zj<|aN<|aC<|ge<|ar 11<|kb 4 [2] [.bool (decide ((zc .u64 d 3)<65536))] hQ h
 refine aK 22 (zJ c9)<|nc<|ge<|ar 8<|eT 2 [22] [(24,.bool (x==4))]<|qx h (λc11 h=>?_) (λc11 h=>?_)
 ·refine aJ 24 (zK c11)<|zk 6<|aB<|aB<|zj<|aB<|zj<|zj<|zj<|zj<|aB<|aN<|aC<|ge<|ge<|ar 12<|u5 2 [(0,vu d),(32,.bool (ra==7))]<|qx h (λc13 h=>?_) (λc13 h=>?_)
  ·exact aJ 32 (zK c13)<|ar 13<|va 2 [(34,vu (zc .u64 d 8))]<|zo 35 (λa=>[(35,.bool a)]) h λa H3 h=>kb 1 [2] [.bool a] hQ h
  exact aK 32 (zJ c13)<|nc<|ar 14<|kb 4 [2] [.bool (decide ((zc .u64 d 3)<=6))] hQ h
 refine aK 24 (zJ c11)<|nc<|ar 9<|eT 2 [0,13,24] [(26,.bool (x==5))]<|qx h (λc15 h=>?_) (λc15 h=>?_)
 ·refine aJ 26 (zK c15)<|zk 7<|aB<|zj<|aB<|zj<|zj<|zj<|zj<|aB<|zj<|aB<|aN<|aC<|ge<|ar 15<|iX [(2,.bool (((decide (ra>=1)) && (decide (ra<=13))) && (decide (rb<=62))))] ?_ ?_
  ·exact aC<|hX [2] [.bool (((decide (ra>=1)) && (decide (ra<=13))) && (decide (rb<=62)))] hQ h
  refine λhk=>va 3 [(3,vi ra),(4,vi rb),(41,.bool (decide (ra>=1)))] ?_
  by_cases c17:ra>=1
  ·have b18:(decide (ra>=1))=true:=zX c17
   refine cD [(3,vi ra),(4,vi rb),(41,VT)] (by rw[b18])<|eH 4 [3,41] [(45,.bool (decide (ra<=13)))] ?_
   by_cases c19:ra<=13
   ·have b20:(decide (ra<=13))=true:=zX c19
    exact o0 45 b20<|va 4 [(2,.bool (decide (rb<=62)))]<|zq<|iT [(2,.bool (((decide (ra>=1)) && (decide (ra<=13))) && (decide (rb<=62))))] (by simp only[b18,b20,BL])<|hk
   have b20:(decide (ra<=13))=false:=zQ c19
   exact o0 45 b20<|va 4 [(2,VF)]<|zq<|iT [(2,.bool (((decide (ra>=1)) && (decide (ra<=13))) && (decide (rb<=62))))] (by simp only[b18,b20,BL])<|hk
  have b18:(decide (ra>=1))=false:=zQ c17
  exact cD [(3,vi ra),(4,vi rb),(41,VF)] (by rw[b18])<|va 8 [(2,VF)]<|zq<|iT [(2,.bool (((decide (ra>=1)) && (decide (ra<=13))) && (decide (rb<=62))))] (by simp only[b18,BL])<|hk
 exact aK 26 (zJ c15)<|nc<|zk 0<|zj<|aB<|zj<|zj<|zj<|zj<|aB<|zj<|aB<|zj<|aB<|aN<|aC<|ar 16<|kb 1 [2] [VF] hQ h
def kj.K0:=EP f114
def kj.pt(wv:Int)(H:zV)(R:zv):=
 cM.C wv H (λv H1=> ∃x,v=vi x/\
 if x=5 then(
 dX.C wv H1 (λb H2=> ∃a,b=.bool a/\
 if a=true then(
 ju.C wv H2 (λd H3=> ∃ra rb rc,d=.tuple #[vi ra,vi rb,vu rc]/\
 R (.tuple #[vi ra,vi rb,vu rc,VT]) H3))
 else
 R (.tuple #[vi 0,vi 0,vu 0,VF]) H2))
 else
 R (.tuple #[vi 0,vi 0,vu 0,VF]) H1)
theorem kj.link(h:pt d H R):C d H R:=by
 refine sa K0 23 func114 ?_
 intro w0 Q hQ
 unfold pt at h
 refine nx [(0,vu d)]<|ar 0<|eT 4 [] []<|ge<|ar 1<|eH 1 [] [(6,vu d)]<|sv 7 [6] h λx H1 h=>eH 2 [7] [(9,.bool (x !=5))]<|qx h (λc1 h=>?_) (λc1 h=>?_)
 ·refine o0 9 (CX.mpr c1)<|eH 1 [] [(10,vu d)]<|sv 11 [10] h λa H2 h=>eT 2 [9,11] [(13,.bool (!a))]<|qx h (λc3 h=>?_) (λc3 h=>?_)
  ·exact aK 13 (CJ Bool.not (c3))<|nc<|ar 3<|va 1 [(15,vu d)]<|BI 16 (λra rb rc=>[(16,.tuple #[vi ra,vi rb,vu rc])]) h λra rb rc H3 h=>u5 7 [(2,vi ra),(3,vi rb),(4,vu rc)]<|ar 4<|kb 7 [2,3,4,5] [vi ra,vi rb,vu rc,VT] hQ h
  exact aJ 13 (CJ Bool.not (zZ c3))<|ar 2<|kb 4 [2,3,4,5] [vi 0,vi 0,vu 0,VF] hQ h
 exact o0 9 (CY.mpr c1)<|eT 4 [9] [(13,VT)]<|wc 13<|ar 2<|kb 4 [2,3,4,5] [vi 0,vi 0,vu 0,VF] hQ h
def ju.K0:=EP f130
def ju.pt(wv:Int)(H:zV)(R:zv):=
 ∀b H1,b=H.size->H1=H.push (.cells #[vu wv] 28)->
 fY.C 3 5 (some (ad b)) H1 (λv H2=> ∃x,v=vu x/\
 fY.C 8 8 (some (ad b)) H2 (λe H3=> ∃a,e=vu a/\
 fY.C 16 48 (some (ad b)) H3 (λf H4=> ∃d,f=vu d/\
 R (.tuple #[vi (zY x),vi (zY a),vu d]) H4)))
theorem ju.link(h:pt d H R):C d H R:=by
 refine sa K0 15 func130 ?_
 intro w0 Q hQ
 unfold pt zY at h
 refine nx [(0,vu d)]<|ar 0<|t1 (some 1) (λb=>vp (pa b)) (.cells #[vu d] 28)<|λb H1 e1 e2=>have h:=h b H1 e1 e2;⟨[(1,vp (pa b))],pk,?_⟩
 exact eT 3 [] []<|ar 1<|u5 2 [(5,.func (.func 150) #[] #[vp (pa b)])]<|ar 2<|eH 1 [] [(7,.func (.func 150) #[] #[vp (pa b)])]<|sv 8 [7] h λx H2 h=>eH 2 [8] [(9,vi (zY x)),(10,.func (.func 150) #[] #[vp (pa b)])]<|sv 11 [10] h λa H3 h=>eH 2 [5,11] [(12,vi (zY a)),(13,.func (.func 150) #[] #[vp (pa b)])]<|sv 14 [13] h λwv H4 h=>kb 3 [2,3,4] [vi (zY x),vi (zY a),vu wv] hQ h
def jF.K0:=EP f131
def jF.pt(c:Int)(H:zV)(R:zv):=
 R (.bool ((decide (c<=1114111)) && ((decide (c<55296)) || (decide (c>57343))))) H
theorem jF.link(h:pt d H R):C d H R:=by
 refine sa K0 13 func131 ?_
 intro w0 Q hQ
 unfold pt at h
 refine nx [(0,vu d)]<|ar 0<|eT 1 [] []<|ar 1<|iX [(2,.bool ((decide (d<=1114111)) && ((decide (d<55296)) || (decide (d>57343)))))] ?_ ?_
 ·exact aC<|hX [2] [.bool ((decide (d<=1114111)) && ((decide (d<55296)) || (decide (d>57343))))] hQ h
 refine λhk=>va 3 [(0,vu d),(5,.bool (decide (d<=1114111)))] ?_
 by_cases c1:d<=1114111
 ·have b2:(decide (d<=1114111))=true:=zX c1
  refine cD [(0,vu d),(5,VT)] (by rw[b2])<|eH 3 [] [(8,.bool (decide (d<55296)))] ?_
  by_cases c3:d<55296
  ·have b4:(decide (d<55296))=true:=zX c3
   exact o0 8 b4<|va 5 [(2,VT)]<|zq<|iT [(2,.bool ((decide (d<=1114111)) && ((decide (d<55296)) || (decide (d>57343)))))] (by simp only[b2,b4,BL])<|hk
  have b4:(decide (d<55296))=false:=zQ c3
  exact o0 8 b4<|va 5 [(2,.bool (decide (d>57343)))]<|zq<|iT [(2,.bool ((decide (d<=1114111)) && ((decide (d<55296)) || (decide (d>57343)))))] (by simp only[b2,b4,BL])<|hk
 have b2:(decide (d<=1114111))=false:=zQ c1
 exact cD [(0,vu d),(5,VF)] (by rw[b2])<|va 8 [(2,VF)]<|zq<|iT [(2,.bool ((decide (d<=1114111)) && ((decide (d<55296)) || (decide (d>57343)))))] (by simp only[b2,BL])<|hk
def fY.K0:=EP f150
def fY.pt(a b:Int)(d:zW)(H:zV)(R:zv):=
 ∃e,d=some e/\
 ∃x,hat H e=some (vu x)/\
 (0<=a)/\
 (0<=b)/\
 R (vu (yF .u64 (zc .u64 x a) (IntKind.wrap .u64 ((zG .u64 1 b)-1)))) H
theorem fY.link{b:Int}{a:zW}(h:pt d b a H R):C d b a H R:=by
 refine sa K0 13 func150 ?_
 intro w0 Q hQ
 unfold pt at h
 refine nx [(0,vi d),(1,vi b),(2,vp a)]<|ar 0<|eT 1 [] []<|ge<|qV 1 ?_
 obtain⟨e,rfl,x,q1,ha⟩:=h
 exact np (some 6) 28 q1 [2] [(6,vu x)]<|u8 7 (vi d) [0]<|have⟨q2,h⟩:=ha;AD (some 8) (Ap .shr 22 (vu x) (vi d)) (vu (zc .u64 x d)) (λ_=>by kernel_rfl) (λw _=>uz (P:=prog) (t:=22) (k:=.u64) (k':=.i64) (x:=x) (y:=d) q2 w) [(1,vi b),(8,vu (zc .u64 x d))] pk<|BP (some 9) (vi b) [(8,vu (zc .u64 x d)),(9,vi b)]<|have⟨q3,h⟩:=h;AD (some 10) (Ap .shl 22 (vu 1) (vi b)) (vu (zG .u64 1 b)) (λ_=>by kernel_rfl) (λw _=>wQ (P:=prog) (t:=22) (k:=.u64) (k':=.i64) (x:=1) (y:=b) q3 w) [(8,vu (zc .u64 x d)),(10,vu (zG .u64 1 b))] pk<|BP (some 11) (vu (EQ ((zG .u64 1 b)-1))) [(8,vu (zc .u64 x d)),(11,vu (EQ ((zG .u64 1 b)-1)))]<|u8 12 (vu (yF .u64 (zc .u64 x d) (EQ ((zG .u64 1 b)-1)))) [8,11]<|u8 5 (vu (yF .u64 (zc .u64 x d) (EQ ((zG .u64 1 b)-1)))) [12]<|ni [(5,vu (yF .u64 (zc .u64 x d) (EQ ((zG .u64 1 b)-1))))] sk<|AC<|hX [5] [vu (yF .u64 (zc .u64 x d) (EQ ((zG .u64 1 b)-1)))] hQ h
