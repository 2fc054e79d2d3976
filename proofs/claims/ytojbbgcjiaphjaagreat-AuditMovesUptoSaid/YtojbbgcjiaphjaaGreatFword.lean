/- Printed: what each function asks, and that it is sound. -/
import Derived.Test.YtojbbgcjiaphjaaGreatFnsC
set_option linter.unusedSimpArgs false
set_option linter.unusedVariables false
set_option maxRecDepth 100000
set_option maxHeartbeats 1000000
noncomputable section
namespace Go.Proofs.YtojbbgcjiaphjaaGreat
open Go Go.Proofs.Tryz
variable{H:zV}{a:zW}{R:zv}
/-! moraine/trace.Start -/
namespace jp
def K0:=Func.code f34
def K2:=cb K0
def K4:=cb K2
def K12:=cb K4
def K13:=ca K12
def K14:=cb K12
def K16:=cb K13
def K17:=ca K16
def K18:=ca K17
def K31:=cb K14
def K33:=cb K31
def K41:=cb K33
def K42:=ca K41
def K43:=cb K41
def K45:=cb K42
def K46:=ca K45
def K47:=ca K46
def K59:=ca K43
def K62:=cb K59
def K63:=ca K62
def K64:=ca K63
def K66:=cb K64
def K68:=cb K66
def K71:=ca K68
def K73:=ca K71
def K75:=cb K73
def K77:=cb K75
end jp
def jp.pt(hv:zW)(g d m:Int)(H:zV)(R:zv):Prop:=
 fE hv (
 R (.tuple #[vp none,vi 1]) H) (λf=>
 ∃x,hat H f=some (vp x)/\
 fE x (
 R (.tuple #[vp none,vi 1]) H) (λxA=>
 if(((((decide (g<0)) || (decide (g>=4))) || (decide (d<g))) || (decide (d>(zY (g+1))))) || (decide (m<0)))=true then(
 R (.tuple #[vp none,vi 1]) H)
 else
 ∃(bq:zW->Nat->Nat->zw) (m19:zW->Nat->Nat->Int->zV->Nat),bq none 0 0 0 H/\ ∀e gensN gensC s54 H1,bq e gensN gensC s54 H1->
 if s54< (zY (g+1))then(
 ∀b H2,b=H1.size->H2=H1.push (.cells #[vi s54] 3)->
 bR 1 3 8 [vi 0] e gensN gensC (some (ad b)) 1 H2 (λap a7 H3=>
 (bq ap (gensN+1) a7 (zY (s54+1)) H3/\m19 ap (gensN+1) a7 (zY (s54+1)) H3<m19 e gensN gensC s54 H1)))
 else
 ∃bw,hat H1 f=some (vp bw)/\
 ∃bz,bw=some bz/\
 ∃b0,hat H1 bz=some (vp b0)/\
 ∃b1,b0=some b1/\
 ∃bg,hat H1 b1=some (vp bg)/\
 cO.C bg e gensN gensC H1 (λv H4=> ∃xB xN xC,v=vs xB xN xC/\
 ∃bx,hat H4 f=some (vp bx)/\
 ∃bu,bx=some bu/\
 ∃b2,hat H4 bu=some (vp b2)/\
 ∃b4,b2=some b4/\
 ∃bo,hat H4 b4=some (vp bo)/\
 iM.C bo H4 (λcg H5=> ∃a4,cg=vi a4/\
 if(zY ((zY (a4-(zY (2*(xN:Int)))))-8))<m then(
 R (.tuple #[vp none,vi 2]) H5)
 else
 ∀a5 H6,a5=H5.size->H6=H5.push (.map #[] 0)->
 ∀bj H7,bj=H6.size->H7=H6.push (.map #[] 0)->
 ∀l H8,l=H7.size->H8=H7.push (.cells ([Vq f,vi d]++List.replicate 1024 (vi 0)++[.map (some a5),.map (some bj),VN,vi 0]:List Value).toArray 144)->
 ∃(bt:zw) (m48:Int->zV->Nat),bt 0 H8/\ ∀s H9,bt s H9->
 if s< (xN:Int)then(
 ∃ao,xB=some ao/\
 yZ s xN/\
 ∃al,hat H9 (ao.add (Int.toNat s*1))=some (vi al)/\
 yZ al 1024/\
 (aK H9 (((ad l).add 2).add (Int.toNat al*1)) 0 1)/\ ∀bs,bs=aR H9 (((ad l).add 2).add (Int.toNat al*1)) [vi 1] 0->
 (bt (zY (s+1)) bs/\m48 (zY (s+1)) bs<m48 s H9))
 else
 ∃bl,hat H9 f=some (vp bl)/\
 ∃bk,bl=some bk/\
 ∃bf,hat H9 bk=some (vp bf)/\
 ∃a8,bf=some a8/\
 ∃av,hat H9 a8=some (vp av)/\
 ∀bn H11,bn=H9.size->H11=H9.push (.cells #[vi d] 3)->
 cO.C av (some (ad bn)) 1 1 H11 (λce cj=> ∃an j q,ce=vs an j q/\
 ∃(br:zw) (m65:Int->zV->Nat),br 0 cj/\ ∀o H13,br o H13->
 if o< (j:Int)then(
 ∃r,an=some r/\
 yZ o j/\
 ∃p,hat H13 (r.add (Int.toNat o*1))=some (vi p)/\
 ∃bb,hat H13 f=some (vp bb)/\
 ∃a9,bb=some a9/\
 ∃bm,hat H13 a9=some (vp bm)/\
 ∃bh,bm=some bh/\
 ∃ay,hat H13 bh=some (vp ay)/\
 bH.C ay p H13 (λch cd=> ∃am ah a1 aa ab ae ac rb,ch=.tuple #[.agg #[vi am,vi ah,vi a1,vi aa,vi ab,vi ae,vi ac],.bool rb]/\
 ∀y H15,y=cd.size->H15=cd.push (.cells #[vi 0,vi 0,vi 0,vi 0,vi 0,vi 0,vi 0] 89)->
 (aK H15 (ad y) 0 7)/\ ∀ax,ax=aR H15 (ad y) [vi am,vi ah,vi a1,vi aa,vi ab,vi ae,vi ac] 0->
 ∃af,hat ax ((ad l).add 1026)=some (.map af)/\
 ∃ai,hat ax ((ad l).add 1027)=some (.map ai)/\
 ∃aj,hat ax ((ad y).add 2)=some (vi aj)/\
 ∃ag,hat ax ((ad y).add 2)=some (vi ag)/\
 ∃mr,af=some mr/\
 ∃es cl ks,ax[mr]?=some (.map es cl)/\Ents (bF .i64) es.toList ks/\Born es cl/\
 ∀a2 cl_2 stamp x_21 H17,H17=aO ax mr (.map a2 cl_2)->Ents (bF .i64) a2.toList (mput ks p x_21)->Born a2 cl_2->lL a2 (vi p) stamp->
 aQ H17 ((ad y).add 2) 0 [vi aj]/\aQ H17 ((ad y).add 2) 0 [vi ag]/\ ∃a6 cl_3 ks_2 k,H17[mr]?=some (.map a6 cl_3)/\Ents (bF .i64) a6.toList ks_2/\Born a6 cl_3/\lL a6 (vi k) stamp/\
 ∀bi H18,H18=aO H17 mr (.map bi cl_3)->Ents (bF .i64) bi.toList (mput ks_2 k (vi aj))->Born bi cl_3->
 aQ H18 ((ad y).add 2) 0 [vi ag]/\ ∃ak,ai=some ak/\
 ∃bp cl_4 ks_3,H18[ak]?=some (.map bp cl_4)/\Ents (bF .i64) bp.toList ks_3/\Born bp cl_4/\
 ∀a3 cl_5 stamp_2 x_22 H19,H19=aO H18 ak (.map a3 cl_5)->Ents (bF .i64) a3.toList (mput ks_3 p x_22)->Born a3 cl_5->lL a3 (vi p) stamp_2->
 aQ H19 ((ad y).add 2) 0 [vi ag]/\ ∃be cl_6 ks_4 k_2,H19[ak]?=some (.map be cl_6)/\Ents (bF .i64) be.toList ks_4/\Born be cl_6/\lL be (vi k_2) stamp_2/\
 ∀ba H20,H20=aO H19 ak (.map ba cl_6)->Ents (bF .i64) ba.toList (mput ks_4 k_2 (vi ag))->Born ba cl_6->
 (br (zY (o+1)) H20/\m65 (zY (o+1)) H20<m65 o H13)))
 else
 ∃bc,hat H13 f=some (vp bc)/\
 ∃bd,bc=some bd/\
 ∃az,hat H13 bd=some (vp az)/\
 eJ.C az e gensN gensC H13 (λ_ cc=>
 ∃a0,hat cc f=some (vp a0)/\
 eV.C a0 g cc (λci b6=> ∃aw aq au,ci=vs aw aq au/\
 (aK b6 ((ad l).add 1028) 0 1)/\ ∀b8,b8=aR b6 ((ad l).add 1028) [vs aw aq au] 0->
 R (.tuple #[Vq (ad l),vi 0]) b8)))))))
namespace jp
theorem link{g d m:Int}(h:pt a g d m H R):C a g d m H R:=by
 refine T_en K0 181 func34 ?_
 intro w0 Q hQ
 unfold pt zY at h
 refine T_su [(0,vp a),(1,vi g),(2,vi d),(3,vi m)]<|ar 0<|T_ed 2 [] []<|T_sz<|ar 1<|T_nd 1 [] [(20,vp a)] ?_
 rcases a with _ | f
 ·rw[onPtr_none]at h
  exact T_ed 31 [0,20] [(0,vp none),(51,VT)]<|T_tz 51<|ar 2<|T_nr 2 [8,9] [vp none,vi 1] hQ h
 rw[onPtr_some]at h
 refine T_nd 5 [0,20] [(0,Vq f),(22,VF),(25,Vq f)] ?_
 obtain⟨x,q1,h⟩:=h
 refine T_l1 26 33 q1 [25] ?_
 rcases x with _ | xA
 ·rw[onPtr_none]at h
  exact T_ed 25 [22,26] [(51,VT)]<|T_tz 51<|ar 2<|T_nr 2 [8,9] [vp none,vi 1] hQ h
 rw[onPtr_some]at h
 refine T_nd 7 [22,26] [(33,.bool (decide (g<0)))] ?_
 refine iT [(0,Vq f),(1,vi g),(2,vi d),(3,vi m),(51,.bool (((((decide (g<0)) || (decide (g>=4))) || (decide (d<g))) || (decide (d>(zY (g+1))))) || (decide (m<0))))] ?_ ?_
 ·refine aE ?_
  by_cases c10:(((((decide (g<0)) || (decide (g>=4))) || (decide (d<g))) || (decide (d>(zY (g+1))))) || (decide (m<0)))=true
  ·rw[if_pos c10]at h
   exact aI 51 c10<|ar 2<|T_nr 2 [8,9] [vp none,vi 1] hQ h
  rw[if_neg c10]at h
  refine aJ 51 (zZ c10)<|T_kt<|ar 3<|T_ne 1 [(0,Vq f),(1,vi g),(2,vi d),(3,vi m),(10,VN)]<|T_sz<|ar 4<|T_ed 3 [] [(53,vi (zY (g+1))),(54,vi 0)]<|T_bz 0 ?_
  obtain⟨bq,m19,i12,i13⟩:=h
  refine bL (x:=K18) (σ:=zW×Nat×Nat×Int) (λs_=> [(0,Vq f),(1,vi g),(2,vi d),(3,vi m),(10,vs s_.1 s_.2.1 s_.2.2.1),(53,vi (zY (g+1))),(54,vi s_.2.2.2)]) (λs_ H=>bq s_.1 s_.2.1 s_.2.2.1 s_.2.2.2 H) (λs_ H=>m19 s_.1 s_.2.1 s_.2.2.1 s_.2.2.2 H) ((none,0,0,0):zW×Nat×Nat×Int) (by kernel_rfl) i12 sk ?_
  rintro⟨e,gensN,gensC,s54⟩ H1 i14
  have h:=i13 e gensN gensC s54 H1 i14
  refine T_su [(0,Vq f),(1,vi g),(2,vi d),(3,vi m),(10,vs e gensN gensC),(53,vi (zY (g+1))),(54,vi s54)]<|ar 5<|T_ed 1 [] [(55,.bool (decide (s54< (zY (g+1)))))]<|T_sz ?_
  by_cases c15:s54< (zY (g+1))
  ·rw[if_pos c15]at h
   refine aI 55 (zX c15)<|T_kt<|T_sz<|T_bz 1<|ar 6<|T_ed 2 [55] [(11,vi s54)]<|T_rz 7<|T_nd 2 [10,11] [(57,vs e gensN gensC),(58,vi s54)]<|T_nw (some 59) (λb=>vs (pa b) 1 1) (.cells #[vi s54] 3) ?_
   intro b H2 e17 e18
   replace h:=h b H2 e17 e18
   refine T_pd [58] [(59,vs (pa b) 1 1)]<|N_op (some 60) (cJ #[59,59] 59 #[vs e gensN gensC,vs (pa b) 1 1]) _ (λ_=>by kernel_rfl) (bQ (T:=3) (sz:=1) (bytes:=8) (zero:=(vi 0:Value)) underlying59 underlying59 rfl (show prog.info? 3=some t3 from by kernel_rfl) (by kernel_rfl) (by kernel_rfl) (by decide) (by kernel_rfl) (by first | exact h | (simpa only[Value.cells,List.toList_toArray]using h))) ?_;clear h
   rintro _ H3 ⟨ap,a7,rfl,h⟩
   exact T_pd [57,59] [(60,vs ap (gensN+1) a7)]<|T_nd 1 [60] [(10,vs ap (gensN+1) a7)]<|zq<|aA<|aE<|T_rz 8<|T_ed 2 [54] [(54,vi (zY (s54+1)))]<|aS ((ap,(gensN+1),a7,(zY (s54+1))):zW×Nat×Nat×Int) sk h
  rw[if_neg c15]at h
  refine aJ 55 (zQ c15)<|zk 0<|aD<|aD<|aM<|aE<|ar 9<|T_nd 3 [53,54,55] [(64,Vq f)] ?_
  obtain⟨bw,q19,h⟩:=h
  refine T_l1 65 33 q19 [64] ?_
  obtain⟨bz,rfl,h⟩:=h
  refine T_nd 2 [65] [(67,Vq bz)] ?_
  obtain⟨b0,q20,h⟩:=h
  refine T_l1 68 42 q20 [67] ?_
  obtain⟨b1,rfl,h⟩:=h
  refine T_nd 2 [68] [(70,Vq b1)] ?_
  obtain⟨bg,q21,h⟩:=h
  refine T_l1 71 70 q21 [70]<|T_nd 1 [] [(72,vs e gensN gensC)]<|T_c (some 73) h ?_;clear h
  rintro v H4 ⟨xB,xN,xC,rfl,h⟩
  refine T_pd [71,72] [(73,vs xB xN xC)]<|T_ed 1 [73] [(12,vs xB xN xC)]<|T_sz<|ar 10<|T_nd 3 [] [(76,Vq f)] ?_
  obtain⟨bx,q22,h⟩:=h
  refine T_l1 77 33 q22 [76] ?_
  obtain⟨bu,rfl,h⟩:=h
  refine T_nd 2 [77] [(79,Vq bu)] ?_
  obtain⟨b2,q23,h⟩:=h
  refine T_l1 80 42 q23 [79] ?_
  obtain⟨b4,rfl,h⟩:=h
  refine T_nd 2 [80] [(82,Vq b4)] ?_
  obtain⟨bo,q24,h⟩:=h
  refine T_l1 83 70 q24 [82]<|T_c (some 84) h ?_;clear h
  rintro cg H5 ⟨a4,rfl,h⟩
  refine T_pd [83] [(84,vi a4)]<|T_ed 7 [3,84] [(91,.bool (decide ((zY ((zY (a4-(zY (2*(xN:Int)))))-8))<m)))] ?_
  by_cases c25:(zY ((zY (a4-(zY (2*(xN:Int)))))-8))<m
  ·rw[if_pos c25]at h
   exact aI 91 (zX c25)<|ar 11<|T_nr 2 [8,9] [vp none,vi 2] hQ h
  rw[if_neg c25]at h
  refine aJ 91 (zQ c25)<|T_kt<|ar 12<|T_nd 2 [91] [(92,Vq f),(93,vi d)]<|T_nw (some 94) (λb=> .map (some b)) (.map #[] 0) ?_
  intro a5 H6 e27 e28
  replace h:=h a5 H6 e27 e28
  refine T_pd [] [(94,.map (some a5))]<|T_nw (some 95) (λb=> .map (some b)) (.map #[] 0) ?_
  intro bj H7 e29 e30
  replace h:=h bj H7 e29 e30
  refine T_pd [] [(95,.map (some bj))]<|T_nd 1 [92,93,94,95] [(96,.agg ([Vq f,vi d]++List.replicate 1024 (vi 0)++[.map (some a5),.map (some bj),VN,vi 0]:List Value).toArray)]<|T_nw (some 97) (λb=>vp (pa b)) (.cells ([Vq f,vi d]++List.replicate 1024 (vi 0)++[.map (some a5),.map (some bj),VN,vi 0]:List Value).toArray 144) ?_
  intro l H8 e31 e32
  replace h:=h l H8 e31 e32
  refine T_pd [96] [(97,vp (pa l))]<|T_ed 1 [97] [(13,vp (pa l))]<|T_sz<|ar 13<|T_ed 3 [12] [(98,vs xB xN xC),(99,vi xN),(100,vi 0)]<|T_bz 2 ?_
  obtain⟨bt,m48,i33,i34⟩:=h
  refine bL (x:=K47) (σ:=Int) (λs_=> [(0,Vq f),(1,vi g),(2,vi d),(10,vs e gensN gensC),(13,vp (pa l)),(98,vs xB xN xC),(99,vi xN),(100,vi s_)]) (λs_ H=>bt s_ H) (λs_ H=>m48 s_ H) (0:Int) (by kernel_rfl) i33 sk ?_
  rintro s H9 i35
  have h:=i34 s H9 i35
  refine T_su [(0,Vq f),(1,vi g),(2,vi d),(10,vs e gensN gensC),(13,vp (pa l)),(98,vs xB xN xC),(99,vi xN),(100,vi s)]<|ar 14<|T_ed 1 [] [(101,.bool (decide (s< (xN:Int))))]<|T_sz ?_
  by_cases c36:s< (xN:Int)
  ·rw[if_pos c36]at h
   refine aI 101 (zX c36)<|T_kt<|T_sz<|T_bz 3<|ar 15<|T_ud [101] [] ?_
   obtain⟨ao,rfl,q38,h⟩:=h
   refine T_xd (some 102) 59 3 1 ao xN xC .i64 s underlying59 q38.1 q38.2 [98] [(98,vs (some ao) xN xC),(102,Vq (ao.add (Int.toNat s*1)))] ?_
   obtain⟨al,q39,h⟩:=h
   refine T_l1 103 3 q39 [102]<|T_ed 1 [103] [(15,vi al)]<|T_rz 16<|T_nd 4 [15] [(105,vi al),(107,Vq ((ad l).add 2))] ?_
   obtain⟨q40,h⟩:=h
   refine T_v1 108 (bK 141 (Vq ((ad l).add 2)) (vi al)) (Vq (((ad l).add 2).add (Int.toNat al*1))) (λw _=>bX (P:=prog) (t:=141) (elem:=3) (sz:=1) (n:=1024) (a:=((ad l).add 2)) (k:=.i64) (i:=al) underlying141 (λ_=>by kernel_rfl) q40.1 q40.2 w) [105,107] ?_
   obtain⟨q42,h⟩:=h
   refine fH 3 (vi 1) q42 ?_
   intro bs e41
   replace h:=h bs e41
   exact T_pd [108] []<|zq<|aA<|aE<|T_rz 17<|T_ed 2 [100] [(100,vi (zY (s+1)))]<|aS ((zY (s+1)):Int) sk h
  rw[if_neg c36]at h
  refine aJ 101 (zQ c36)<|zk 2<|aD<|aD<|aM<|aE<|T_sz<|ar 18<|T_nd 3 [98,99,100,101] [(112,Vq f)] ?_
  obtain⟨bl,q43,h⟩:=h
  refine T_l1 113 33 q43 [112] ?_
  obtain⟨bk,rfl,h⟩:=h
  refine T_nd 2 [113] [(115,Vq bk)] ?_
  obtain⟨bf,q44,h⟩:=h
  refine T_l1 116 42 q44 [115] ?_
  obtain⟨a8,rfl,h⟩:=h
  refine T_nd 2 [116] [(118,Vq a8)] ?_
  obtain⟨av,q45,h⟩:=h
  refine T_l1 119 70 q45 [118]<|T_nd 1 [2] [(120,vi d)]<|T_nw (some 121) (λb=>vs (pa b) 1 1) (.cells #[vi d] 3) ?_
  intro bn H11 e46 e47
  replace h:=h bn H11 e46 e47
  refine T_pd [120] [(121,vs (pa bn) 1 1)]<|T_c (some 122) h ?_;clear h
  rintro ce cj ⟨an,j,q,rfl,h⟩
  refine T_pd [119,121] [(122,vs an j q)]<|T_ed 2 [] [(123,vi j),(124,vi 0)]<|T_bz 4 ?_
  obtain⟨br,m65,i48,i49⟩:=h
  refine bL (x:=K64) (σ:=Int) (λs_=> [(0,Vq f),(1,vi g),(10,vs e gensN gensC),(13,vp (pa l)),(122,vs an j q),(123,vi j),(124,vi s_)]) (λs_ H=>br s_ H) (λs_ H=>m65 s_ H) (0:Int) (by kernel_rfl) i48 sk ?_
  rintro o H13 i50
  have h:=i49 o H13 i50
  refine T_su [(0,Vq f),(1,vi g),(10,vs e gensN gensC),(13,vp (pa l)),(122,vs an j q),(123,vi j),(124,vi o)]<|ar 19<|T_ed 1 [] [(125,.bool (decide (o< (j:Int))))]<|T_sz ?_
  by_cases c51:o< (j:Int)
  ·rw[if_pos c51]at h
   refine aI 125 (zX c51)<|T_kt<|T_sz<|T_bz 5<|ar 20<|T_ud [125] [] ?_
   obtain⟨r,rfl,q53,h⟩:=h
   refine T_xd (some 126) 59 3 1 r j q .i64 o underlying59 q53.1 q53.2 [122] [(122,vs (some r) j q),(126,Vq (r.add (Int.toNat o*1)))] ?_
   obtain⟨p,q54,h⟩:=h
   refine T_l1 127 3 q54 [126]<|T_ed 1 [127] [(17,vi p)]<|ar 21<|T_nd 3 [] [(131,Vq f)] ?_
   obtain⟨bb,q55,h⟩:=h
   refine T_l1 132 33 q55 [131] ?_
   obtain⟨a9,rfl,h⟩:=h
   refine T_nd 2 [132] [(134,Vq a9)] ?_
   obtain⟨bm,q56,h⟩:=h
   refine T_l1 135 42 q56 [134] ?_
   obtain⟨bh,rfl,h⟩:=h
   refine T_nd 2 [135] [(137,Vq bh)] ?_
   obtain⟨ay,q57,h⟩:=h
   refine T_l1 138 70 q57 [137]<|T_nd 1 [] [(139,vi p)]<|T_c (some 140) h ?_;clear h
   rintro ch cd ⟨am,ah,a1,aa,ab,ae,ac,rb,rfl,h⟩
   refine T_pd [138,139] [(140,.tuple #[.agg #[vi am,vi ah,vi a1,vi aa,vi ab,vi ae,vi ac],.bool rb])]<|T_nd 3 [140] [(141,.agg #[vi am,vi ah,vi a1,vi aa,vi ab,vi ae,vi ac]),(142,.bool rb)]<|T_nw (some 18) (λb=>vp (pa b)) (.cells #[vi 0,vi 0,vi 0,vi 0,vi 0,vi 0,vi 0] 89) ?_
   intro y H15 e58 e59
   replace h:=h y H15 e58 e59
   refine T_pd [] [(18,vp (pa y))] ?_
   obtain⟨q61,h⟩:=h
   refine fG 89 [vi am,vi ah,vi a1,vi aa,vi ab,vi ae,vi ac] q61 ?_
   intro ax e60
   replace h:=h ax e60
   refine T_pd [141] []<|T_ed 1 [142] [] ?_
   obtain⟨af,q62,ai,q63,aj,q64,ag,q65,h⟩:=h
   refine yq 22 (Code.ops K77) [(14,((ad l).add 1026),[.map af]),(14,((ad l).add 1027),[.map ai]),(16,((ad y).add 2),[vi aj]),(19,((ad y).add 2),[vi ag])] 20 (bv 20 0) (show aF _ _ _ from⟨⟨q62,trivial⟩,⟨q63,trivial⟩,⟨q64,trivial⟩,⟨q65,trivial⟩,trivial⟩)<|T_gp 0 (some 143) (vp (pa l)) (bv 20 1) [(0,Vq f),(1,vi g),(10,vs e gensN gensC),(13,vp (pa l)),(17,vi p),(18,vp (pa y)),(122,vs (some r) j q),(123,vi j),(124,vi o),(143,vp (pa l))]<|aL 1 144 (vp (pa l)) (bv 20 3) [143]<|aL 2 145 (Vq ((ad l).add 1026)) (bv 20 7) [144]<|T_g1 3 146 (.map af) (bv 20 15) [145] (aU 140 (Vq ((ad l).add 1026))) (yY 14 yX)<|aL 4 147 (vi p) (bv 20 31) []<|aL 5 148 (vp (pa l)) (bv 20 63) []<|aL 6 149 (vp (pa l)) (bv 20 127) [148]<|aL 7 150 (Vq ((ad l).add 1027)) (bv 20 255) [149]<|T_g1 8 151 (.map ai) (bv 20 511) [150] (aU 140 (Vq ((ad l).add 1027))) (yY 14 yQ)<|aL 9 152 (vi p) (bv 20 1023) [17]<|aL 10 153 (Vq ((ad y).add 2)) (bv 20 2047) []<|T_g1 11 154 (vi aj) (bv 20 4095) [153] (aU 3 (Vq ((ad y).add 2))) (yY 16 yJ)<|aL 12 155 (Vq ((ad y).add 2)) (bv 20 8191) [18]<|T_g1 13 156 (vi ag) (bv 20 16383) [155] (aU 3 (Vq ((ad y).add 2))) (yY 19 yK) ?_
   obtain⟨mr,rfl,es,cl,ks,q68,q69,q73,h⟩:=h
   refine od 14 (some 157) (bv 20 32767) (nI 140 (.map (some mr)) (vi p)) (λu Hz=> ∃es2 cl2 sp v0,Hz=aO ax mr (.map es2 cl2)/\Ents (bF .i64) es2.toList (mput ks p v0)/\Born es2 cl2/\lL es2 (vi p) sp/\u=.tuple #[v0,vi sp]) (by kernel_rfl) (λ_=>by kernel_rfl) (pz (kk:=(bF .i64)) (z:=vi 0) underlying140 underlying3 (λ_=>by kernel_rfl) q68 q69 q73) (by kernel_rfl) ?_
   rintro _ H17 ⟨a2,cl_2,stamp,x_21,e71,e72,e74,e75,rfl⟩
   replace h:=h a2 cl_2 stamp x_21 H17 e71 e72 e74 e75
   obtain⟨f66,f67,h⟩:=h
   refine⟨[(0,Vq f),(1,vi g),(10,vs e gensN gensC),(13,vp (pa l)),(122,vs (some r) j q),(123,vi j),(124,vi o),(146,.map (some mr)),(151,.map ai),(152,vi p),(154,vi aj),(156,vi ag),(157,.tuple #[x_21,vi stamp])],pk,(show aF _ _ _ from⟨trivial,trivial,f66,f67,trivial⟩),?_⟩
   refine T_g 15 (some 158) (vi stamp) (bv 20 65535) [(0,Vq f),(1,vi g),(10,vs e gensN gensC),(13,vp (pa l)),(122,vs (some r) j q),(123,vi j),(124,vi o),(146,.map (some mr)),(151,.map ai),(152,vi p),(154,vi aj),(156,vi ag),(158,vi stamp)] (pure (.value (vi stamp)):Sem Next) (λ_ _ _ _ _=>rfl) ?_
   obtain⟨a6,cl_3,ks_2,k,q77,q78,q79,q80,h⟩:=h
   refine fT 16 none (bv 20 131071) (pg 140 (.map (some mr)) (vi stamp) (vi aj)) (λHz=> ∃es2,Hz=aO H17 mr (.map es2 cl_3)/\Ents (bF .i64) es2.toList (mput ks_2 k (vi aj))/\Born es2 cl_3) (by kernel_rfl) (λ_=>by kernel_rfl) (pA (kk:=(bF .i64)) q77 q78 q79 q80) (by kernel_rfl) ?_
   rintro H18 ⟨bi,e81,e82,e83⟩
   replace h:=h bi H18 e81 e82 e83
   obtain⟨f76,h⟩:=h
   refine⟨[(0,Vq f),(1,vi g),(10,vs e gensN gensC),(13,vp (pa l)),(122,vs (some r) j q),(123,vi j),(124,vi o),(151,.map ai),(152,vi p),(156,vi ag)],pk,(show aF _ _ _ from⟨trivial,trivial,trivial,f76,trivial⟩),?_⟩
   obtain⟨ak,rfl,bp,cl_4,ks_3,q85,q86,q90,h⟩:=h
   refine od 17 (some 159) (bv 20 262143) (nI 140 (.map (some ak)) (vi p)) (λu Hz=> ∃es2 cl2 sp v0,Hz=aO H18 ak (.map es2 cl2)/\Ents (bF .i64) es2.toList (mput ks_3 p v0)/\Born es2 cl2/\lL es2 (vi p) sp/\u=.tuple #[v0,vi sp]) (by kernel_rfl) (λ_=>by kernel_rfl) (pz (kk:=(bF .i64)) (z:=vi 0) underlying140 underlying3 (λ_=>by kernel_rfl) q85 q86 q90) (by kernel_rfl) ?_
   rintro _ H19 ⟨a3,cl_5,stamp_2,x_22,e88,e89,e91,e92,rfl⟩
   replace h:=h a3 cl_5 stamp_2 x_22 H19 e88 e89 e91 e92
   obtain⟨f84,h⟩:=h
   refine⟨[(0,Vq f),(1,vi g),(10,vs e gensN gensC),(13,vp (pa l)),(122,vs (some r) j q),(123,vi j),(124,vi o),(151,.map (some ak)),(156,vi ag),(159,.tuple #[x_22,vi stamp_2])],pk,(show aF _ _ _ from⟨trivial,trivial,trivial,f84,trivial⟩),?_⟩
   refine T_g 18 (some 160) (vi stamp_2) (bv 20 524287) [(0,Vq f),(1,vi g),(10,vs e gensN gensC),(13,vp (pa l)),(122,vs (some r) j q),(123,vi j),(124,vi o),(151,.map (some ak)),(156,vi ag),(160,vi stamp_2)] (pure (.value (vi stamp_2)):Sem Next) (λ_ _ _ _ _=>rfl) ?_
   obtain⟨be,cl_6,ks_4,k_2,q93,q94,q95,q96,h⟩:=h
   refine fT 19 none (bv 20 1048575) (pg 140 (.map (some ak)) (vi stamp_2) (vi ag)) (λHz=> ∃es2,Hz=aO H19 ak (.map es2 cl_6)/\Ents (bF .i64) es2.toList (mput ks_4 k_2 (vi ag))/\Born es2 cl_6) (by kernel_rfl) (λ_=>by kernel_rfl) (pA (kk:=(bF .i64)) q93 q94 q95 q96) (by kernel_rfl) ?_
   rintro H20 ⟨ba,e97,e98,e99⟩
   replace h:=h ba H20 e97 e98 e99
   refine⟨[(0,Vq f),(1,vi g),(10,vs e gensN gensC),(13,vp (pa l)),(122,vs (some r) j q),(123,vi j),(124,vi o)],pk,(show aF _ _ _ from⟨trivial,trivial,trivial,trivial,trivial⟩),?_⟩
   refine fU [(0,Vq f),(1,vi g),(10,vs e gensN gensC),(13,vp (pa l)),(122,vs (some r) j q),(123,vi j),(124,vi o)] sk ?_
   exact yz<|aA<|aE<|T_rz 23<|T_ne 2 [(0,Vq f),(1,vi g),(10,vs e gensN gensC),(13,vp (pa l)),(122,vs (some r) j q),(123,vi j),(124,vi (zY (o+1)))]<|aS ((zY (o+1)):Int) sk h
  rw[if_neg c51]at h
  refine aJ 125 (zQ c51)<|zk 4<|aD<|aD<|aM<|aE<|ar 24<|T_nd 3 [122,123,124,125] [(164,Vq f)] ?_
  obtain⟨bc,q100,h⟩:=h
  refine T_l1 165 33 q100 [164] ?_
  obtain⟨bd,rfl,h⟩:=h
  refine T_nd 2 [165] [(167,Vq bd)] ?_
  obtain⟨az,q101,h⟩:=h
  refine T_l1 168 42 q101 [167]<|T_nd 1 [10] [(169,vs e gensN gensC)]<|T_c (some 170) h ?_;clear h
  intro v_5 cc h
  refine T_pd [168,169] []<|T_e<|ar 25<|T_nd 4 [0] [(171,vp (pa l)),(174,Vq f)] ?_
  obtain⟨a0,q102,h⟩:=h
  refine T_l1 175 33 q102 [174]<|T_nd 1 [1] [(176,vi g)]<|T_c (some 177) h ?_;clear h
  rintro ci b6 ⟨aw,aq,au,rfl,h⟩
  refine T_pd [175,176] [(177,vs aw aq au)]<|T_nd 2 [171] [(179,Vq ((ad l).add 1028))] ?_
  obtain⟨q104,h⟩:=h
  refine fH 142 (vs aw aq au) q104 ?_
  intro b8 e103
  replace h:=h b8 e103
  exact T_pd [177,179] []<|T_e<|ar 26<|T_nr 3 [8,9] [vp (pa l),vi 0] hQ h
 intro hk
 refine T_nu [(0,Vq f),(1,vi g),(2,vi d),(3,vi m),(33,.bool (decide (g<0)))] ?_
 by_cases c2:g<0
 ·have b3:(decide (g<0))=true:=zX c2
  refine bW [(0,Vq f),(1,vi g),(2,vi d),(3,vi m),(33,VT)] (by rw[b3]) ?_
  refine T_nd 18 [33] [(51,VT)]<|zq<|S_bd 51 (b:=true) (v:=(((((decide (g<0)) || (decide (g>=4))) || (decide (d<g))) || (decide (d>(zY (g+1))))) || (decide (m<0)))) (by simp only[b3,BL]) ?_
  exact hk
 have b3:(decide (g<0))=false:=zQ c2
 refine bW [(0,Vq f),(1,vi g),(2,vi d),(3,vi m),(33,VF)] (by rw[b3]) ?_
 refine T_nd 4 [33] [(37,.bool (decide (g>=4)))] ?_
 by_cases c4:g>=4
 ·have b5:(decide (g>=4))=true:=zX c4
  refine N_bd 37 b5<|T_nd 14 [37] [(51,VT)] ?_
  refine zq<|S_bd 51 (b:=true) (v:=(((((decide (g<0)) || (decide (g>=4))) || (decide (d<g))) || (decide (d>(zY (g+1))))) || (decide (m<0)))) (by simp only[b3,b5,BL]) ?_
  exact hk
 have b5:(decide (g>=4))=false:=zQ c4
 refine N_bd 37 b5<|T_nd 5 [37] [(42,.bool (decide (d<g)))] ?_
 by_cases c6:d<g
 ·have b7:(decide (d<g))=true:=zX c6
  refine N_bd 42 b7<|T_nd 9 [42] [(51,VT)] ?_
  refine zq<|S_bd 51 (b:=true) (v:=(((((decide (g<0)) || (decide (g>=4))) || (decide (d<g))) || (decide (d>(zY (g+1))))) || (decide (m<0)))) (by simp only[b3,b5,b7,BL]) ?_
  exact hk
 have b7:(decide (d<g))=false:=zQ c6
 refine N_bd 42 b7<|T_nd 6 [42] [(48,.bool (decide (d>(zY (g+1)))))] ?_
 by_cases c8:d>(zY (g+1))
 ·have b9:(decide (d>(zY (g+1))))=true:=zX c8
  refine N_bd 48 b9<|T_nd 3 [48] [(51,VT)] ?_
  refine zq<|S_bd 51 (b:=true) (v:=(((((decide (g<0)) || (decide (g>=4))) || (decide (d<g))) || (decide (d>(zY (g+1))))) || (decide (m<0)))) (by simp only[b3,b5,b7,b9,BL]) ?_
  exact hk
 have b9:(decide (d>(zY (g+1))))=false:=zQ c8
 refine N_bd 48 b9<|T_nd 3 [48] [(51,.bool (decide (m<0)))] ?_
 refine zq<|S_bd 51 (b:=(decide (m<0))) (v:=(((((decide (g<0)) || (decide (g>=4))) || (decide (d<g))) || (decide (d>(zY (g+1))))) || (decide (m<0)))) (by simp only[b3,b5,b7,b9,BL]) ?_
 exact hk
end jp
/-! (*moraine/trace.Trace).End -/
namespace dQ
def K0:=Func.code f36
def K2:=cb K0
def K7:=ca K2
def K8:=cb K2
def K10:=cb K7
def K11:=ca K10
def K12:=ca K11
def K28:=ca K8
def K31:=cb K28
def K32:=ca K31
def K33:=ca K32
def K35:=cb K33
def K37:=cb K35
def K40:=ca K37
def K42:=ca K40
def K44:=cb K42
end dQ
def dQ.pt(tv:zW)(H:zV)(R:zv):Prop:=
 cD.C tv H (λv H1=> ∃x,v=.bool x/\
 if x=true then(
 R (.tuple #[]) H1)
 else
 ∃d,tv=some d/\
 ∃g:List Value,g.length=1024/\aQ H1 (d.add 2) 0 g/\
 ∃(ae:zw) (m13:Int->zV->Nat),ae 0 H1/\ ∀e H2,ae e H2->
 if e<1024 then(
 ∃r,((0<=e/\e< (1024:Int))/\((g:List Value).toArray)[Int.toNat e]?=some (vi r))/\
 if r=1 then(
 ∃z,hat H2 d=some (vp z)/\
 ∃ab,z=some ab/\
 ∃ac,hat H2 ab=some (vp ac)/\
 ∃aa,ac=some aa/\
 ∃y,hat H2 aa=some (vp y)/\
 eW.C y e H2 (λaj H3=> ∃ak,aj=vi ak/\
 (ae (zY (e+1)) H3/\m13 (zY (e+1)) H3<m13 e H2)))
 else
 (ae (zY (e+1)) H2/\m13 (zY (e+1)) H2<m13 e H2))
 else
 ∃xB xN xC,hat H2 (d.add 1028)=some (vs xB xN xC)/\
 ∃(af:zw) (m34:Int->zV->Nat),af 0 H2/\ ∀f H4,af f H4->
 if f< (xN:Int)then(
 ∃j,xB=some j/\
 yZ f xN/\
 ∃p l,aQ H4 (j.add (Int.toNat f*2)) 0 [vi p,vi l]/\
 ∀b H5,b=H4.size->H5=H4.push (.cells #[vi 0,vi 0] 149)->
 (aK H5 (ad b) 0 2)/\ ∀H6,H6=aR H5 (ad b) [vi p,vi l] 0->
 ∃ah,hat H6 d=some (vp ah)/\
 ∃m,ah=some m/\
 ∃q,hat H6 m=some (vp q)/\
 ∃o,hat H6 (ad b)=some (vi o)/\
 ∃s,hat H6 ((ad b).add 1)=some (vi s)/\
 dW.C q o s H6 (λai H7=> ∃ag,ai=vi ag/\
 (af (zY (f+1)) H7/\m34 (zY (f+1)) H7<m34 f H4)))
 else
 ∃u,hat H4 d=some (vp u)/\
 gZ.C u H4 (λ_ H8=>
 (aK H8 (d.add 1029) 0 1)/\ ∀H9,H9=aR H8 (d.add 1029) [vi 1] 0->
 R (.tuple #[]) H9))
namespace dQ
theorem link(h:pt a H R):C a H R:=by
 refine T_en K0 61 func36 ?_
 intro w0 Q hQ
 unfold pt zY at h
 refine T_su [(0,vp a)]<|T_sz<|ar 0<|T_nd 1 [] [(6,vp a)]<|T_c (some 7) h ?_;clear h
 rintro v H1 ⟨x,rfl,h⟩
 refine T_pd [6] [(7,.bool x)]<|T_e ?_
 by_cases c1:x=true
 ·rw[if_pos c1]at h
  exact aI 7 c1<|jF [] [] hQ h
 rw[if_neg c1]at h
 refine aJ 7 (zZ c1)<|T_kt<|T_sz<|ar 1<|T_nd 1 [7] [(8,vp a)] ?_
 obtain⟨d,rfl,h⟩:=h
 refine T_n 2 [(0,Vq d),(10,Vq (d.add 2))] ?_
 obtain⟨g,l4,q3,h⟩:=h
 refine T_v1 11 (aU 141 (Vq (d.add 2))) (.agg (g).toArray) (j1 (fC (λ_=>by kernel_rfl) (λw=>by rw[l4];kernel_rfl) q3)) [10]<|T_ed 1 [] [(12,vi 0)]<|T_bz 0 ?_
 obtain⟨ae,m13,i5,i6⟩:=h
 refine bL (x:=K12) (σ:=Int) (λs_=> [(0,Vq d),(11,.agg (g).toArray),(12,vi s_)]) (λs_ H=>ae s_ H) (λs_ H=>m13 s_ H) (0:Int) (by kernel_rfl) i5 sk ?_
 rintro e H2 i7
 have h:=i6 e H2 i7
 refine T_su [(0,Vq d),(11,.agg (g).toArray),(12,vi e)]<|ar 2<|T_ed 1 [] [(13,.bool (decide (e<1024)))]<|T_sz ?_
 by_cases c8:e<1024
 ·rw[if_pos c8]at h
  refine aI 13 (zX c8)<|T_kt<|T_sz<|T_bz 1<|ar 3<|T_nd 1 [13] [(14,vi e)] ?_
  obtain⟨r,q10,h⟩:=h
  refine T_v1 15 (mD 141 (.agg (g).toArray) (vi e)) (vi r) (λw _=>j2 (P:=prog) (t:=141) (elem:=3) (n:=1024) underlying141 (λ_=>by kernel_rfl) (λ_=>by kernel_rfl) q10.1.1 q10.1.2 q10.2 w) []<|T_ed 2 [14,15] [(2,vi e),(3,vi r)]<|ar 4<|T_ed 2 [3] [(17,.bool (r==1))] ?_
  by_cases c11:r=1
  ·rw[if_pos c11]at h
   refine aI 17 (zK c11)<|T_rz 5<|T_nd 3 [17] [(20,Vq d)] ?_
   obtain⟨z,q13,h⟩:=h
   refine T_l1 21 28 q13 [20] ?_
   obtain⟨ab,rfl,h⟩:=h
   refine T_nd 2 [21] [(23,Vq ab)] ?_
   obtain⟨ac,q14,h⟩:=h
   refine T_l1 24 33 q14 [23] ?_
   obtain⟨aa,rfl,h⟩:=h
   refine T_nd 2 [24] [(26,Vq aa)] ?_
   obtain⟨y,q15,h⟩:=h
   refine T_l1 27 42 q15 [26]<|T_nd 1 [2] [(28,vi e)]<|T_c (some 29) h ?_;clear h
   rintro aj H3 ⟨ak,rfl,h⟩
   exact T_pd [27,28] []<|zq<|aA<|aE<|T_rz 6<|T_ed 2 [12] [(12,vi (zY (e+1)))]<|aS ((zY (e+1)):Int) sk h
  rw[if_neg c11]at h
  exact aJ 17 (zJ c11)<|T_k<|aA<|aE<|T_rz 6<|T_ed 2 [2,12,17] [(12,vi (zY (e+1)))]<|aS ((zY (e+1)):Int) sk h
 rw[if_neg c8]at h
 refine aJ 13 (zQ c8)<|zk 0<|aD<|aD<|aM<|aE<|T_sz<|ar 7<|T_nd 3 [11,12,13] [(33,Vq (d.add 1028))] ?_
 obtain⟨xB,xN,xC,q16,h⟩:=h
 refine T_l1 34 142 q16 [33]<|T_ed 2 [] [(35,vi xN),(36,vi 0)]<|T_bz 2 ?_
 obtain⟨af,m34,i17,i18⟩:=h
 refine bL (x:=K33) (σ:=Int) (λs_=> [(0,Vq d),(34,vs xB xN xC),(35,vi xN),(36,vi s_)]) (λs_ H=>af s_ H) (λs_ H=>m34 s_ H) (0:Int) (by kernel_rfl) i17 sk ?_
 rintro f H4 i19
 have h:=i18 f H4 i19
 refine T_su [(0,Vq d),(34,vs xB xN xC),(35,vi xN),(36,vi f)]<|ar 8<|T_ed 1 [] [(37,.bool (decide (f< (xN:Int))))]<|T_sz ?_
 by_cases c20:f< (xN:Int)
 ·rw[if_pos c20]at h
  refine aI 37 (zX c20)<|T_kt<|T_sz<|T_bz 3<|ar 9<|T_ud [37] [] ?_
  obtain⟨j,rfl,q22,h⟩:=h
  refine T_xd (some 38) 142 149 2 j xN xC .i64 f underlying142 q22.1 q22.2 [34] [(34,vs (some j) xN xC),(38,Vq (j.add (Int.toNat f*2)))] ?_
  obtain⟨p,l,q23,h⟩:=h
  refine T_lr 39 149 q23 [38]<|T_nw (some 5) (λb=>vp (pa b)) (.cells #[vi 0,vi 0] 149) ?_
  intro b H5 e24 e25
  replace h:=h b H5 e24 e25
  refine T_pd [] [(5,vp (pa b))] ?_
  obtain⟨q27,h⟩:=h
  refine fG 149 [vi p,vi l] q27 ?_
  intro H6 e26
  replace h:=h H6 e26
  refine T_pd [39] []<|T_e ?_
  obtain⟨ah,q28,m,rfl,q,q29,o,q30,s,q31,h⟩:=h
  refine yq 10 (Code.ops K44) [(11,d,[Vq m]),(11,m,[vp q]),(11,(ad b),[vi o]),(11,((ad b).add 1),[vi s])] 12 (bv 12 0) (show aF _ _ _ from⟨⟨q28,trivial⟩,⟨q29,trivial⟩,⟨q30,trivial⟩,⟨q31,trivial⟩,trivial⟩)<|T_gp 0 (some 40) (Vq d) (bv 12 1) [(0,Vq d),(5,vp (pa b)),(34,vs (some j) xN xC),(35,vi xN),(36,vi f),(40,Vq d)]<|aL 1 41 (Vq d) (bv 12 3) [40]<|aL 2 42 (Vq d) (bv 12 7) [41]<|T_g1 3 43 (Vq m) (bv 12 15) [42] (aU 28 (Vq d)) (yY 11 yX)<|aL 4 44 (Vq m) (bv 12 31) [43]<|aL 5 45 (Vq m) (bv 12 63) [44]<|T_g1 6 46 (vp q) (bv 12 127) [45] (aU 33 (Vq m)) (yY 11 yQ)<|aL 7 47 (vp (pa b)) (bv 12 255) []<|T_g1 8 48 (vi o) (bv 12 511) [47] (aU 3 (vp (pa b))) (yY 11 yJ)<|aL 9 49 (Vq ((ad b).add 1)) (bv 12 1023) [5]<|T_g1 10 50 (vi s) (bv 12 2047) [49] (aU 3 (Vq ((ad b).add 1))) (yY 11 yK)<|yx 11 (some 51) (bv 12 4095) 77 #[vp q,vi o,vi s] h ?_;clear h
  rintro ai H7 ⟨ag,rfl,h⟩
  refine⟨[(0,Vq d),(34,vs (some j) xN xC),(35,vi xN),(36,vi f)],pk,(show aF _ _ _ from⟨trivial,trivial,trivial,trivial,trivial⟩),?_⟩
  refine fU [(0,Vq d),(34,vs (some j) xN xC),(35,vi xN),(36,vi f)] sk ?_
  exact yz<|aA<|aE<|T_rz 11<|T_ne 2 [(0,Vq d),(34,vs (some j) xN xC),(35,vi xN),(36,vi (zY (f+1)))]<|aS ((zY (f+1)):Int) sk h
 rw[if_neg c20]at h
 refine aJ 37 (zQ c20)<|zk 2<|aD<|aD<|aM<|aE<|ar 12<|T_n 3 [(0,Vq d),(55,Vq d)] ?_
 obtain⟨u,q32,h⟩:=h
 refine T_l1 56 28 q32 [55]<|T_c (some 57) h ?_;clear h
 intro v_4 H8 h
 refine T_pd [56] []<|T_e<|T_rz 13<|T_n 3 [(60,Vq (d.add 1029))] ?_
 obtain⟨q34,h⟩:=h
 refine fH 3 (vi 1) q34 ?_
 intro H9 e33
 replace h:=h H9 e33
 refine⟨[],pk,?_⟩
 exact zq<|iG (fn:=f36) [] hQ (show cG _ _ _ [] _ from .nil) h
theorem linkD{tv:zW}{H:zV}{R:zv}(h:pt tv H R):CD tv H (λH=> ∃v,R v H):=by
 refine uY (fn:=f36) (c:=K0) 61 func36 (by kernel_rfl) (by kernel_rfl) (Nat.le_of_ble_eq_true (by kernel_rfl)) ?_
 intro w0 Q hQ
 unfold pt zY at h
 refine T_su [(0,vp tv)]<|T_sz<|ar 0<|T_nd 1 [] [(6,vp tv)]<|T_c (some 7) h ?_;clear h
 rintro v H1 ⟨x,rfl,h⟩
 refine T_pd [6] [(7,.bool x)]<|T_e ?_
 by_cases c1:x=true
 ·rw[if_pos c1]at h
  refine aI 7 c1<|zx ?_
  show At _ _ _ _ _ (Q .ret)
  exact wb (fn:=f36) [] hQ (show cG _ _ _ [] _ from .nil) h
 rw[if_neg c1]at h
 refine aJ 7 (zZ c1)<|T_kt<|T_sz<|ar 1<|T_nd 1 [7] [(8,vp tv)] ?_
 obtain⟨d,rfl,h⟩:=h
 refine T_n 2 [(0,Vq d),(10,Vq (d.add 2))] ?_
 obtain⟨g,l4,q3,h⟩:=h
 refine T_v1 11 (aU 141 (Vq (d.add 2))) (.agg (g).toArray) (j1 (fC (λ_=>by kernel_rfl) (λw=>by rw[l4];kernel_rfl) q3)) [10]<|T_ed 1 [] [(12,vi 0)]<|T_bz 0 ?_
 obtain⟨ae,m13,i5,i6⟩:=h
 refine bL (x:=K12) (σ:=Int) (λs_=> [(0,Vq d),(11,.agg (g).toArray),(12,vi s_)]) (λs_ H=>ae s_ H) (λs_ H=>m13 s_ H) (0:Int) (by kernel_rfl) i5 sk ?_
 rintro e H2 i7
 have h:=i6 e H2 i7
 refine T_su [(0,Vq d),(11,.agg (g).toArray),(12,vi e)]<|ar 2<|T_ed 1 [] [(13,.bool (decide (e<1024)))]<|T_sz ?_
 by_cases c8:e<1024
 ·rw[if_pos c8]at h
  refine aI 13 (zX c8)<|T_kt<|T_sz<|T_bz 1<|ar 3<|T_nd 1 [13] [(14,vi e)] ?_
  obtain⟨r,q10,h⟩:=h
  refine T_v1 15 (mD 141 (.agg (g).toArray) (vi e)) (vi r) (λw _=>j2 (P:=prog) (t:=141) (elem:=3) (n:=1024) underlying141 (λ_=>by kernel_rfl) (λ_=>by kernel_rfl) q10.1.1 q10.1.2 q10.2 w) []<|T_ed 2 [14,15] [(2,vi e),(3,vi r)]<|ar 4<|T_ed 2 [3] [(17,.bool (r==1))] ?_
  by_cases c11:r=1
  ·rw[if_pos c11]at h
   refine aI 17 (zK c11)<|T_rz 5<|T_nd 3 [17] [(20,Vq d)] ?_
   obtain⟨z,q13,h⟩:=h
   refine T_l1 21 28 q13 [20] ?_
   obtain⟨ab,rfl,h⟩:=h
   refine T_nd 2 [21] [(23,Vq ab)] ?_
   obtain⟨ac,q14,h⟩:=h
   refine T_l1 24 33 q14 [23] ?_
   obtain⟨aa,rfl,h⟩:=h
   refine T_nd 2 [24] [(26,Vq aa)] ?_
   obtain⟨y,q15,h⟩:=h
   refine T_l1 27 42 q15 [26]<|T_nd 1 [2] [(28,vi e)]<|T_c (some 29) h ?_;clear h
   rintro aj H3 ⟨ak,rfl,h⟩
   exact T_pd [27,28] []<|zq<|aA<|aE<|T_rz 6<|T_ed 2 [12] [(12,vi (zY (e+1)))]<|aS ((zY (e+1)):Int) sk h
  rw[if_neg c11]at h
  exact aJ 17 (zJ c11)<|T_k<|aA<|aE<|T_rz 6<|T_ed 2 [2,12,17] [(12,vi (zY (e+1)))]<|aS ((zY (e+1)):Int) sk h
 rw[if_neg c8]at h
 refine aJ 13 (zQ c8)<|zk 0<|aD<|aD<|aM<|aE<|T_sz<|ar 7<|T_nd 3 [11,12,13] [(33,Vq (d.add 1028))] ?_
 obtain⟨xB,xN,xC,q16,h⟩:=h
 refine T_l1 34 142 q16 [33]<|T_ed 2 [] [(35,vi xN),(36,vi 0)]<|T_bz 2 ?_
 obtain⟨af,m34,i17,i18⟩:=h
 refine bL (x:=K33) (σ:=Int) (λs_=> [(0,Vq d),(34,vs xB xN xC),(35,vi xN),(36,vi s_)]) (λs_ H=>af s_ H) (λs_ H=>m34 s_ H) (0:Int) (by kernel_rfl) i17 sk ?_
 rintro f H4 i19
 have h:=i18 f H4 i19
 refine T_su [(0,Vq d),(34,vs xB xN xC),(35,vi xN),(36,vi f)]<|ar 8<|T_ed 1 [] [(37,.bool (decide (f< (xN:Int))))]<|T_sz ?_
 by_cases c20:f< (xN:Int)
 ·rw[if_pos c20]at h
  refine aI 37 (zX c20)<|T_kt<|T_sz<|T_bz 3<|ar 9<|T_ud [37] [] ?_
  obtain⟨j,rfl,q22,h⟩:=h
  refine T_xd (some 38) 142 149 2 j xN xC .i64 f underlying142 q22.1 q22.2 [34] [(34,vs (some j) xN xC),(38,Vq (j.add (Int.toNat f*2)))] ?_
  obtain⟨p,l,q23,h⟩:=h
  refine T_lr 39 149 q23 [38]<|T_nw (some 5) (λb=>vp (pa b)) (.cells #[vi 0,vi 0] 149) ?_
  intro b H5 e24 e25
  replace h:=h b H5 e24 e25
  refine T_pd [] [(5,vp (pa b))] ?_
  obtain⟨q27,h⟩:=h
  refine fG 149 [vi p,vi l] q27 ?_
  intro H6 e26
  replace h:=h H6 e26
  refine T_pd [39] []<|T_e ?_
  obtain⟨ah,q28,m,rfl,q,q29,o,q30,s,q31,h⟩:=h
  refine yq 10 (Code.ops K44) [(11,d,[Vq m]),(11,m,[vp q]),(11,(ad b),[vi o]),(11,((ad b).add 1),[vi s])] 12 (bv 12 0) (show aF _ _ _ from⟨⟨q28,trivial⟩,⟨q29,trivial⟩,⟨q30,trivial⟩,⟨q31,trivial⟩,trivial⟩)<|T_gp 0 (some 40) (Vq d) (bv 12 1) [(0,Vq d),(5,vp (pa b)),(34,vs (some j) xN xC),(35,vi xN),(36,vi f),(40,Vq d)]<|aL 1 41 (Vq d) (bv 12 3) [40]<|aL 2 42 (Vq d) (bv 12 7) [41]<|T_g1 3 43 (Vq m) (bv 12 15) [42] (aU 28 (Vq d)) (yY 11 yX)<|aL 4 44 (Vq m) (bv 12 31) [43]<|aL 5 45 (Vq m) (bv 12 63) [44]<|T_g1 6 46 (vp q) (bv 12 127) [45] (aU 33 (Vq m)) (yY 11 yQ)<|aL 7 47 (vp (pa b)) (bv 12 255) []<|T_g1 8 48 (vi o) (bv 12 511) [47] (aU 3 (vp (pa b))) (yY 11 yJ)<|aL 9 49 (Vq ((ad b).add 1)) (bv 12 1023) [5]<|T_g1 10 50 (vi s) (bv 12 2047) [49] (aU 3 (Vq ((ad b).add 1))) (yY 11 yK)<|yx 11 (some 51) (bv 12 4095) 77 #[vp q,vi o,vi s] h ?_;clear h
  rintro ai H7 ⟨ag,rfl,h⟩
  refine⟨[(0,Vq d),(34,vs (some j) xN xC),(35,vi xN),(36,vi f)],pk,(show aF _ _ _ from⟨trivial,trivial,trivial,trivial,trivial⟩),?_⟩
  refine fU [(0,Vq d),(34,vs (some j) xN xC),(35,vi xN),(36,vi f)] sk ?_
  exact yz<|aA<|aE<|T_rz 11<|T_ne 2 [(0,Vq d),(34,vs (some j) xN xC),(35,vi xN),(36,vi (zY (f+1)))]<|aS ((zY (f+1)):Int) sk h
 rw[if_neg c20]at h
 refine aJ 37 (zQ c20)<|zk 2<|aD<|aD<|aM<|aE<|ar 12<|T_n 3 [(0,Vq d),(55,Vq d)] ?_
 obtain⟨u,q32,h⟩:=h
 refine T_l1 56 28 q32 [55]<|T_c (some 57) h ?_;clear h
 intro v_4 H8 h
 refine T_pd [56] []<|T_e<|T_rz 13<|T_n 3 [(60,Vq (d.add 1029))] ?_
 obtain⟨q34,h⟩:=h
 refine fH 3 (vi 1) q34 ?_
 intro H9 e33
 replace h:=h H9 e33
 refine⟨[],pk,?_⟩
 exact zq<|uZ (fn:=f36) [] hQ (show cG _ _ _ [] _ from .nil) h
end dQ
/-! (*moraine/trace.Trace).Visit -/
namespace bI
def K0:=Func.code f37
def K2:=cb K0
def K4:=cb K2
def K10:=cb K4
def K20:=cb K10
def K22:=cb K20
def K30:=cb K22
def K32:=cb K30
def K33:=ca K32
def K34:=cb K32
def K36:=cb K34
def K41:=ca K36
def K44:=cb K41
def K45:=ca K44
def K46:=ca K45
end bI
def bI.pt(tv:zW)(wv:Int)(H:zV)(R:zv):Prop:=
 dT.C tv wv H (λv H1=> ∃x,v=.bool x/\
 if x=true then(
 dI.C tv wv H1 (λbt H2=> ∃ra rb,bt=.tuple #[vu ra,.bool rb]/\
 if rb=true then(
 R (vu ra) H2)
 else
 ∃d,tv=some d/\
 ∃a0,hat H2 d=some (vp a0)/\
 bV.C a0 wv H2 (λbq H3=> ∃f,bq=vi f/\
 if f=0 then(
 R (vu wv) H3)
 else
 gR.C wv H3 (λbx H4=> ∃a be,bx=.tuple #[vi a,.bool be]/\
 ∃a8,hat H4 d=some (vp a8)/\
 ∃a7,a8=some a7/\
 ∃ba,hat H4 a7=some (vp ba)/\
 ∃a9,ba=some a9/\
 ∃bb,hat H4 a9=some (vp bb)/\
 ∃bc,bb=some bc/\
 ∃a3,hat H4 bc=some (vp a3)/\
 bH.C a3 (zY (Int.tdiv a 64)) H4 (λbp H5=> ∃r p ae i j l k ag,bp=.tuple #[.agg #[vi r,vi p,vi ae,vi i,vi j,vi l,vi k],.bool ag]/\
 ∀b H6,b=H5.size->H6=H5.push (.cells #[vi 0,vi 0,vi 0,vi 0,vi 0,vi 0,vi 0] 89)->
 (aK H6 (ad b) 0 7)/\ ∀H7,H7=aR H6 (ad b) [vi r,vi p,vi ae,vi i,vi j,vi l,vi k] 0->
 ∃bh,hat H7 d=some (vp bh)/\
 ∃s,bh=some s/\
 ∃bk,hat H7 s=some (vp bk)/\
 ∃t,bk=some t/\
 ∃q,hat H7 t=some (vp q)/\
 ∃u,hat H7 (d.add 1)=some (vi u)/\
 ∃y,hat H7 ((ad b).add 1)=some (vi y)/\
 dJ.C q u y f H7 (λb0 H8=> ∃e m,b0=.tuple #[vi e,vi m]/\
 if m=0 then(
 ∃(a6:zw) (m47:Int->zV->Nat),a6 0 H8/\ ∀g H9,a6 g H9->
 if g<f then(
 ∃ah,hat H9 d=some (vp ah)/\
 ∃ax,ah=some ax/\
 ∃aj,hat H9 ax=some (vp aj)/\
 ∃ai,aj=some ai/\
 ∃a1,hat H9 ai=some (vp a1)/\
 ∃aw,a1=some aw/\
 ∃aa,hat H9 aw=some (vp aa)/\
 cK.C aa (zY (a+g)) H9 (λbz a4=> ∃n bg,bz=.tuple #[vu n,vi bg]/\
 ∃ao,hat a4 d=some (vp ao)/\
 ∃ap,ao=some ap/\
 ∃au,hat a4 ap=some (vp au)/\
 ∃az,au=some az/\
 ∃av,hat a4 az=some (vp av)/\
 ∃am,av=some am/\
 ∃ac,hat a4 am=some (vp ac)/\
 cM.C ac (zY (e+g)) n a4 (λbu bl=> ∃bm,bu=vi bm/\
 (a6 (zY (g+1)) bl/\m47 (zY (g+1)) bl<m47 g H9))))
 else
 j3.C 6 e H9 (λbs a5=> ∃o bd,bs=.tuple #[vu o,vi bd]/\
 ∃a2,hat a5 d=some (vp a2)/\
 ∃al,a2=some al/\
 ∃ak,hat a5 al=some (vp ak)/\
 ∃an,ak=some an/\
 ∃aq,hat a5 an=some (vp aq)/\
 ∃ay,aq=some ay/\
 ∃ab,hat a5 ay=some (vp ab)/\
 cM.C ab a o a5 (λbi br=> ∃bo,bi=vi bo/\
 cS.C wv br (λbj b1=> ∃af,bj=vi af/\
 j3.C af e b1 (λbn bw=> ∃z bf,bn=.tuple #[vu z,vi bf]/\
 R (vu z) bw)))))
 else
 R (vu wv) H8))))))
 else
 R (vu wv) H1)
namespace bI
theorem link{wv:Int}(h:pt a wv H R):C a wv H R:=by
 refine T_en K0 163 func37 ?_
 intro w0 Q hQ
 unfold pt zY at h
 refine T_su [(0,vp a),(1,vu wv)]<|ar 0<|T_ed 1 [] []<|T_sz<|ar 1<|T_nd 2 [] [(21,vp a),(22,vu wv)]<|T_c (some 23) h ?_;clear h
 rintro v H1 ⟨x,rfl,h⟩
 refine T_pd [21,22] [(23,.bool x)]<|T_ed 1 [23] [(24,.bool (!x))] ?_
 by_cases c1:x=true
 ·rw[if_pos c1]at h
  refine aJ 24 (congrArg Bool.not (c1))<|T_kt<|T_sz<|ar 3<|T_nd 2 [24] [(27,vp a),(28,vu wv)]<|T_c (some 29) h ?_;clear h
  rintro bt H2 ⟨ra,rb,rfl,h⟩
  refine T_pd [27,28] [(29,.tuple #[vu ra,.bool rb])]<|T_ed 5 [29] [(5,vu ra),(6,.bool rb)]<|ar 4<|T_ed 1 [6] [(32,.bool rb)] ?_
  by_cases c3:rb=true
  ·rw[if_pos c3]at h
   exact aI 32 c3<|ar 5<|T_nr 2 [4] [vu ra] hQ h
  rw[if_neg c3]at h
  refine aJ 32 (zZ c3)<|T_kt<|ar 6<|T_nd 1 [5,32] [(34,vp a)] ?_
  obtain⟨d,rfl,h⟩:=h
  refine T_nd 2 [0,34] [(0,Vq d),(36,Vq d)] ?_
  obtain⟨a0,q5,h⟩:=h
  refine T_l1 37 28 q5 [36]<|T_nd 1 [] [(38,vu wv)]<|T_c (some 39) h ?_;clear h
  rintro bq H3 ⟨f,rfl,h⟩
  refine T_pd [37,38] [(39,vi f)]<|T_ed 1 [39] [(7,vi f)]<|T_sz<|ar 7<|T_ed 2 [] [(41,.bool (f==0))] ?_
  by_cases c6:f=0
  ·rw[if_pos c6]at h
   exact aI 41 (zK c6)<|ar 8<|T_nr 2 [4] [vu wv] hQ h
  rw[if_neg c6]at h
  refine aJ 41 (zJ c6)<|T_kt<|ar 9<|T_nd 1 [41] [(44,vu wv)]<|T_c (some 45) h ?_;clear h
  rintro bx H4 ⟨tv,be,rfl,h⟩
  refine T_pd [44] [(45,.tuple #[vi tv,.bool be])]<|T_ed 5 [45] [(8,vi tv)]<|ar 10<|T_nd 3 [] [(51,Vq d)] ?_
  obtain⟨a8,q8,h⟩:=h
  refine T_l1 52 28 q8 [51] ?_
  obtain⟨a7,rfl,h⟩:=h
  refine T_nd 2 [52] [(54,Vq a7)] ?_
  obtain⟨ba,q9,h⟩:=h
  refine T_l1 55 33 q9 [54] ?_
  obtain⟨a9,rfl,h⟩:=h
  refine T_nd 2 [55] [(57,Vq a9)] ?_
  obtain⟨bb,q10,h⟩:=h
  refine T_l1 58 42 q10 [57] ?_
  obtain⟨bc,rfl,h⟩:=h
  refine T_nd 2 [58] [(60,Vq bc)] ?_
  obtain⟨a3,q11,h⟩:=h
  refine T_l1 61 70 q11 [60]<|T_nd 2 [] [(63,vi (zY (Int.tdiv tv 64)))]<|T_c (some 64) h ?_;clear h
  rintro bp H5 ⟨r,p,ae,i,j,l,k,ag,rfl,h⟩
  refine T_pd [61,63] [(64,.tuple #[.agg #[vi r,vi p,vi ae,vi i,vi j,vi l,vi k],.bool ag])]<|T_nd 3 [64] [(65,.agg #[vi r,vi p,vi ae,vi i,vi j,vi l,vi k]),(66,.bool ag)]<|T_nw (some 10) (λb=>vp (pa b)) (.cells #[vi 0,vi 0,vi 0,vi 0,vi 0,vi 0,vi 0] 89) ?_
  intro b H6 e12 e13
  replace h:=h b H6 e12 e13
  refine T_pd [] [(10,vp (pa b))] ?_
  obtain⟨q15,h⟩:=h
  refine fG 89 [vi r,vi p,vi ae,vi i,vi j,vi l,vi k] q15 ?_
  intro H7 e14
  replace h:=h H7 e14
  refine T_pd [65] []<|T_ed 1 [66] []<|T_sz ?_
  obtain⟨bh,q16,s,rfl,bk,q17,t,rfl,q,q18,u,q19,y,q20,h⟩:=h
  refine yq 11 (Code.ops K33) [(17,d,[Vq s]),(17,s,[Vq t]),(17,t,[vp q]),(17,(d.add 1),[vi u]),(17,((ad b).add 1),[vi y])] 23 (bv 23 0) (show aF _ _ _ from⟨⟨q16,trivial⟩,⟨q17,trivial⟩,⟨q18,trivial⟩,⟨q19,trivial⟩,⟨q20,trivial⟩,trivial⟩)<|T_gp 0 (some 68) (Vq d) (bv 23 1) [(0,Vq d),(1,vu wv),(7,vi f),(8,vi tv),(10,vp (pa b)),(68,Vq d)]<|aL 1 69 (Vq d) (bv 23 3) [68]<|aL 2 70 (Vq d) (bv 23 7) [69]<|T_g1 3 71 (Vq s) (bv 23 15) [70] (aU 28 (Vq d)) (yY 17 yX)<|aL 4 72 (Vq s) (bv 23 31) [71]<|aL 5 73 (Vq s) (bv 23 63) [72]<|T_g1 6 74 (Vq t) (bv 23 127) [73] (aU 33 (Vq s)) (yY 17 yQ)<|aL 7 75 (Vq t) (bv 23 255) [74]<|aL 8 76 (Vq t) (bv 23 511) [75]<|T_g1 9 77 (vp q) (bv 23 1023) [76] (aU 42 (Vq t)) (yY 17 yJ)<|aL 10 78 (Vq d) (bv 23 2047) []<|aL 11 79 (Vq d) (bv 23 4095) [78]<|aL 12 80 (Vq (d.add 1)) (bv 23 8191) [79]<|T_g1 13 81 (vi u) (bv 23 16383) [80] (aU 3 (Vq (d.add 1))) (yY 17 yK)<|aL 14 82 (Vq ((ad b).add 1)) (bv 23 32767) [10]<|T_g1 15 83 (vi y) (bv 23 65535) [82] (aU 3 (Vq ((ad b).add 1))) (yY 17 yV)<|aL 16 84 (vi f) (bv 23 131071) []<|yx 17 (some 85) (bv 23 262143) 81 #[vp q,vi u,vi y,vi f] h ?_;clear h
  rintro b0 H8 ⟨e,m,rfl,h⟩
  refine⟨[(0,Vq d),(1,vu wv),(7,vi f),(8,vi tv),(85,.tuple #[vi e,vi m])],pk,(show aF _ _ _ from⟨trivial,trivial,trivial,trivial,trivial,trivial⟩),?_⟩
  refine T_g 18 (some 67) (.tuple #[vi e,vi m]) (bv 23 524287) [(0,Vq d),(1,vu wv),(7,vi f),(8,vi tv),(67,.tuple #[vi e,vi m])] (pure (.value (.tuple #[vi e,vi m])):Sem Next) (λ_ _ _ _ _=>rfl)<|T_g1 19 86 (vi e) (bv 23 1048575) [] (pure (.value (vi e)):Sem Next) (λ_ _ _ _ _=>rfl)<|T_g1 20 87 (vi m) (bv 23 2097151) [67] (pure (.value (vi m)):Sem Next) (λ_ _ _ _ _=>rfl)<|T_g1 21 12 (vi e) (bv 23 4194303) [86] (pure (.value (vi e)):Sem Next) (λ_ _ _ _ _=>rfl)<|T_g1 22 13 (vi m) (bv 23 8388607) [87] (pure (.value (vi m)):Sem Next) (λ_ _ _ _ _=>rfl)<|fU [(0,Vq d),(1,vu wv),(7,vi f),(8,vi tv),(12,vi e),(13,vi m)] sk<|yz<|aE<|T_sz<|ar 12<|T_ne 2 [(0,Vq d),(1,vu wv),(7,vi f),(8,vi tv),(12,vi e),(89,.bool (m !=0))] ?_
  by_cases c21:m=0
  ·rw[if_pos c21]at h
   refine aJ 89 (bne_eq_false_iff_eq.mpr c21)<|T_kt<|T_sz<|ar 14<|T_ed 2 [7,89] [(91,vi f),(92,vi 0)]<|T_bz 0 ?_
   obtain⟨a6,m47,i23,i24⟩:=h
   refine bL (x:=K46) (σ:=Int) (λs_=> [(0,Vq d),(1,vu wv),(8,vi tv),(12,vi e),(91,vi f),(92,vi s_)]) (λs_ H=>a6 s_ H) (λs_ H=>m47 s_ H) (0:Int) (by kernel_rfl) i23 sk ?_
   rintro g H9 i25
   have h:=i24 g H9 i25
   refine T_su [(0,Vq d),(1,vu wv),(8,vi tv),(12,vi e),(91,vi f),(92,vi g)]<|ar 15<|T_ed 1 [] [(93,.bool (decide (g<f)))]<|T_sz ?_
   by_cases c26:g<f
   ·rw[if_pos c26]at h
    refine aI 93 (zX c26)<|T_kt<|T_sz<|T_bz 1<|ar 16<|T_ed 2 [93] [(14,vi g)]<|ar 17<|T_nd 3 [] [(98,Vq d)] ?_
    obtain⟨ah,q28,h⟩:=h
    refine T_l1 99 28 q28 [98] ?_
    obtain⟨ax,rfl,h⟩:=h
    refine T_nd 2 [99] [(101,Vq ax)] ?_
    obtain⟨aj,q29,h⟩:=h
    refine T_l1 102 33 q29 [101] ?_
    obtain⟨ai,rfl,h⟩:=h
    refine T_nd 2 [102] [(104,Vq ai)] ?_
    obtain⟨a1,q30,h⟩:=h
    refine T_l1 105 42 q30 [104] ?_
    obtain⟨aw,rfl,h⟩:=h
    refine T_nd 2 [105] [(107,Vq aw)] ?_
    obtain⟨aa,q31,h⟩:=h
    refine T_l1 108 70 q31 [107]<|T_nd 3 [] [(111,vi (zY (tv+g)))]<|T_c (some 112) h ?_;clear h
    rintro bz a4 ⟨n,bg,rfl,h⟩
    refine T_pd [108,111] [(112,.tuple #[vu n,vi bg])]<|T_ed 5 [112] [(15,vu n)]<|T_rz 18<|T_nd 3 [] [(117,Vq d)] ?_
    obtain⟨ao,q32,h⟩:=h
    refine T_l1 118 28 q32 [117] ?_
    obtain⟨ap,rfl,h⟩:=h
    refine T_nd 2 [118] [(120,Vq ap)] ?_
    obtain⟨au,q33,h⟩:=h
    refine T_l1 121 33 q33 [120] ?_
    obtain⟨az,rfl,h⟩:=h
    refine T_nd 2 [121] [(123,Vq az)] ?_
    obtain⟨av,q34,h⟩:=h
    refine T_l1 124 42 q34 [123] ?_
    obtain⟨am,rfl,h⟩:=h
    refine T_nd 2 [124] [(126,Vq am)] ?_
    obtain⟨ac,q35,h⟩:=h
    refine T_l1 127 70 q35 [126]<|T_nd 4 [14,15] [(130,vi (zY (e+g))),(131,vu n)]<|T_c (some 132) h ?_;clear h
    rintro bu bl ⟨bm,rfl,h⟩
    exact T_pd [127,130,131] []<|zq<|aA<|aE<|T_rz 19<|T_ed 2 [92] [(92,vi (zY (g+1)))]<|aS ((zY (g+1)):Int) sk h
   rw[if_neg c26]at h
   refine aJ 93 (zQ c26)<|zk 0<|aD<|aD<|aM<|aE<|ar 20<|T_nd 1 [91,92,93] [(135,vi e)]<|T_c (some 136) h ?_;clear h
   rintro bs a5 ⟨o,bd,rfl,h⟩
   refine T_pd [135] [(136,.tuple #[vu o,vi bd])]<|T_ed 5 [136] [(17,vu o)]<|ar 21<|T_nd 3 [0] [(141,Vq d)] ?_
   obtain⟨a2,q36,h⟩:=h
   refine T_l1 142 28 q36 [141] ?_
   obtain⟨al,rfl,h⟩:=h
   refine T_nd 2 [142] [(144,Vq al)] ?_
   obtain⟨ak,q37,h⟩:=h
   refine T_l1 145 33 q37 [144] ?_
   obtain⟨an,rfl,h⟩:=h
   refine T_nd 2 [145] [(147,Vq an)] ?_
   obtain⟨aq,q38,h⟩:=h
   refine T_l1 148 42 q38 [147] ?_
   obtain⟨ay,rfl,h⟩:=h
   refine T_nd 2 [148] [(150,Vq ay)] ?_
   obtain⟨ab,q39,h⟩:=h
   refine T_l1 151 70 q39 [150]<|T_nd 2 [8,17] [(152,vi tv),(153,vu o)]<|T_c (some 154) h ?_;clear h
   rintro bi br ⟨bo,rfl,h⟩
   refine T_pd [151,152,153] []<|T_e<|ar 22<|T_nd 1 [1] [(156,vu wv)]<|T_c (some 157) h ?_;clear h
   rintro bj b1 ⟨af,rfl,h⟩
   refine T_pd [156] [(157,vi af)]<|T_nd 1 [12] [(158,vi e)]<|T_c (some 159) h ?_;clear h
   rintro bn bw ⟨z,bf,rfl,h⟩
   refine⟨[(159,.tuple #[vu z,vi bf])],pk,?_⟩
   exact T_ne 5 [(19,vu z)]<|ar 23<|T_nr 2 [4] [vu z] hQ h
  rw[if_neg c21]at h
  exact aI 89 (bne_iff_ne.mpr c21)<|ar 13<|T_nr 2 [4] [vu wv] hQ h
 rw[if_neg c1]at h
 exact aI 24 (congrArg Bool.not (zZ c1))<|ar 2<|T_nr 2 [4] [vu wv] hQ h
end bI
variable{H:zV}{a:zW}{R:zv}{b:Int}
/-! (*moraine/trace.Trace).Cards -/
namespace eF
def K0:=Func.code f38
def K2:=cb K0
def K8:=cb K2
def K9:=ca K8
def K10:=ca K9
def K12:=cb K10
def K14:=cb K12
def K17:=ca K14
def K19:=ca K17
def K21:=cb K19
def K22:=ca K21
end eF
def eF.pt(tv:zW)(H:zV)(R:zv):Prop:=
 cD.C tv H (λv H1=> ∃x,v=.bool x/\
 if x=true then(
 R (.tuple #[]) H1)
 else
 ∃d,tv=some d/\
 ∃xB xN xC,hat H1 (d.add 1028)=some (vs xB xN xC)/\
 ∃(a0:zw) (m11:Int->zV->Nat),a0 0 H1/\ ∀e H2,a0 e H2->
 if e< (xN:Int)then(
 ∃f,xB=some f/\
 yZ e xN/\
 ∃au an,aQ H2 (f.add (Int.toNat e*2)) 0 [vi au,vi an]/\
 ∀b H3,b=H2.size->H3=H2.push (.cells #[vi 0,vi 0] 149)->
 (aK H3 (ad b) 0 2)/\ ∀H4,H4=aR H3 (ad b) [vi au,vi an] 0->
 ∃a4,hat H4 d=some (vp a4)/\
 ∃am,a4=some am/\
 ∃a3,hat H4 am=some (vp a3)/\
 ∃aj,a3=some aj/\
 ∃a2,hat H4 aj=some (vp a2)/\
 ∃ak,a2=some ak/\
 ∃aq,hat H4 ak=some (vp aq)/\
 ∃aw,hat H4 (ad b)=some (vi aw)/\
 (
 bH.C aq aw H4 (λa7 H5=> ∃z u al n p o q rb,a7=.tuple #[.agg #[vi z,vi u,vi al,vi n,vi p,vi o,vi q],.bool rb]/\
 ∀ab H6,ab=H5.size->H6=H5.push (.cells #[vi 0,vi 0,vi 0,vi 0,vi 0,vi 0,vi 0] 89)->
 (aK H6 (ad ab) 0 7)/\ ∀H7,H7=aR H6 (ad ab) [vi z,vi u,vi al,vi n,vi p,vi o,vi q] 0->
 ∃ap,hat H7 (ad b)=some (vi ap)/\
 ∃av,hat H7 ((ad b).add 1)=some (vi av)/\
 ∃ao,hat H7 ((ad ab).add 2)=some (vi ao)/\
 ∃ah,hat H7 ((ad b).add 1)=some (vi ah)/\
 ∃ay,hat H7 ((ad ab).add 1)=some (vi ay)/\
 cQ.C (some d) ap (zY (av*16)) (if(zY ((zY (ah+1))*16))<ao then(zY ((zY (ah+1))*16))else ao) ay H7 (λ_ H8=>
 (a0 (zY (e+1)) H8/\m11 (zY (e+1)) H8<m11 e H2))))/\(
 ∀y H9,y=H4.size->H9=H4.push (.cells #[vi 0,vi 0,vi 0,vi 0,vi 0,vi 0,vi 0] 89)->aQ H9 d 0 [Vq am]/\aQ H9 am 0 [Vq aj]/\aQ H9 aj 0 [Vq ak]/\aQ H9 ak 0 [vp aq]/\aQ H9 (ad b) 0 [vi aw]/\
 bH.C aq aw H9 (λa6 a1=> ∃s r aa m j g l af,a6=.tuple #[.agg #[vi s,vi r,vi aa,vi m,vi j,vi g,vi l],.bool af]/\
 (aK a1 (ad y) 0 7)/\ ∀ax,ax=aR a1 (ad y) [vi s,vi r,vi aa,vi m,vi j,vi g,vi l] 0->
 ∃ae,hat ax (ad b)=some (vi ae)/\
 ∃ag,hat ax ((ad b).add 1)=some (vi ag)/\
 ∃ac,hat ax ((ad y).add 2)=some (vi ac)/\
 ∃ai,hat ax ((ad b).add 1)=some (vi ai)/\
 ∃az,hat ax ((ad y).add 1)=some (vi az)/\
 cQ.C (some d) ae (zY (ag*16)) (if(zY ((zY (ai+1))*16))<ac then(zY ((zY (ai+1))*16))else ac) az ax (λ_ a5=>
 (a0 (zY (e+1)) a5/\m11 (zY (e+1)) a5<m11 e H2)))))
 else
 R (.tuple #[]) H2)
namespace eF
theorem link(h:pt a H R):C a H R:=by
 refine T_en K0 53 func38 ?_
 intro w0 Q hQ
 unfold pt zY at h
 refine T_su [(0,vp a)]<|T_sz<|ar 0<|T_nd 1 [] [(6,vp a)]<|T_c (some 7) h ?_;clear h
 rintro v H1 ⟨x,rfl,h⟩
 refine T_pd [6] [(7,.bool x)]<|T_e ?_
 by_cases c1:x=true
 ·rw[if_pos c1]at h
  exact aI 7 c1<|jF [] [] hQ h
 rw[if_neg c1]at h
 refine aJ 7 (zZ c1)<|T_kt<|ar 1<|T_nd 1 [7] [(8,vp a)] ?_
 obtain⟨d,rfl,h⟩:=h
 refine T_n 2 [(0,Vq d),(10,Vq (d.add 1028))] ?_
 obtain⟨xB,xN,xC,q3,h⟩:=h
 refine T_l1 11 142 q3 [10]<|T_ed 2 [] [(12,vi xN),(13,vi 0)]<|T_bz 0 ?_
 obtain⟨a0,m11,i4,i5⟩:=h
 refine bL (x:=K10) (σ:=Int) (λs_=> [(0,Vq d),(11,vs xB xN xC),(12,vi xN),(13,vi s_)]) (λs_ H=>a0 s_ H) (λs_ H=>m11 s_ H) (0:Int) (by kernel_rfl) i4 sk ?_
 rintro e H2 i6
 have h:=i5 e H2 i6
 refine T_su [(0,Vq d),(11,vs xB xN xC),(12,vi xN),(13,vi e)]<|ar 2<|T_ed 1 [] [(14,.bool (decide (e< (xN:Int))))]<|T_sz ?_
 by_cases c7:e< (xN:Int)
 ·rw[if_pos c7]at h
  refine aI 14 (zX c7)<|T_kt<|T_sz<|T_bz 1<|ar 3<|T_ud [14] [] ?_
  obtain⟨f,rfl,q9,h⟩:=h
  refine T_xd (some 15) 142 149 2 f xN xC .i64 e underlying142 q9.1 q9.2 [11] [(11,vs (some f) xN xC),(15,Vq (f.add (Int.toNat e*2)))] ?_
  obtain⟨au,an,q10,h⟩:=h
  refine T_lr 16 149 q10 [15]<|T_nw (some 3) (λb=>vp (pa b)) (.cells #[vi 0,vi 0] 149) ?_
  intro b H3 e11 e12
  replace h:=h b H3 e11 e12
  refine T_pd [] [(3,vp (pa b))] ?_
  obtain⟨q14,h⟩:=h
  refine fG 149 [vi au,vi an] q14 ?_
  intro H4 e13
  replace h:=h H4 e13
  refine T_pd [16] []<|T_e<|T_sz ?_
  obtain⟨a4,q15,am,rfl,a3,q16,aj,rfl,a2,q17,ak,rfl,aq,q18,aw,q19,h⟩:=h
  refine yq 4 (Code.ops K22) [(15,d,[Vq am]),(15,am,[Vq aj]),(15,aj,[Vq ak]),(15,ak,[vp aq]),(15,(ad b),[vi aw])] 22 (bv 22 0) (show aF _ _ _ from⟨⟨q15,trivial⟩,⟨q16,trivial⟩,⟨q17,trivial⟩,⟨q18,trivial⟩,⟨q19,trivial⟩,trivial⟩)<|T_gp 0 (some 18) (Vq d) (bv 22 1) [(0,Vq d),(3,vp (pa b)),(11,vs (some f) xN xC),(12,vi xN),(13,vi e),(18,Vq d)]<|aL 1 19 (Vq d) (bv 22 3) [18]<|aL 2 20 (Vq d) (bv 22 7) [19]<|T_g1 3 21 (Vq am) (bv 22 15) [20] (aU 28 (Vq d)) (yY 15 yX)<|aL 4 22 (Vq am) (bv 22 31) [21]<|aL 5 23 (Vq am) (bv 22 63) [22]<|T_g1 6 24 (Vq aj) (bv 22 127) [23] (aU 33 (Vq am)) (yY 15 yQ)<|aL 7 25 (Vq aj) (bv 22 255) [24]<|aL 8 26 (Vq aj) (bv 22 511) [25]<|T_g1 9 27 (Vq ak) (bv 22 1023) [26] (aU 42 (Vq aj)) (yY 15 yJ)<|aL 10 28 (Vq ak) (bv 22 2047) [27]<|aL 11 29 (Vq ak) (bv 22 4095) [28]<|T_g1 12 30 (vp aq) (bv 22 8191) [29] (aU 70 (Vq ak)) (yY 15 yK)<|aL 13 31 (vp (pa b)) (bv 22 16383) []<|T_g1 14 32 (vi aw) (bv 22 32767) [31] (aU 3 (vp (pa b))) (yY 15 yV) ?_
  refine pv 15 19 (by kernel_rfl) ?fa1 ?fb1
  case' fa1=>
   replace h:=h.1
   refine pw 15 (some 33) (bv 22 65535) 33 #[vp aq,vi aw] (by kernel_rfl) (λ_=>by kernel_rfl) h (by kernel_rfl) ?_;clear h
   rintro a7 H5 ⟨z,u,al,n,p,o,q,rb,rfl,h⟩
   refine⟨[(0,Vq d),(3,vp (pa b)),(11,vs (some f) xN xC),(12,vi xN),(13,vi e),(33,.tuple #[.agg #[vi z,vi u,vi al,vi n,vi p,vi o,vi q],.bool rb])],pk,(show aF _ _ _ from⟨trivial,trivial,trivial,trivial,trivial,trivial⟩),?_⟩
   refine T_g 16 (some 17) (.tuple #[.agg #[vi z,vi u,vi al,vi n,vi p,vi o,vi q],.bool rb]) (bv 22 131071) [(0,Vq d),(3,vp (pa b)),(11,vs (some f) xN xC),(12,vi xN),(13,vi e),(17,.tuple #[.agg #[vi z,vi u,vi al,vi n,vi p,vi o,vi q],.bool rb])] (pure (.value (.tuple #[.agg #[vi z,vi u,vi al,vi n,vi p,vi o,vi q],.bool rb])):Sem Next) (λ_ _ _ _ _=>rfl)<|T_g1 17 34 (.agg #[vi z,vi u,vi al,vi n,vi p,vi o,vi q]) (bv 22 262143) [] (pure (.value (.agg #[vi z,vi u,vi al,vi n,vi p,vi o,vi q])):Sem Next) (λ_ _ _ _ _=>rfl)<|T_g1 18 35 (.bool rb) (bv 22 524287) [17] (pure (.value (.bool rb)):Sem Next) (λ_ _ _ _ _=>rfl)<|na 19 (some 4) (bv 22 1048575) (λb=>vp (pa b)) (.cells #[vi 0,vi 0,vi 0,vi 0,vi 0,vi 0,vi 0] 89) (by kernel_rfl) (λ_=>by kernel_rfl) (by kernel_rfl) ?_
   intro ab H6 e20 e21
   replace h:=h ab H6 e20 e21
   refine⟨[(0,Vq d),(3,vp (pa b)),(4,vp (pa ab)),(11,vs (some f) xN xC),(12,vi xN),(13,vi e),(34,.agg #[vi z,vi u,vi al,vi n,vi p,vi o,vi q]),(35,.bool rb)],pk,(show aF _ _ _ from⟨trivial,trivial,trivial,trivial,trivial,trivial⟩),?_⟩
  case' fb1=>
   replace h:=h.2
   refine rS 19 (some 4) (bv 22 557055) (λb=>vp (pa b)) (.cells #[vi 0,vi 0,vi 0,vi 0,vi 0,vi 0,vi 0] 89) (by kernel_rfl) (λ_=>by kernel_rfl) (by kernel_rfl) ?_
   intro ab H9 e34 e35
   replace h:=h ab H9 e34 e35
   obtain⟨f29,f30,f31,f32,f33,h⟩:=h
   refine⟨[(0,Vq d),(3,vp (pa b)),(4,vp (pa ab)),(11,vs (some f) xN xC),(12,vi xN),(13,vi e),(30,vp aq),(32,vi aw)],pk,(show aF _ _ _ from⟨f29,f30,f31,f32,f33,trivial⟩),?_⟩
   refine yx 15 (some 33) (bv 22 589823) 33 #[vp aq,vi aw] h ?_;clear h
   rintro a6 H6 ⟨z,u,al,n,p,o,q,rb,rfl,h⟩
   refine⟨[(0,Vq d),(3,vp (pa b)),(4,vp (pa ab)),(11,vs (some f) xN xC),(12,vi xN),(13,vi e),(33,.tuple #[.agg #[vi z,vi u,vi al,vi n,vi p,vi o,vi q],.bool rb])],pk,(show aF _ _ _ from⟨trivial,trivial,trivial,trivial,trivial,trivial⟩),?_⟩
   refine T_g 16 (some 17) (.tuple #[.agg #[vi z,vi u,vi al,vi n,vi p,vi o,vi q],.bool rb]) (bv 22 655359) [(0,Vq d),(3,vp (pa b)),(4,vp (pa ab)),(11,vs (some f) xN xC),(12,vi xN),(13,vi e),(17,.tuple #[.agg #[vi z,vi u,vi al,vi n,vi p,vi o,vi q],.bool rb])] (pure (.value (.tuple #[.agg #[vi z,vi u,vi al,vi n,vi p,vi o,vi q],.bool rb])):Sem Next) (λ_ _ _ _ _=>rfl)<|T_g1 17 34 (.agg #[vi z,vi u,vi al,vi n,vi p,vi o,vi q]) (bv 22 786431) [] (pure (.value (.agg #[vi z,vi u,vi al,vi n,vi p,vi o,vi q])):Sem Next) (λ_ _ _ _ _=>rfl)<|T_g1 18 35 (.bool rb) (bv 22 1048575) [17] (pure (.value (.bool rb)):Sem Next) (λ_ _ _ _ _=>rfl) ?_
  all_goals
   obtain⟨q23,h⟩:=h
   refine fT 20 none (bv 22 2097151) (jK 89 (vp (pa ab)) (.agg #[vi z,vi u,vi al,vi n,vi p,vi o,vi q])) (λHz=>Hz=aR H6 (ad ab) [vi z,vi u,vi al,vi n,vi p,vi o,vi q] 0) (by kernel_rfl) (λ_=>by kernel_rfl) (iR [vi z,vi u,vi al,vi n,vi p,vi o,vi q] 7 (by kernel_rfl) (by kernel_rfl) (λ_=>by kernel_rfl) (by kernel_rfl) q23) (by kernel_rfl) ?_
   intro H7 e22
   replace h:=h H7 e22
   refine⟨[(0,Vq d),(3,vp (pa b)),(4,vp (pa ab)),(11,vs (some f) xN xC),(12,vi xN),(13,vi e),(35,.bool rb)],pk,(show aF _ _ _ from⟨trivial,trivial,trivial,trivial,trivial,trivial⟩),?_⟩
   refine T_g 21 (some 5) (.bool rb) (bv 22 4194303) [(0,Vq d),(3,vp (pa b)),(4,vp (pa ab)),(11,vs (some f) xN xC),(12,vi xN),(13,vi e)] (pure (.value (.bool rb)):Sem Next) (λ_ _ _ _ _=>rfl)<|fU [(0,Vq d),(3,vp (pa b)),(4,vp (pa ab)),(11,vs (some f) xN xC),(12,vi xN),(13,vi e)] sk<|yz<|aE<|T_rz 5<|T_n 2 [(0,Vq d),(3,vp (pa b)),(4,vp (pa ab)),(11,vs (some f) xN xC),(12,vi xN),(13,vi e),(36,Vq d),(37,vp (pa b))] ?_
   obtain⟨ap,q24,h⟩:=h
   refine T_l1 38 3 q24 [37]<|T_nd 1 [] [(39,Vq ((ad b).add 1))] ?_
   obtain⟨av,q25,h⟩:=h
   refine T_l1 40 3 q25 [39]<|T_nd 2 [40] [(41,vi (zY (av*16))),(42,Vq ((ad ab).add 2))] ?_
   obtain⟨ao,q26,h⟩:=h
   refine T_l1 43 3 q26 [42]<|T_nd 1 [3] [(44,Vq ((ad b).add 1))] ?_
   obtain⟨ah,q27,h⟩:=h
   refine T_l1 45 3 q27 [44]<|T_nd 4 [4,43,45] [(48,vi (if(zY ((zY (ah+1))*16))<ao then(zY ((zY (ah+1))*16))else ao)),(49,Vq ((ad ab).add 1))] ?_
   obtain⟨ay,q28,h⟩:=h
   refine T_l1 50 3 q28 [49]<|T_c (some 51) h ?_;clear h
   intro v_3 H8 h
   exact T_pd [36,38,41,48,50] []<|zq<|aA<|aE<|T_rz 6<|T_ed 2 [13] [(13,vi (zY (e+1)))]<|aS ((zY (e+1)):Int) sk h
 rw[if_neg c7]at h
 exact aJ 14 (zQ c7)<|zk 0<|aD<|aD<|aM<|iG (fn:=f38) [] hQ (show cG _ _ _ [] _ from .nil) h
end eF
/-! (*moraine/trace.Trace).Drain -/
namespace dH
def K0:=Func.code f39
def K1:=ca K0
def K2:=ca K1
end dH
def dH.pt(tv:zW)(H:zV)(R:zv):Prop:=
 ∃(I3:zV->Prop) (m3:zV->Nat),I3 H/\ ∀H1,I3 H1->
 cD.C tv H1 (λv H2=> ∃x,v=.bool x/\
 if x=true then(
 R (.tuple #[]) H2)
 else
 eK.C tv H2 (λb H3=> ∃a,b=.bool a/\
 if a=true then(
 (I3 H3/\m3 H3<m3 H1))
 else
 R (.tuple #[]) H3))
namespace dH
theorem link(h:pt a H R):C a H R:=by
 refine T_en K0 9 func39 ?_
 intro w0 Q hQ
 unfold pt at h
 refine T_su [(0,vp a)]<|T_bz 0 ?_
 obtain⟨I3,m3,i1,i2⟩:=h
 refine bL (x:=K2) (σ:=Unit) (λs_=> [(0,vp a)]) (λs_ H=>I3 H) (λs_ H=>m3 H) (():Unit) (by kernel_rfl) i1 sk ?_
 rintro _ H1 i3
 have h:=i2 H1 i3
 refine T_su [(0,vp a)]<|T_sz<|ar 0<|T_nd 1 [] [(2,vp a)]<|T_c (some 3) h ?_;clear h
 rintro v H2 ⟨x,rfl,h⟩
 refine T_pd [2] [(3,.bool x)]<|T_nd 2 [3] [(5,.bool (!x))] ?_
 by_cases c4:x=true
 ·rw[if_pos c4]at h
  have b5:(!x)=false:=congrArg Bool.not (c4)
  have b52:x=true:=c4
  refine N_bd 5 (b:=(!x)) (v:=false) (by simp only[b5,b52,Bool.not_true,Bool.not_false]) ?_
  clear b5 b52
  exact T_ed 3 [5] [(8,VF)]<|T_fz 8<|zk 0<|aD<|aD<|aM<|iG (fn:=f39) [] hQ (show cG _ _ _ [] _ from .nil) h
 rw[if_neg c4]at h
 have b5:(!x)=true:=congrArg Bool.not (zZ c4)
 have b52:x=false:=zZ c4
 refine N_bd 5 (b:=(!x)) (v:=true) (by simp only[b5,b52,Bool.not_true,Bool.not_false]) ?_
 clear b5 b52
 refine T_nd 1 [] [(6,vp a)]<|T_c (some 7) h ?_;clear h
 rintro b H3 ⟨tv,rfl,h⟩
 refine T_pd [6] [(7,.bool tv)]<|T_ed 1 [5,7] [(8,.bool tv)] ?_
 by_cases c6:tv=true
 ·rw[if_pos c6]at h
  exact aI 8 c6<|T_kt<|T_bz 1<|T_k<|aA<|aE<|aS (s:=()) (():Unit) sk h
 rw[if_neg c6]at h
 exact aJ 8 (zZ c6)<|zk 0<|aD<|aD<|aM<|iG (fn:=f39) [] hQ (show cG _ _ _ [] _ from .nil) h
end dH
/-! (*moraine/trace.Trace).none -/
namespace cD
def K0:=Func.code f75
end cD
def cD.pt(tv:zW)(H:zV)(R:zv):Prop:=
 fE tv (
 R VT H) (λa=>
 ∃x,hat H a=some (vp x)/\
 fE x (
 R VT H) (λxA=>
 ∃b,hat H (a.add 1029)=some (vi b)/\
 R (.bool (b==1)) H))
namespace cD
theorem link(h:pt a H R):C a H R:=by
 refine T_en K0 19 func75 ?_
 intro w0 Q hQ
 unfold pt at h
 refine T_su [(0,vp a)]<|ar 0<|T_ed 1 [] []<|ar 1<|T_nd 1 [] [(3,vp a)] ?_
 rcases a with _ | tv
 ·rw[onPtr_none]at h
  exact T_nr 16 [2] [VT] hQ h
 rw[onPtr_some]at h
 refine T_n 5 [(0,Vq tv),(5,VF),(8,Vq tv)] ?_
 obtain⟨x,q1,h⟩:=h
 refine T_l1 9 28 q1 [8] ?_
 rcases x with _ | xA
 ·rw[onPtr_none]at h
  exact T_nr 10 [2] [VT] hQ h
 rw[onPtr_some]at h
 refine T_n 6 [(12,VF),(15,Vq (tv.add 1029))] ?_
 obtain⟨b,q2,h⟩:=h
 exact T_l1 16 3 q2 [15]<|T_nr 3 [2] [.bool (b==1)] hQ h
end cD
/-! (*moraine/trace.Trace).Old -/
namespace dT
def K0:=Func.code f79
end dT
def dT.pt(tv:zW)(wv:Int)(H:zV)(R:zv):Prop:=
 gR.C wv H (λv H1=> ∃ra rb,v=.tuple #[vi ra,.bool rb]/\
 cD.C tv H1 (λf H2=> ∃x,f=.bool x/\
 if x=true then(
 R VF H2)
 else
 if rb=true then(
 cS.C wv H2 (λg H3=> ∃d,g=vi d/\
 if d=6 then(
 R VF H3)
 else
 ∃b,tv=some b/\
 ((0:Int)<=(zY (Int.tdiv ra 64))/\(zY (Int.tdiv ra 64))< (1024:Int))/\
 ∃e,hat H3 ((b.add 2).add (Int.toNat (zY (Int.tdiv ra 64))*1))=some (vi e)/\
 R (.bool (e==1)) H3))
 else
 R VF H2))
namespace dT
theorem link(h:pt a b H R):C a b H R:=by
 refine T_en K0 33 func79 ?_
 intro w0 Q hQ
 unfold pt zY at h
 refine T_su [(0,vp a),(1,vu b)]<|ar 0<|T_ed 1 [] []<|ar 1<|T_nd 1 [] [(8,vu b)]<|T_c (some 9) h ?_;clear h
 rintro v H1 ⟨ra,rb,rfl,h⟩
 refine T_pd [8] [(9,.tuple #[vi ra,.bool rb])]<|T_ed 5 [9] [(5,vi ra),(6,.bool rb)]<|ar 2<|T_nd 1 [] [(12,vp a)]<|T_c (some 13) h ?_;clear h
 rintro f H2 ⟨x,rfl,h⟩
 refine T_pd [12] [(13,.bool x)]<|T_nd 2 [13] [(15,.bool (!x))] ?_
 by_cases c1:x=true
 ·rw[if_pos c1]at h
  have b2:(!x)=false:=congrArg Bool.not (c1)
  have b22:x=true:=c1
  refine N_bd 15 (b:=(!x)) (v:=false) (by simp only[b2,b22,Bool.not_true,Bool.not_false]) ?_
  clear b2 b22
  exact T_nr 18 [4] [VF] hQ h
 rw[if_neg c1]at h
 have b2:(!x)=true:=congrArg Bool.not (zZ c1)
 have b22:x=false:=zZ c1
 refine N_bd 15 (b:=(!x)) (v:=true) (by simp only[b2,b22,Bool.not_true,Bool.not_false]) ?_
 clear b2 b22
 refine T_nd 3 [6,15] [(18,.bool rb)] ?_
 by_cases c3:rb=true
 ·rw[if_pos c3]at h
  refine N_bd 18 c3<|T_nd 1 [1] [(19,vu b)] ?_
  refine T_c (some 20) h ?_;clear h
  rintro g H3 ⟨d,rfl,h⟩
  refine T_pd [19] [(20,vi d)]<|T_nd 3 [18,20] [(23,.bool (d !=6))] ?_
  by_cases c5:d=6
  ·rw[if_pos c5]at h
   exact N_bd 23 (bne_eq_false_iff_eq.mpr c5)<|T_nr 10 [4] [VF] hQ h
  rw[if_neg c5]at h
  refine N_bd 23 (bne_iff_ne.mpr c5)<|T_nd 3 [0,5] [(24,vp a),(26,vi (zY (Int.tdiv ra 64)))] ?_
  obtain⟨tv,rfl,h⟩:=h
  refine T_nd 2 [24] [(28,Vq (tv.add 2))] ?_
  obtain⟨q7,h⟩:=h
  refine T_v1 29 (bK 141 (Vq (tv.add 2)) (vi (zY (Int.tdiv ra 64)))) (vp (some ((tv.add 2).add (Int.toNat (zY (Int.tdiv ra 64))*1)))) (λw _=>bX (P:=prog) (t:=141) (elem:=3) (sz:=1) (n:=1024) (a:=(tv.add 2)) (k:=.i64) (i:=(zY (Int.tdiv ra 64))) underlying141 (λ_=>by kernel_rfl) q7.1 q7.2 w) [26,28] ?_
  obtain⟨e,q8,h⟩:=h
  exact T_l1 30 3 q8 [29]<|T_nr 3 [4] [.bool (e==1)] hQ h
 rw[if_neg c3]at h
 exact N_bd 18 (zZ c3)<|T_nr 15 [4] [VF] hQ h
end dT
/-! (*moraine/trace.Trace).moved -/
namespace dI
def K0:=Func.code f80
end dI
def dI.pt(tv:zW)(wv:Int)(H:zV)(R:zv):Prop:=
 gR.C wv H (λv H1=> ∃ra rb,v=.tuple #[vi ra,.bool rb]/\
 ∃m,tv=some m/\
 ∃x,hat H1 m=some (vp x)/\
 ∃xA,x=some xA/\
 ∃n,hat H1 xA=some (vp n)/\
 ∃o,n=some o/\
 ∃k,hat H1 o=some (vp k)/\
 ∃l,k=some l/\
 ∃i,hat H1 l=some (vp i)/\
 cK.C i ra H1 (λt H2=> ∃b e,t=.tuple #[vu b,vi e]/\
 gR.C b H2 (λr H3=> ∃a d,r=.tuple #[vi a,.bool d]/\
 if e=0 then(
 if d=true then(
 cS.C b H3 (λs H4=> ∃g,s=vi g/\
 if g=6 then(
 cS.C wv H4 (λq H5=> ∃j,q=vi j/\
 j3.C j a H5 (λu H6=> ∃f p,u=.tuple #[vu f,vi p]/\
 R (.tuple #[vu f,VT]) H6)))
 else
 R (.tuple #[vu wv,VF]) H4))
 else
 R (.tuple #[vu wv,VF]) H3)
 else
 R (.tuple #[vu wv,VF]) H3)))
namespace dI
theorem link(h:pt a b H R):C a b H R:=by
 refine T_en K0 62 func80 ?_
 intro w0 Q hQ
 unfold pt at h
 refine T_su [(0,vp a),(1,vu b)]<|ar 0<|T_ed 2 [] []<|ar 1<|T_nd 1 [] [(15,vu b)]<|T_c (some 16) h ?_;clear h
 rintro v H1 ⟨ra,rb,rfl,h⟩
 refine T_pd [15] [(16,.tuple #[vi ra,.bool rb])]<|T_ed 5 [16] [(6,vi ra)]<|ar 2<|T_nd 1 [0] [(20,vp a)] ?_
 obtain⟨m,rfl,h⟩:=h
 refine T_nd 2 [20] [(22,Vq m)] ?_
 obtain⟨x,q1,h⟩:=h
 refine T_l1 23 28 q1 [22] ?_
 obtain⟨xA,rfl,h⟩:=h
 refine T_nd 2 [23] [(25,Vq xA)] ?_
 obtain⟨n,q2,h⟩:=h
 refine T_l1 26 33 q2 [25] ?_
 obtain⟨o,rfl,h⟩:=h
 refine T_nd 2 [26] [(28,Vq o)] ?_
 obtain⟨k,q3,h⟩:=h
 refine T_l1 29 42 q3 [28] ?_
 obtain⟨l,rfl,h⟩:=h
 refine T_nd 2 [29] [(31,Vq l)] ?_
 obtain⟨i,q4,h⟩:=h
 refine T_l1 32 70 q4 [31]<|T_nd 1 [6] [(33,vi ra)]<|T_c (some 34) h ?_;clear h
 rintro t H2 ⟨tv,e,rfl,h⟩
 refine T_pd [32,33] [(34,.tuple #[vu tv,vi e])]<|T_ed 5 [34] [(8,vu tv),(9,vi e)]<|ar 3<|T_nd 1 [] [(38,vu tv)]<|T_c (some 39) h ?_;clear h
 rintro r H3 ⟨wv,d,rfl,h⟩
 refine T_pd [38] [(39,.tuple #[vi wv,.bool d])]<|T_ed 5 [39] [(10,vi wv),(11,.bool d)]<|T_sz<|ar 4<|T_nd 3 [9] [(44,.bool (e !=0))] ?_
 by_cases c5:e=0
 ·rw[if_pos c5]at h
  refine N_bd 44 (bne_eq_false_iff_eq.mpr c5)<|T_nd 4 [11,44] [(48,.bool (!d))] ?_
  by_cases c7:d=true
  ·rw[if_pos c7]at h
   have b8:(!d)=false:=congrArg Bool.not (c7)
   have b82:d=true:=c7
   refine N_bd 48 (b:=(!d)) (v:=false) (by simp only[b8,b82,Bool.not_true,Bool.not_false]) ?_
   clear b8 b82
   refine T_nd 1 [8] [(49,vu tv)]<|T_c (some 50) h ?_;clear h
   rintro s H4 ⟨g,rfl,h⟩
   refine T_pd [49] [(50,vi g)]<|T_ed 2 [48,50] [(52,.bool (g !=6))] ?_
   by_cases c9:g=6
   ·rw[if_pos c9]at h
    refine aJ 52 (bne_eq_false_iff_eq.mpr c9)<|T_kt<|ar 6<|T_nd 1 [1,52] [(55,vu b)]<|T_c (some 56) h ?_;clear h
    rintro q H5 ⟨j,rfl,h⟩
    refine T_pd [55] [(56,vi j)]<|T_nd 1 [10] [(57,vi wv)]<|T_c (some 58) h ?_;clear h
    rintro u H6 ⟨f,p,rfl,h⟩
    refine⟨[(58,.tuple #[vu f,vi p])],pk,?_⟩
    exact T_ne 5 [(12,vu f)]<|ar 7<|T_nr 3 [4,5] [vu f,VT] hQ h
   rw[if_neg c9]at h
   exact aI 52 (bne_iff_ne.mpr c9)<|ar 5<|T_nr 3 [4,5] [vu b,VF] hQ h
  rw[if_neg c7]at h
  have b8:(!d)=true:=congrArg Bool.not (zZ c7)
  have b82:d=false:=zZ c7
  refine N_bd 48 (b:=(!d)) (v:=true) (by simp only[b8,b82,Bool.not_true,Bool.not_false]) ?_
  clear b8 b82
  exact T_ed 4 [8,48] [(52,VT)]<|T_tz 52<|ar 5<|T_nr 3 [4,5] [vu b,VF] hQ h
 rw[if_neg c5]at h
 exact N_bd 44 (bne_iff_ne.mpr c5)<|T_ed 8 [8,11,44] [(52,VT)]<|T_tz 52<|ar 5<|T_nr 3 [4,5] [vu b,VF] hQ h
end dI
/-! (*moraine/trace.Trace).look -/
namespace cQ
def K0:=Func.code f84
def K2:=cb K0
def K4:=cb K2
def K6:=cb K4
def K7:=ca K6
def K8:=ca K7
end cQ
def cQ.pt(tv:zW)(d e to a:Int)(H:zV)(R:zv):Prop:=
 ∀b H1,b=H.size->H1=H.push (.cells #[vp tv] 92)->
 ∃(I9:zw) (m9:Int->zV->Nat),I9 e H1/\ ∀i H2,I9 i H2->
 if((decide (i<to)) && (a !=3))=true then(
 if((a !=1) || ((Int.tmod i 2)==1))=true then(
 dP.C (zY ((zY (d*64))+i)) (some (ad b)) H2 (λ_ H3=>
 (I9 (zY (i+1)) H3/\m9 (zY (i+1)) H3<m9 i H2)))
 else
 (I9 (zY (i+1)) H2/\m9 (zY (i+1)) H2<m9 i H2))
 else
 R (.tuple #[]) H2
namespace cQ
theorem link{e to d:Int}(h:pt a b e to d H R):C a b e to d H R:=by
 refine T_en K0 36 func84 ?_
 intro w0 Q hQ
 unfold pt zY at h
 refine T_su [(0,vp a),(1,vi b),(2,vi e),(3,vi to),(4,vi d)]<|ar 0<|T_nw (some 5) (λtv=>vp (pa tv)) (.cells #[vp a] 92) ?_
 intro tv H1 e1 e2
 replace h:=h tv H1 e1 e2
 refine T_pd [0] [(5,vp (pa tv))]<|T_e<|ar 1<|T_ed 2 [5] [(10,.func (.func 124) #[] #[vp (pa tv)])]<|ar 2<|T_ed 2 [2] [(11,vi e)]<|T_bz 0 ?_
 obtain⟨I9,m9,i3,i4⟩:=h
 refine bL (x:=K8) (σ:=Int) (λs_=> [(1,vi b),(3,vi to),(4,vi d),(10,.func (.func 124) #[] #[vp (pa tv)]),(11,vi s_)]) (λs_ H=>I9 s_ H) (λs_ H=>m9 s_ H) (e:Int) (by kernel_rfl) i3 sk ?_
 rintro i H2 i5
 have h:=i4 i H2 i5
 refine T_su [(1,vi b),(3,vi to),(4,vi d),(10,.func (.func 124) #[] #[vp (pa tv)]),(11,vi i)]<|T_sz<|ar 3 ?_
 refine iT [(1,vi b),(3,vi to),(4,vi d),(10,.func (.func 124) #[] #[vp (pa tv)]),(11,vi i),(20,.bool ((decide (i<to)) && (d !=3)))] ?_ ?_
 ·refine aE ?_
  by_cases c8:((decide (i<to)) && (d !=3))=true
  ·rw[if_pos c8]at h
   refine aI 20 c8<|T_kt<|T_sz<|T_bz 1<|ar 5 ?_
   refine iT [(1,vi b),(3,vi to),(4,vi d),(10,.func (.func 124) #[] #[vp (pa tv)]),(11,vi i),(29,.bool ((d !=1) || ((Int.tmod i 2)==1)))] ?_ ?_
   ·refine aE ?_
    by_cases c12:((d !=1) || ((Int.tmod i 2)==1))=true
    ·rw[if_pos c12]at h
     refine aI 29 c12<|T_rz 6<|T_n 5 [(1,vi b),(3,vi to),(4,vi d),(10,.func (.func 124) #[] #[vp (pa tv)]),(11,vi i),(30,.func (.func 124) #[] #[vp (pa tv)]),(34,vi (zY ((zY (b*64))+i)))]<|T_c (some 35) h ?_;clear h
     intro v H3 h
     exact T_pd [30,34] []<|zq<|aA<|aE<|T_rz 4<|T_ed 3 [11] [(11,vi (zY (i+1)))]<|aS ((zY (i+1)):Int) sk h
    rw[if_neg c12]at h
    exact aJ 29 (zZ c12)<|T_k<|aA<|aE<|T_rz 4<|T_ne 3 [(1,vi b),(3,vi to),(4,vi d),(10,.func (.func 124) #[] #[vp (pa tv)]),(11,vi (zY (i+1)))]<|aS ((zY (i+1)):Int) sk h
   intro hk
   refine T_n 3 [(1,vi b),(3,vi to),(4,vi d),(10,.func (.func 124) #[] #[vp (pa tv)]),(11,vi i),(25,.bool (d !=1))] ?_
   by_cases c10:d=1
   ·have b11:(d !=1)=false:=bne_eq_false_iff_eq.mpr c10
    refine bW [(1,vi b),(3,vi to),(4,vi d),(10,.func (.func 124) #[] #[vp (pa tv)]),(11,vi i),(25,VF)] (by rw[b11]) ?_
    refine T_nd 4 [25] [(29,.bool ((Int.tmod i 2)==1))]<|zq<|S_bd 29 (b:=((Int.tmod i 2)==1)) (v:=((d !=1) || ((Int.tmod i 2)==1))) (by simp only[b11,BL]) ?_
    exact hk
   have b11:(d !=1)=true:=bne_iff_ne.mpr c10
   refine bW [(1,vi b),(3,vi to),(4,vi d),(10,.func (.func 124) #[] #[vp (pa tv)]),(11,vi i),(25,VT)] (by rw[b11]) ?_
   refine T_nd 4 [25] [(29,VT)]<|zq<|S_bd 29 (b:=true) (v:=((d !=1) || ((Int.tmod i 2)==1))) (by simp only[b11,BL]) ?_
   exact hk
  rw[if_neg c8]at h
  exact aJ 20 (zZ c8)<|zk 0<|aD<|aD<|aM<|iG (fn:=f84) [] hQ (show cG _ _ _ [] _ from .nil) h
 intro hk
 refine T_n 4 [(1,vi b),(3,vi to),(4,vi d),(10,.func (.func 124) #[] #[vp (pa tv)]),(11,vi i),(17,.bool (decide (i<to)))] ?_
 by_cases c6:i<to
 ·have b7:(decide (i<to))=true:=zX c6
  refine bW [(1,vi b),(3,vi to),(4,vi d),(10,.func (.func 124) #[] #[vp (pa tv)]),(11,vi i),(17,VT)] (by rw[b7]) ?_
  refine T_nd 3 [17] [(20,.bool (d !=3))]<|zq<|S_bd 20 (b:=(d !=3)) (v:=((decide (i<to)) && (d !=3))) (by simp only[b7,BL]) ?_
  exact hk
 have b7:(decide (i<to))=false:=zQ c6
 refine bW [(1,vi b),(3,vi to),(4,vi d),(10,.func (.func 124) #[] #[vp (pa tv)]),(11,vi i),(17,VF)] (by rw[b7]) ?_
 refine T_nd 3 [17] [(20,VF)]<|zq<|S_bd 20 (b:=false) (v:=((decide (i<to)) && (d !=3))) (by simp only[b7,BL]) ?_
 exact hk
end cQ
/-! (*moraine/trace.Trace).round -/
namespace eK
def K0:=Func.code f85
def K2:=cb K0
def K4:=cb K2
def K5:=ca K4
def K7:=ca K5
def K8:=cb K5
def K9:=ca K8
def K10:=ca K9
def K12:=cb K10
def K14:=cb K12
def K17:=ca K14
def K19:=ca K17
def K21:=cb K19
def K23:=cb K21
def K29:=cb K23
def K30:=ca K29
def K31:=ca K30
def K33:=cb K31
def K38:=ca K33
def K40:=ca K38
def K42:=cb K40
def K43:=ca K42
end eK
def eK.pt(tv:zW)(H:zV)(R:zv):Prop:=
 ∃d,tv=some d/\
 ∃x,hat H d=some (vp x)/\
 ∃xA,x=some xA/\
 ∃bx,hat H xA=some (vp bx)/\
 ∃al,bx=some al/\
 ∃bz,hat H al=some (vp bz)/\
 ∃am,bz=some am/\
 ∃aq,hat H am=some (vp aq)/\
 ∃ba,hat H (d.add 1)=some (vi ba)/\
 ∀b H1,b=H.size->H1=H.push (.cells #[vi ba] 3)->aQ H1 d 0 [Vq xA]/\aQ H1 xA 0 [Vq al]/\aQ H1 al 0 [Vq am]/\aQ H1 am 0 [vp aq]/\
 cO.C aq (some (ad b)) 1 1 H1 (λv H2=> ∃xB xN xC,v=vs xB xN xC/\
 ∃(bj:Bool->zw) (m11:Bool->Int->zV->Nat),bj false 0 H2/\ ∀g s29 H3,bj g s29 H3->
 if s29< (xN:Int)then(
 ∃f,xB=some f/\
 yZ s29 xN/\
 ∃e,hat H3 (f.add (Int.toNat s29*1))=some (vi e)/\
 yZ e 1024/\
 ∃a4,hat H3 ((d.add 2).add (Int.toNat e*1))=some (vi a4)/\
 if a4=1 then(
 (bj g (zY (s29+1)) H3/\m11 g (zY (s29+1)) H3<m11 g s29 H3))
 else
 ∃bn,hat H3 d=some (vp bn)/\
 ∃bp,bn=some bp/\
 ∃bq,hat H3 bp=some (vp bq)/\
 ∃br,bq=some br/\
 ∃bh,hat H3 br=some (vp bh)/\
 ∃bf,bh=some bf/\
 ∃a2,hat H3 bf=some (vp a2)/\
 bH.C a2 e H3 (λb0 H4=> ∃an aj a3 q r y u rb,b0=.tuple #[.agg #[vi an,vi aj,vi a3,vi q,vi r,vi y,vi u],.bool rb]/\
 ∀az H5,az=H4.size->H5=H4.push (.cells #[vi 0,vi 0,vi 0,vi 0,vi 0,vi 0,vi 0] 89)->
 (aK H5 (ad az) 0 7)/\ ∀H6,H6=aR H5 (ad az) [vi an,vi aj,vi a3,vi q,vi r,vi y,vi u] 0->
 ∃(bo:Bool->zW->zV->Prop) (m32:Bool->zW->zV->Nat),bo g (some (ad az)) H6/\ ∀j s H7,bo j s H7->
 ∃a8,hat H7 (d.add 1027)=some (.map a8)/\
 ∃mr,a8=some mr/\
 ∃es cl ks,H7[mr]?=some (.map es cl)/\Ents (bF .i64) es.toList ks/\
 ∃ak,(mget ks e).getD (vi 0)=vi ak/\
 ∃sA,s=some sA/\
 ∃ap,hat H7 (sA.add 2)=some (vi ap)/\
 if ak<ap then(
 ∃a7,hat H7 (d.add 1027)=some (.map a7)/\
 ∃bk,a7=some bk/\
 ∃bu cl_2 ks_2,H7[bk]?=some (.map bu cl_2)/\Ents (bF .i64) bu.toList ks_2/\
 ∃ab,(mget ks_2 e).getD (vi 0)=vi ab/\
 ∃aw,hat H7 (d.add 1027)=some (.map aw)/\
 ∃ax,hat H7 (sA.add 2)=some (vi ax)/\
 ∃a6,aw=some a6/\
 ∃bs cl_3 ks_3,H7[a6]?=some (.map bs cl_3)/\Ents (bF .i64) bs.toList ks_3/\
 ∀bl cl_4 H8,H8=aO H7 a6 (.map bl cl_4)->Ents (bF .i64) bl.toList (mput ks_3 e (vi ax))->
 ∃a0,hat H8 (sA.add 2)=some (vi a0)/\
 ∃a5,hat H8 (sA.add 1)=some (vi a5)/\
 cQ.C (some d) e ab a0 a5 H8 (λ_ H9=>
 ∃av ao ay af ag ae ac,aQ H9 sA 0 [vi av,vi ao,vi ay,vi af,vi ag,vi ae,vi ac]/\
 ∀aa H10,aa=H9.size->H10=H9.push (.cells #[vi 0,vi 0,vi 0,vi 0,vi 0,vi 0,vi 0] 89)->
 (aK H10 (ad aa) 0 7)/\ ∀a9,a9=aR H10 (ad aa) [vi av,vi ao,vi ay,vi af,vi ag,vi ae,vi ac] 0->
 ∃be,hat a9 d=some (vp be)/\
 ∃bg,be=some bg/\
 ∃bi,hat a9 bg=some (vp bi)/\
 ∃bc,bi=some bc/\
 ∃bb,hat a9 bc=some (vp bb)/\
 ∃bd,bb=some bd/\
 ∃a1,hat a9 bd=some (vp a1)/\
 bH.C a1 e a9 (λb1 bw=> ∃ai ah au l p m o bt,b1=.tuple #[.agg #[vi ai,vi ah,vi au,vi l,vi p,vi m,vi o],.bool bt]/\
 (aK bw (ad aa) 0 7)/\ ∀bm,bm=aR bw (ad aa) [vi ai,vi ah,vi au,vi l,vi p,vi m,vi o] 0->
 (bo true (some (ad aa)) bm/\m32 true (some (ad aa)) bm<m32 j s H7))))
 else
 (bj j (zY (s29+1)) H7/\m11 j (zY (s29+1)) H7<m11 g s29 H3)))
 else
 R (.bool g) H3)
namespace eK
theorem link(h:pt a H R):C a H R:=by
 refine T_en K0 109 func85 ?_
 intro w0 Q hQ
 unfold pt zY at h
 refine T_su [(0,vp a)]<|ar 0<|T_ed 1 [] []<|ar 1<|T_ed 1 [] [(3,VF)]<|T_sz<|T_sz ?_
 obtain⟨d,rfl,x,q1,xA,rfl,bx,q2,al,rfl,bz,q3,am,rfl,aq,q4,ba,q5,h⟩:=h
 refine yq 2 (Code.ops K7) [(18,d,[Vq xA]),(18,xA,[Vq al]),(18,al,[Vq am]),(18,am,[vp aq]),(17,(d.add 1),[vi ba])] 21 (bv 21 0) (show aF _ _ _ from⟨⟨q1,trivial⟩,⟨q2,trivial⟩,⟨q3,trivial⟩,⟨q4,trivial⟩,⟨q5,trivial⟩,trivial⟩)<|T_gp 0 (some 9) (Vq d) (bv 21 1) [(0,Vq d),(3,VF),(9,Vq d)]<|aL 1 10 (Vq d) (bv 21 3) [9]<|aL 2 11 (Vq d) (bv 21 7) [10]<|T_g1 3 12 (Vq xA) (bv 21 15) [11] (aU 28 (Vq d)) (yY 18 yX)<|aL 4 13 (Vq xA) (bv 21 31) [12]<|aL 5 14 (Vq xA) (bv 21 63) [13]<|T_g1 6 15 (Vq al) (bv 21 127) [14] (aU 33 (Vq xA)) (yY 18 yQ)<|aL 7 16 (Vq al) (bv 21 255) [15]<|aL 8 17 (Vq al) (bv 21 511) [16]<|T_g1 9 18 (Vq am) (bv 21 1023) [17] (aU 42 (Vq al)) (yY 18 yJ)<|aL 10 19 (Vq am) (bv 21 2047) [18]<|aL 11 20 (Vq am) (bv 21 4095) [19]<|T_g1 12 21 (vp aq) (bv 21 8191) [20] (aU 70 (Vq am)) (yY 18 yK)<|aL 13 22 (Vq d) (bv 21 16383) []<|aL 14 23 (Vq d) (bv 21 32767) [22]<|aL 15 24 (Vq (d.add 1)) (bv 21 65535) [23]<|T_g1 16 25 (vi ba) (bv 21 131071) [24] (aU 3 (Vq (d.add 1))) (yY 17 yV)<|aL 20 29 (vi 0) (bv 21 1179647) []<|na 17 (some 26) (bv 21 1310719) (λb=>vs (pa b) 1 1) (.cells #[vi ba] 3) (by kernel_rfl) (λ_=>by kernel_rfl) (by kernel_rfl) ?_
 intro b H1 e10 e11
 replace h:=h b H1 e10 e11
 obtain⟨f6,f7,f8,f9,h⟩:=h
 refine⟨[(0,Vq d),(3,VF),(21,vp aq),(26,vs (pa b) 1 1),(29,vi 0)],pk,(show aF _ _ _ from⟨f6,f7,f8,f9,trivial,trivial⟩),?_⟩
 refine yx 18 (some 27) (bv 21 1572863) 32 #[vp aq,vs (pa b) 1 1] h ?_;clear h
 rintro v H2 ⟨xB,xN,xC,rfl,h⟩
 refine⟨[(0,Vq d),(3,VF),(27,vs xB xN xC),(29,vi 0)],pk,(show aF _ _ _ from⟨trivial,trivial,trivial,trivial,trivial,trivial⟩),?_⟩
 refine T_g 19 (some 28) (vi xN) (bv 21 2097151) [(0,Vq d),(3,VF),(27,vs xB xN xC),(28,vi xN),(29,vi 0)] (pure (.value (vi xN)):Sem Next) (λ_ _ _ _ _=>rfl)<|fU [(0,Vq d),(3,VF),(27,vs xB xN xC),(28,vi xN),(29,vi 0)] sk<|yz<|aE<|T_bz 0 ?_
 obtain⟨bj,m11,i12,i13⟩:=h
 refine bL (x:=K10) (σ:=Bool×Int) (λs_=> [(0,Vq d),(3,.bool s_.1),(27,vs xB xN xC),(28,vi xN),(29,vi s_.2)]) (λs_ H=>bj s_.1 s_.2 H) (λs_ H=>m11 s_.1 s_.2 H) ((false,0):Bool×Int) (by kernel_rfl) i12 sk ?_
 rintro⟨g,s29⟩ H3 i14
 have h:=i13 g s29 H3 i14
 refine T_su [(0,Vq d),(3,.bool g),(27,vs xB xN xC),(28,vi xN),(29,vi s29)]<|ar 3<|T_ed 1 [] [(30,.bool (decide (s29< (xN:Int))))]<|T_sz ?_
 by_cases c15:s29< (xN:Int)
 ·rw[if_pos c15]at h
  refine aI 30 (zX c15)<|T_kt<|T_sz<|T_bz 1<|ar 4<|T_ud [30] [] ?_
  obtain⟨f,rfl,q17,h⟩:=h
  refine T_xd (some 31) 59 3 1 f xN xC .i64 s29 underlying59 q17.1 q17.2 [27] [(27,vs (some f) xN xC),(31,Vq (f.add (Int.toNat s29*1)))] ?_
  obtain⟨e,q18,h⟩:=h
  refine T_l1 32 3 q18 [31]<|T_ed 1 [32] [(5,vi e)]<|T_sz<|ar 5<|T_nd 4 [] [(34,vi e),(36,Vq (d.add 2))] ?_
  obtain⟨q19,h⟩:=h
  refine T_v1 37 (bK 141 (Vq (d.add 2)) (vi e)) (Vq ((d.add 2).add (Int.toNat e*1))) (λw _=>bX (P:=prog) (t:=141) (elem:=3) (sz:=1) (n:=1024) (a:=(d.add 2)) (k:=.i64) (i:=e) underlying141 (λ_=>by kernel_rfl) q19.1 q19.2 w) [34,36] ?_
  obtain⟨a4,q20,h⟩:=h
  refine T_l1 38 3 q20 [37]<|T_ed 1 [38] [(39,.bool (a4==1))] ?_
  by_cases c21:a4=1
  ·rw[if_pos c21]at h
   exact aI 39 (zK c21)<|zk 1<|aD<|aM<|aE<|T_rz 15<|T_ed 2 [5,29,39] [(29,vi (zY (s29+1)))]<|aS ((g,(zY (s29+1))):Bool×Int) sk h
  rw[if_neg c21]at h
  refine aJ 39 (zJ c21)<|T_kt<|ar 6<|T_nd 3 [39] [(43,Vq d)] ?_
  obtain⟨bn,q23,h⟩:=h
  refine T_l1 44 28 q23 [43] ?_
  obtain⟨bp,rfl,h⟩:=h
  refine T_nd 2 [44] [(46,Vq bp)] ?_
  obtain⟨bq,q24,h⟩:=h
  refine T_l1 47 33 q24 [46] ?_
  obtain⟨br,rfl,h⟩:=h
  refine T_nd 2 [47] [(49,Vq br)] ?_
  obtain⟨bh,q25,h⟩:=h
  refine T_l1 50 42 q25 [49] ?_
  obtain⟨bf,rfl,h⟩:=h
  refine T_nd 2 [50] [(52,Vq bf)] ?_
  obtain⟨a2,q26,h⟩:=h
  refine T_l1 53 70 q26 [52]<|T_nd 1 [] [(54,vi e)]<|T_c (some 55) h ?_;clear h
  rintro b0 H4 ⟨an,aj,a3,q,r,y,u,rb,rfl,h⟩
  refine T_pd [53,54] [(55,.tuple #[.agg #[vi an,vi aj,vi a3,vi q,vi r,vi y,vi u],.bool rb])]<|T_nd 3 [55] [(56,.agg #[vi an,vi aj,vi a3,vi q,vi r,vi y,vi u]),(57,.bool rb)]<|T_nw (some 6) (λb=>vp (pa b)) (.cells #[vi 0,vi 0,vi 0,vi 0,vi 0,vi 0,vi 0] 89) ?_
  intro az H5 e27 e28
  replace h:=h az H5 e27 e28
  refine T_pd [] [(6,vp (pa az))] ?_
  obtain⟨q30,h⟩:=h
  refine fG 89 [vi an,vi aj,vi a3,vi q,vi r,vi y,vi u] q30 ?_
  intro H6 e29
  replace h:=h H6 e29
  refine T_pd [56] []<|T_ed 1 [57] []<|T_bz 2 ?_
  obtain⟨bo,m32,i31,i32⟩:=h
  refine bL (x:=K31) (σ:=Bool×zW) (λs_=> [(0,Vq d),(3,.bool s_.1),(5,vi e),(6,vp s_.2),(27,vs (some f) xN xC),(28,vi xN),(29,vi s29)]) (λs_ H=>bo s_.1 s_.2 H) (λs_ H=>m32 s_.1 s_.2 H) ((g,(pa az)):Bool×zW) (by kernel_rfl) i31 sk ?_
  rintro⟨j,s⟩ H7 i33
  have h:=i32 j s H7 i33
  refine T_su [(0,Vq d),(3,.bool j),(5,vi e),(6,vp s),(27,vs (some f) xN xC),(28,vi xN),(29,vi s29)]<|T_sz<|T_sz<|oJ 7<|T_q1 58 (Vq d) []<|T_q1 59 (Vq d) [58]<|T_q1 60 (Vq (d.add 1027)) [59] ?_
  obtain⟨a8,q34,h⟩:=h
  refine nh (some 61) 140 q34 [60] [(61,.map a8)]<|T_q (some 62) (vi e) [(0,Vq d),(3,.bool j),(5,vi e),(6,vp s),(27,vs (some f) xN xC),(28,vi xN),(29,vi s29),(61,.map a8),(62,vi e)] ?_
  obtain⟨mr,rfl,es,cl,ks,q35,q36,ak,e67,h⟩:=h
  refine Q_op (some 63) (jU 140 (.map (some mr)) (vi e) false) (vi ak) (λ_=>by kernel_rfl) (λw hw=>(iI (kk:=(bF .i64)) (z:=vi 0) underlying140 underlying3 (λ_=>by kernel_rfl) (by rw[hw];exact q35) q36 false).trans (by simp only[if_true,Bool.false_eq_true,if_false,e67])) [(0,vp (some d)),(3,.bool j),(5,vi e),(6,vp s),(27,vs (some f) xN xC),(28,vi xN),(29,vi s29),(63,vi ak)] pk ?_
  obtain⟨sA,rfl,h⟩:=h
  refine T_q (some 64) (Vq (sA.add 2)) [(0,Vq d),(3,.bool j),(5,vi e),(6,Vq sA),(27,vs (some f) xN xC),(28,vi xN),(29,vi s29),(63,vi ak),(64,Vq (sA.add 2))] ?_
  obtain⟨ap,q38,h⟩:=h
  refine nh (some 65) 3 q38 [64] [(65,vi ap)]<|T_q1 66 (.bool (decide (ak<ap))) [63,65]<|mv [(0,Vq d),(3,.bool j),(5,vi e),(6,Vq sA),(27,vs (some f) xN xC),(28,vi xN),(29,vi s29),(66,.bool (decide (ak<ap)))] sk<|T_qe ?_
  by_cases c39:ak<ap
  ·rw[if_pos c39]at h
   refine aI 66 (zX c39)<|T_kt<|T_sz<|T_bz 3<|ar 9<|T_n 3 [(0,Vq d),(5,vi e),(6,Vq sA),(27,vs (some f) xN xC),(28,vi xN),(29,vi s29),(87,Vq (d.add 1027))] ?_
   obtain⟨a7,q41,h⟩:=h
   refine T_l1 88 140 q41 [87]<|T_nd 1 [] [(89,vi e)] ?_
   obtain⟨bk,rfl,bu,cl_2,ks_2,q42,q43,ab,e65,h⟩:=h
   refine T_v1 90 (jU 140 (.map (some bk)) (vi e) false) (vi ab) (λw hw=>(iI (kk:=(bF .i64)) (z:=vi 0) underlying140 underlying3 (λ_=>by kernel_rfl) (by rw[hw];exact q42) q43 false).trans (by simp only[if_true,Bool.false_eq_true,if_false,e65])) [88,89]<|T_ed 1 [90] [(8,vi ab)]<|T_sz ?_
   obtain⟨aw,q45,ax,q46,h⟩:=h
   refine yq 10 (Code.ops K43) [(7,(d.add 1027),[.map aw]),(7,(sA.add 2),[vi ax])] 8 (bv 8 0) (show aF _ _ _ from⟨⟨q45,trivial⟩,⟨q46,trivial⟩,trivial⟩)<|T_gp 0 (some 91) (Vq d) (bv 8 1) [(0,Vq d),(5,vi e),(6,Vq sA),(8,vi ab),(27,vs (some f) xN xC),(28,vi xN),(29,vi s29),(91,Vq d)]<|aL 1 92 (Vq d) (bv 8 3) [91]<|aL 2 93 (Vq (d.add 1027)) (bv 8 7) [92]<|T_g1 3 94 (.map aw) (bv 8 15) [93] (aU 140 (Vq (d.add 1027))) (yY 7 yX)<|aL 4 95 (vi e) (bv 8 31) []<|aL 5 96 (Vq (sA.add 2)) (bv 8 63) []<|T_g1 6 97 (vi ax) (bv 8 127) [96] (aU 3 (Vq (sA.add 2))) (yY 7 yQ) ?_
   obtain⟨a6,rfl,bs,cl_3,ks_3,q47,q48,h⟩:=h
   refine fT 7 none (bv 8 255) (mV 140 (.map (some a6)) (vi e) (vi ax)) (λHz=> ∃es2 cl2,Hz=aO H7 a6 (.map es2 cl2)/\Ents (bF .i64) es2.toList (mput ks_3 e (vi ax))) (by kernel_rfl) (λ_=>by kernel_rfl) (λw hw=>by obtain⟨es2,cl2,q1,q2⟩:=nq (kk:=(bF .i64)) (P:=prog) (w:=w) (k:=e) (v:=vi ax) underlying140 underlying3 (by rw[hw];exact q47) q48;exact⟨_,q1,⟨rfl,rfl,rfl,Nat.le_refl _⟩,es2,cl2,by rw[<-hw],q2⟩) (by kernel_rfl) ?_
   rintro H8 ⟨bl,cl_4,e50,e51⟩
   replace h:=h bl cl_4 H8 e50 e51
   refine⟨[(0,Vq d),(5,vi e),(6,Vq sA),(8,vi ab),(27,vs (some f) xN xC),(28,vi xN),(29,vi s29)],pk,(show aF _ _ _ from⟨trivial,trivial,trivial⟩),?_⟩
   refine fU [(0,Vq d),(5,vi e),(6,Vq sA),(8,vi ab),(27,vs (some f) xN xC),(28,vi xN),(29,vi s29)] sk ?_
   refine yz<|aE<|ar 11<|T_n 4 [(0,Vq d),(5,vi e),(6,Vq sA),(27,vs (some f) xN xC),(28,vi xN),(29,vi s29),(98,Vq d),(99,vi e),(100,vi ab),(101,Vq (sA.add 2))] ?_
   obtain⟨a0,q52,h⟩:=h
   refine T_l1 102 3 q52 [101]<|T_nd 1 [] [(103,Vq (sA.add 1))] ?_
   obtain⟨a5,q53,h⟩:=h
   refine T_l1 104 3 q53 [103]<|T_c (some 105) h ?_;clear h
   intro v_3 H9 h
   refine T_pd [98,99,100,102,104] []<|T_e<|T_rz 12<|T_nd 1 [] [(3,VT)]<|zq<|aA<|aE<|T_sz<|ar 13 ?_
   obtain⟨av,ao,ay,af,ag,ae,ac,q54,h⟩:=h
   refine T_lr 106 89 q54 [6]<|T_e<|T_rz 14<|T_nw (some 6) (λb=>vp (pa b)) (.cells #[vi 0,vi 0,vi 0,vi 0,vi 0,vi 0,vi 0] 89) ?_
   intro aa H10 e55 e56
   replace h:=h aa H10 e55 e56
   refine T_pd [] [(6,vp (pa aa))] ?_
   obtain⟨q58,h⟩:=h
   refine fG 89 [vi av,vi ao,vi ay,vi af,vi ag,vi ae,vi ac] q58 ?_
   intro a9 e57
   replace h:=h a9 e57
   refine T_pd [106] []<|T_e<|T_rz 8<|T_nd 3 [] [(70,Vq d)] ?_
   obtain⟨be,q59,h⟩:=h
   refine T_l1 71 28 q59 [70] ?_
   obtain⟨bg,rfl,h⟩:=h
   refine T_nd 2 [71] [(73,Vq bg)] ?_
   obtain⟨bi,q60,h⟩:=h
   refine T_l1 74 33 q60 [73] ?_
   obtain⟨bc,rfl,h⟩:=h
   refine T_nd 2 [74] [(76,Vq bc)] ?_
   obtain⟨bb,q61,h⟩:=h
   refine T_l1 77 42 q61 [76] ?_
   obtain⟨bd,rfl,h⟩:=h
   refine T_nd 2 [77] [(79,Vq bd)] ?_
   obtain⟨a1,q62,h⟩:=h
   refine T_l1 80 70 q62 [79]<|T_nd 1 [] [(81,vi e)]<|T_c (some 82) h ?_;clear h
   rintro b1 bw ⟨ai,ah,au,l,p,m,o,bt,rfl,h⟩
   refine T_pd [80,81] [(82,.tuple #[.agg #[vi ai,vi ah,vi au,vi l,vi p,vi m,vi o],.bool bt])]<|T_nd 3 [82] [(83,.agg #[vi ai,vi ah,vi au,vi l,vi p,vi m,vi o])] ?_
   obtain⟨q64,h⟩:=h
   refine fG 89 [vi ai,vi ah,vi au,vi l,vi p,vi m,vi o] q64 ?_
   intro bm e63
   replace h:=h bm e63
   exact T_pd [83] []<|T_e<|aS ((true,(pa aa)):Bool×zW) sk h
  rw[if_neg c39]at h
  exact aJ 66 (zQ c39)<|zk 2<|aD<|aD<|aM<|aA<|aE<|T_rz 15<|T_ne 2 [(0,Vq d),(3,.bool j),(27,vs (some f) xN xC),(28,vi xN),(29,vi (zY (s29+1)))]<|aS ((j,(zY (s29+1))):Bool×Int) sk h
 rw[if_neg c15]at h
 exact aJ 30 (zQ c15)<|zk 0<|aD<|aD<|aM<|aE<|ar 16<|T_nr 2 [2] [.bool g] hQ h
end eK
/-! (*moraine/trace.Trace).Reached -/
namespace bT
def K0:=Func.code f88
end bT
def bT.pt(tv:zW)(wv:Int)(H:zV)(R:zv):Prop:=
 dT.C tv wv H (λv H1=> ∃x,v=.bool x/\
 if x=true then(
 dI.C tv wv H1 (λa H2=> ∃ra rb,a=.tuple #[vu ra,.bool rb]/\
 R (.bool rb) H2))
 else
 R VT H1)
namespace bT
theorem link(h:pt a b H R):C a b H R:=by
 refine T_en K0 18 func88 ?_
 intro w0 Q hQ
 unfold pt at h
 refine T_su [(0,vp a),(1,vu b)]<|ar 0<|T_ed 1 [] []<|T_sz<|ar 1<|T_nd 2 [] [(7,vp a),(8,vu b)]<|T_c (some 9) h ?_;clear h
 rintro v H1 ⟨x,rfl,h⟩
 refine T_pd [7,8] [(9,.bool x)]<|T_ed 1 [9] [(10,.bool (!x))] ?_
 by_cases c1:x=true
 ·rw[if_pos c1]at h
  refine aJ 10 (congrArg Bool.not (c1))<|T_kt<|ar 3<|T_n 2 [(12,vp a),(13,vu b)]<|T_c (some 14) h ?_;clear h
  rintro wv H2 ⟨ra,rb,rfl,h⟩
  refine⟨[(14,.tuple #[vu ra,.bool rb])],pk,?_⟩
  exact T_ne 5 [(6,.bool rb)]<|ar 4<|T_nr 2 [4] [.bool rb] hQ h
 rw[if_neg c1]at h
 exact aI 10 (congrArg Bool.not (zZ c1))<|ar 2<|T_nr 1 [4] [VT] hQ h
end bT
variable{H:zV}{a:zW}{R:zv}
/-! (*moraine/trace.Trace).Weaks -/
namespace eL
def K0:=Func.code f91
def K2:=cb K0
def K4:=cb K2
def K12:=cb K4
def K14:=cb K12
def K15:=ca K14
def K16:=cb K14
def K17:=ca K15
def K18:=cb K15
def K19:=ca K18
def K20:=ca K19
def K22:=cb K20
def K24:=cb K22
def K27:=ca K24
def K29:=ca K27
def K31:=cb K29
def K33:=cb K31
def K35:=cb K33
def K36:=ca K35
def K38:=ca K16
def K41:=cb K38
def K42:=ca K41
def K43:=ca K42
def K45:=cb K43
def K47:=cb K45
def K50:=ca K47
def K52:=ca K50
def K54:=cb K52
def K55:=ca K54
end eL
def eL.pt(tv:zW)(H:zV)(R:zv):Prop:=
 cD.C tv H (λv H1=> ∃x,v=.bool x/\
 if x=true then(
 R VN H1)
 else
 ∀b H2,b=H1.size->H2=H1.push (.cells #[VN] 59)->
 ∃e,tv=some e/\
 ∃ck,hat H2 e=some (vp ck)/\
 ∃a8,ck=some a8/\
 ∃cn,hat H2 a8=some (vp cn)/\
 ∃a9,cn=some a9/\
 ∃cj,hat H2 a9=some (vp cj)/\
 ∃a7,cj=some a7/\
 ∃bf,hat H2 a7=some (vp bf)/\
 ∃b1,hat H2 (e.add 1)=some (vi b1)/\
 ∀b6 H3,b6=H2.size->H3=H2.push (.cells #[vi b1] 3)->aQ H3 e 0 [Vq a8]/\aQ H3 a8 0 [Vq a9]/\aQ H3 a9 0 [Vq a7]/\aQ H3 a7 0 [vp bf]/\
 cO.C bf (some (ad b6)) 1 1 H3 (λcr H4=> ∃xB xN xC,cr=vs xB xN xC/\
 ∃(b4:zw) (m21:Int->zV->Nat),b4 0 H4/\ ∀m H5,b4 m H5->
 if m< (xN:Int)then(
 ∃ae,xB=some ae/\
 yZ m xN/\
 ∃o,hat H5 (ae.add (Int.toNat m*1))=some (vi o)/\
 ∃b7,hat H5 e=some (vp b7)/\
 ∃b8,b7=some b8/\
 ∃b9,hat H5 b8=some (vp b9)/\
 ∃cc,b9=some cc/\
 ∃b5,hat H5 cc=some (vp b5)/\
 ∃b3,b5=some b3/\
 ∃bt,hat H5 b3=some (vp bt)/\
 bH.C bt o H5 (λcq H6=> ∃bb az bx al am ao an rb,cq=.tuple #[.agg #[vi bb,vi az,vi bx,vi al,vi am,vi ao,vi an],.bool rb]/\
 ∀ah H7,ah=H6.size->H7=H6.push (.cells #[vi 0,vi 0,vi 0,vi 0,vi 0,vi 0,vi 0] 89)->
 (aK H7 (ad ah) 0 7)/\ ∀H8,H8=aR H7 (ad ah) [vi bb,vi az,vi bx,vi al,vi am,vi ao,vi an] 0->
 ∃bn,hat H8 ((ad ah).add 1)=some (vi bn)/\
 if bn=1 then(
 yZ o 1024/\
 ∃bi,hat H8 ((e.add 2).add (Int.toNat o*1))=some (vi bi)/\
 if bi=0 then(
 ∃bk,hat H8 (e.add 1026)=some (.map bk)/\
 ∃bm,hat H8 ((ad ah).add 2)=some (vi bm)/\
 ∃mr,bk=some mr/\
 ∃es cl ks,H8[mr]?=some (.map es cl)/\Ents (bF .i64) es.toList ks/\
 ∃bz,(mget ks o).getD (vi 0)=vi bz/\
 aQ H8 ((ad ah).add 2) 0 [vi bm]/\bU.C o bz bm (some (ad b)) H8 (λ_ H9=>
 (b4 (zY (m+1)) H9/\m21 (zY (m+1)) H9<m21 m H5)))
 else
 (b4 (zY (m+1)) H8/\m21 (zY (m+1)) H8<m21 m H5))
 else
 (b4 (zY (m+1)) H8/\m21 (zY (m+1)) H8<m21 m H5)))
 else
 ∃a4 d f,hat H5 (e.add 1028)=some (vs a4 d f)/\
 ∃(b0:zw) (m44:Int->zV->Nat),b0 0 H5/\ ∀g H10,b0 g H10->
 if g< (d:Int)then(
 ∃j,a4=some j/\
 yZ g d/\
 ∃bl ba,aQ H10 (j.add (Int.toNat g*2)) 0 [vi bl,vi ba]/\
 ∀l H11,l=H10.size->H11=H10.push (.cells #[vi 0,vi 0] 149)->
 (aK H11 (ad l) 0 2)/\ ∀bq,bq=aR H11 (ad l) [vi bl,vi ba] 0->
 ∃cd,hat bq e=some (vp cd)/\
 ∃aw,cd=some aw/\
 ∃ce,hat bq aw=some (vp ce)/\
 ∃ax,ce=some ax/\
 ∃cg,hat bq ax=some (vp cg)/\
 ∃av,cg=some av/\
 ∃a1,hat bq av=some (vp a1)/\
 ∃be,hat bq (ad l)=some (vi be)/\
 (
 bH.C a1 be bq (λcp ci=> ∃ai af ap p s q r ay,cp=.tuple #[.agg #[vi ai,vi af,vi ap,vi p,vi s,vi q,vi r],.bool ay]/\
 ∀aq H14,aq=ci.size->H14=ci.push (.cells #[vi 0,vi 0,vi 0,vi 0,vi 0,vi 0,vi 0] 89)->
 (aK H14 (ad aq) 0 7)/\ ∀bp,bp=aR H14 (ad aq) [vi ai,vi af,vi ap,vi p,vi s,vi q,vi r] 0->
 ∃bo,hat bp ((ad aq).add 1)=some (vi bo)/\
 if bo=1 then(
 ∃a0,hat bp (ad l)=some (vi a0)/\
 ∃bd,hat bp ((ad l).add 1)=some (vi bd)/\
 ∃a5,hat bp ((ad aq).add 2)=some (vi a5)/\
 ∃bh,hat bp ((ad l).add 1)=some (vi bh)/\
 bU.C a0 (zY (bd*16)) (if(zY ((zY (bh+1))*16))<a5 then(zY ((zY (bh+1))*16))else a5) (some (ad b)) bp (λ_ cm=>
 (b0 (zY (g+1)) cm/\m44 (zY (g+1)) cm<m44 g H10)))
 else
 (b0 (zY (g+1)) bp/\m44 (zY (g+1)) bp<m44 g H10)))/\(
 ∀ak H17,ak=bq.size->H17=bq.push (.cells #[vi 0,vi 0,vi 0,vi 0,vi 0,vi 0,vi 0] 89)->aQ H17 e 0 [Vq aw]/\aQ H17 aw 0 [Vq ax]/\aQ H17 ax 0 [Vq av]/\aQ H17 av 0 [vp a1]/\aQ H17 (ad l) 0 [vi be]/\
 bH.C a1 be H17 (λcs ch=> ∃aj ag au aa y ac ab a2,cs=.tuple #[.agg #[vi aj,vi ag,vi au,vi aa,vi y,vi ac,vi ab],.bool a2]/\
 (aK ch (ad ak) 0 7)/\ ∀br,br=aR ch (ad ak) [vi aj,vi ag,vi au,vi aa,vi y,vi ac,vi ab] 0->
 ∃bj,hat br ((ad ak).add 1)=some (vi bj)/\
 if bj=1 then(
 ∃a3,hat br (ad l)=some (vi a3)/\
 ∃bc,hat br ((ad l).add 1)=some (vi bc)/\
 ∃a6,hat br ((ad ak).add 2)=some (vi a6)/\
 ∃bg,hat br ((ad l).add 1)=some (vi bg)/\
 bU.C a3 (zY (bc*16)) (if(zY ((zY (bg+1))*16))<a6 then(zY ((zY (bg+1))*16))else a6) (some (ad b)) br (λ_ co=>
 (b0 (zY (g+1)) co/\m44 (zY (g+1)) co<m44 g H10)))
 else
 (b0 (zY (g+1)) br/\m44 (zY (g+1)) br<m44 g H10))))
 else
 ∃bw bs bu,hat H10 (ad b)=some (vs bw bs bu)/\
 R (vs bw bs bu) H10))
namespace eL
theorem link(h:pt a H R):C a H R:=by
 refine T_en K0 129 func91 ?_
 intro w0 Q hQ
 unfold pt zY at h
 refine T_su [(0,vp a)]<|ar 0<|T_ed 1 [] []<|T_sz<|ar 1<|T_nd 1 [] [(13,vp a)]<|T_c (some 14) h ?_;clear h
 rintro v H1 ⟨x,rfl,h⟩
 refine T_pd [13] [(14,.bool x)]<|T_e ?_
 by_cases c1:x=true
 ·rw[if_pos c1]at h
  exact aI 14 c1<|ar 2<|T_nr 1 [2] [VN] hQ h
 rw[if_neg c1]at h
 refine aJ 14 (zZ c1)<|T_kt<|ar 3<|T_ud [14] []<|T_nw (some 3) (λb=>vp (pa b)) (.cells #[VN] 59) ?_
 intro b H2 e3 e4
 replace h:=h b H2 e3 e4
 refine T_pd [] [(3,vp (pa b))]<|T_e<|ar 4<|T_ed 2 [] [(4,.func (.func 127) #[] #[vp (pa b)])]<|T_sz<|T_sz ?_
 obtain⟨e,rfl,ck,q5,a8,rfl,cn,q6,a9,rfl,cj,q7,a7,rfl,bf,q8,b1,q9,h⟩:=h
 refine yq 5 (Code.ops K17) [(18,e,[Vq a8]),(18,a8,[Vq a9]),(18,a9,[Vq a7]),(18,a7,[vp bf]),(17,(e.add 1),[vi b1])] 21 (bv 21 0) (show aF _ _ _ from⟨⟨q5,trivial⟩,⟨q6,trivial⟩,⟨q7,trivial⟩,⟨q8,trivial⟩,⟨q9,trivial⟩,trivial⟩)<|T_gp 0 (some 16) (Vq e) (bv 21 1) [(0,Vq e),(3,vp (pa b)),(4,.func (.func 127) #[] #[vp (pa b)]),(16,Vq e)]<|aL 1 17 (Vq e) (bv 21 3) [16]<|aL 2 18 (Vq e) (bv 21 7) [17]<|T_g1 3 19 (Vq a8) (bv 21 15) [18] (aU 28 (Vq e)) (yY 18 yX)<|aL 4 20 (Vq a8) (bv 21 31) [19]<|aL 5 21 (Vq a8) (bv 21 63) [20]<|T_g1 6 22 (Vq a9) (bv 21 127) [21] (aU 33 (Vq a8)) (yY 18 yQ)<|aL 7 23 (Vq a9) (bv 21 255) [22]<|aL 8 24 (Vq a9) (bv 21 511) [23]<|T_g1 9 25 (Vq a7) (bv 21 1023) [24] (aU 42 (Vq a9)) (yY 18 yJ)<|aL 10 26 (Vq a7) (bv 21 2047) [25]<|aL 11 27 (Vq a7) (bv 21 4095) [26]<|T_g1 12 28 (vp bf) (bv 21 8191) [27] (aU 70 (Vq a7)) (yY 18 yK)<|aL 13 29 (Vq e) (bv 21 16383) []<|aL 14 30 (Vq e) (bv 21 32767) [29]<|aL 15 31 (Vq (e.add 1)) (bv 21 65535) [30]<|T_g1 16 32 (vi b1) (bv 21 131071) [31] (aU 3 (Vq (e.add 1))) (yY 17 yV)<|aL 20 36 (vi 0) (bv 21 1179647) []<|na 17 (some 33) (bv 21 1310719) (λb=>vs (pa b) 1 1) (.cells #[vi b1] 3) (by kernel_rfl) (λ_=>by kernel_rfl) (by kernel_rfl) ?_
 intro b6 H3 e14 e15
 replace h:=h b6 H3 e14 e15
 obtain⟨f10,f11,f12,f13,h⟩:=h
 refine⟨[(0,Vq e),(3,vp (pa b)),(4,.func (.func 127) #[] #[vp (pa b)]),(28,vp bf),(33,vs (pa b6) 1 1),(36,vi 0)],pk,(show aF _ _ _ from⟨f10,f11,f12,f13,trivial,trivial⟩),?_⟩
 refine yx 18 (some 34) (bv 21 1572863) 32 #[vp bf,vs (pa b6) 1 1] h ?_;clear h
 rintro cr H4 ⟨xB,xN,xC,rfl,h⟩
 refine⟨[(0,Vq e),(3,vp (pa b)),(4,.func (.func 127) #[] #[vp (pa b)]),(34,vs xB xN xC),(36,vi 0)],pk,(show aF _ _ _ from⟨trivial,trivial,trivial,trivial,trivial,trivial⟩),?_⟩
 refine T_g 19 (some 35) (vi xN) (bv 21 2097151) [(0,Vq e),(3,vp (pa b)),(4,.func (.func 127) #[] #[vp (pa b)]),(34,vs xB xN xC),(35,vi xN),(36,vi 0)] (pure (.value (vi xN)):Sem Next) (λ_ _ _ _ _=>rfl)<|fU [(0,Vq e),(3,vp (pa b)),(4,.func (.func 127) #[] #[vp (pa b)]),(34,vs xB xN xC),(35,vi xN),(36,vi 0)] sk<|yz<|aE<|T_bz 0 ?_
 obtain⟨b4,m21,i16,i17⟩:=h
 refine bL (x:=K20) (σ:=Int) (λs_=> [(0,Vq e),(3,vp (pa b)),(4,.func (.func 127) #[] #[vp (pa b)]),(34,vs xB xN xC),(35,vi xN),(36,vi s_)]) (λs_ H=>b4 s_ H) (λs_ H=>m21 s_ H) (0:Int) (by kernel_rfl) i16 sk ?_
 rintro m H5 i18
 have h:=i17 m H5 i18
 refine T_su [(0,Vq e),(3,vp (pa b)),(4,.func (.func 127) #[] #[vp (pa b)]),(34,vs xB xN xC),(35,vi xN),(36,vi m)]<|ar 6<|T_ed 1 [] [(37,.bool (decide (m< (xN:Int))))]<|T_sz ?_
 by_cases c19:m< (xN:Int)
 ·rw[if_pos c19]at h
  refine aI 37 (zX c19)<|T_kt<|T_sz<|T_bz 1<|ar 7<|T_ud [37] [] ?_
  obtain⟨ae,rfl,q21,h⟩:=h
  refine T_xd (some 38) 59 3 1 ae xN xC .i64 m underlying59 q21.1 q21.2 [34] [(34,vs (some ae) xN xC),(38,Vq (ae.add (Int.toNat m*1)))] ?_
  obtain⟨o,q22,h⟩:=h
  refine T_l1 39 3 q22 [38]<|T_ed 1 [39] [(6,vi o)]<|ar 8<|T_nd 3 [] [(43,Vq e)] ?_
  obtain⟨b7,q23,h⟩:=h
  refine T_l1 44 28 q23 [43] ?_
  obtain⟨b8,rfl,h⟩:=h
  refine T_nd 2 [44] [(46,Vq b8)] ?_
  obtain⟨b9,q24,h⟩:=h
  refine T_l1 47 33 q24 [46] ?_
  obtain⟨cc,rfl,h⟩:=h
  refine T_nd 2 [47] [(49,Vq cc)] ?_
  obtain⟨b5,q25,h⟩:=h
  refine T_l1 50 42 q25 [49] ?_
  obtain⟨b3,rfl,h⟩:=h
  refine T_nd 2 [50] [(52,Vq b3)] ?_
  obtain⟨bt,q26,h⟩:=h
  refine T_l1 53 70 q26 [52]<|T_nd 1 [] [(54,vi o)]<|T_c (some 55) h ?_;clear h
  rintro cq H6 ⟨bb,az,bx,al,am,ao,an,rb,rfl,h⟩
  refine T_pd [53,54] [(55,.tuple #[.agg #[vi bb,vi az,vi bx,vi al,vi am,vi ao,vi an],.bool rb])]<|T_nd 3 [55] [(56,.agg #[vi bb,vi az,vi bx,vi al,vi am,vi ao,vi an]),(57,.bool rb)]<|T_nw (some 7) (λb=>vp (pa b)) (.cells #[vi 0,vi 0,vi 0,vi 0,vi 0,vi 0,vi 0] 89) ?_
  intro ah H7 e27 e28
  replace h:=h ah H7 e27 e28
  refine T_pd [] [(7,vp (pa ah))] ?_
  obtain⟨q30,h⟩:=h
  refine fG 89 [vi bb,vi az,vi bx,vi al,vi am,vi ao,vi an] q30 ?_
  intro H8 e29
  replace h:=h H8 e29
  refine T_pd [56] []<|T_ed 1 [57] []<|ar 9<|T_nd 1 [] [(58,Vq ((ad ah).add 1))] ?_
  obtain⟨bn,q31,h⟩:=h
  refine T_l1 59 3 q31 [58]<|T_nd 2 [59] [(61,.bool (bn==1))] ?_
  by_cases c32:bn=1
  ·rw[if_pos c32]at h
   refine N_bd 61 (zK c32)<|T_nd 4 [] [(63,vi o),(65,Vq (e.add 2))] ?_
   obtain⟨q34,h⟩:=h
   refine T_v1 66 (bK 141 (Vq (e.add 2)) (vi o)) (Vq ((e.add 2).add (Int.toNat o*1))) (λw _=>bX (P:=prog) (t:=141) (elem:=3) (sz:=1) (n:=1024) (a:=(e.add 2)) (k:=.i64) (i:=o) underlying141 (λ_=>by kernel_rfl) q34.1 q34.2 w) [63,65] ?_
   obtain⟨bi,q35,h⟩:=h
   refine T_l1 67 3 q35 [66]<|T_ed 2 [61,67] [(69,.bool (bi==0))] ?_
   by_cases c36:bi=0
   ·rw[if_pos c36]at h
    refine aI 69 (zK c36) ?_
    obtain⟨bk,q38,bm,q39,h⟩:=h
    refine yq 10 (Code.ops K36) [(7,(e.add 1026),[.map bk]),(10,((ad ah).add 2),[vi bm])] 11 (bv 11 0) (show aF _ _ _ from⟨⟨q38,trivial⟩,⟨q39,trivial⟩,trivial⟩)<|T_gp 0 (some 70) (.func (.func 127) #[] #[vp (pa b)]) (bv 11 1) [(0,Vq e),(3,vp (pa b)),(4,.func (.func 127) #[] #[vp (pa b)]),(6,vi o),(7,vp (pa ah)),(34,vs (some ae) xN xC),(35,vi xN),(36,vi m),(70,.func (.func 127) #[] #[vp (pa b)])]<|aL 1 71 (vi o) (bv 11 3) []<|aL 2 72 (Vq e) (bv 11 7) []<|aL 3 73 (Vq e) (bv 11 15) [72]<|aL 4 74 (Vq (e.add 1026)) (bv 11 31) [73]<|T_g1 5 75 (.map bk) (bv 11 63) [74] (aU 140 (Vq (e.add 1026))) (yY 7 yX)<|aL 6 76 (vi o) (bv 11 127) [6]<|aL 8 78 (Vq ((ad ah).add 2)) (bv 11 383) [7]<|T_g1 9 79 (vi bm) (bv 11 895) [78] (aU 3 (Vq ((ad ah).add 2))) (yY 10 yQ) ?_
    obtain⟨mr,rfl,es,cl,ks,q41,q42,bz,e44,h⟩:=h
    refine od 7 (some 77) (bv 11 1023) (jU 140 (.map (some mr)) (vi o) false) (λu H1=>u=vi bz/\H1=H8) (by kernel_rfl) (λ_=>by kernel_rfl) (λw hw=>⟨_,w,(iI (kk:=(bF .i64)) (z:=vi 0) underlying140 underlying3 (λ_=>by kernel_rfl) (by rw[hw];exact q41) q42 false),Same.refl w,by simp only[Bool.false_eq_true,if_false,e44],hw⟩) (by kernel_rfl) ?_
    rintro _ _ ⟨rfl,rfl⟩
    obtain⟨f40,h⟩:=h
    refine⟨[(0,Vq e),(3,vp (pa b)),(4,.func (.func 127) #[] #[vp (pa b)]),(34,vs (some ae) xN xC),(35,vi xN),(36,vi m),(70,.func (.func 127) #[] #[vp (pa b)]),(71,vi o),(77,vi bz),(79,vi bm)],pk,(show aF _ _ _ from⟨trivial,f40,trivial⟩),?_⟩
    refine yx 10 (some 80) (bv 11 2047) 127 #[vi o,vi bz,vi bm,vp (pa b)] h ?_;clear h
    intro v_4 H9 h
    refine⟨[(0,Vq e),(3,vp (pa b)),(4,.func (.func 127) #[] #[vp (pa b)]),(34,vs (some ae) xN xC),(35,vi xN),(36,vi m)],pk,(show aF _ _ _ from⟨trivial,trivial,trivial⟩),?_⟩
    refine fU [(0,Vq e),(3,vp (pa b)),(4,.func (.func 127) #[] #[vp (pa b)]),(34,vs (some ae) xN xC),(35,vi xN),(36,vi m)] sk ?_
    exact yz<|aA<|aE<|T_rz 11<|T_ne 2 [(0,Vq e),(3,vp (pa b)),(4,.func (.func 127) #[] #[vp (pa b)]),(34,vs (some ae) xN xC),(35,vi xN),(36,vi (zY (m+1)))]<|aS ((zY (m+1)):Int) sk h
   rw[if_neg c36]at h
   exact aJ 69 (zJ c36)<|T_k<|aA<|aE<|T_rz 11<|T_ed 2 [6,7,36,69] [(36,vi (zY (m+1)))]<|aS ((zY (m+1)):Int) sk h
  rw[if_neg c32]at h
  refine N_bd 61 (zJ c32)<|T_ed 8 [61] [(69,VF)]<|T_fz 69<|T_k ?_
  exact aA<|aE<|T_rz 11<|T_ed 2 [6,7,36,69] [(36,vi (zY (m+1)))]<|aS ((zY (m+1)):Int) sk h
 rw[if_neg c19]at h
 refine aJ 37 (zQ c19)<|zk 0<|aD<|aD<|aM<|aE<|T_sz<|ar 12<|T_nd 3 [34,35,36,37] [(84,Vq (e.add 1028))] ?_
 obtain⟨a4,d,f,q45,h⟩:=h
 refine T_l1 85 142 q45 [84]<|T_ed 2 [] [(86,vi d),(87,vi 0)]<|T_bz 2 ?_
 obtain⟨b0,m44,i46,i47⟩:=h
 refine bL (x:=K43) (σ:=Int) (λs_=> [(0,Vq e),(3,vp (pa b)),(4,.func (.func 127) #[] #[vp (pa b)]),(85,vs a4 d f),(86,vi d),(87,vi s_)]) (λs_ H=>b0 s_ H) (λs_ H=>m44 s_ H) (0:Int) (by kernel_rfl) i46 sk ?_
 rintro g H10 i48
 have h:=i47 g H10 i48
 refine T_su [(0,Vq e),(3,vp (pa b)),(4,.func (.func 127) #[] #[vp (pa b)]),(85,vs a4 d f),(86,vi d),(87,vi g)]<|ar 13<|T_ed 1 [] [(88,.bool (decide (g< (d:Int))))]<|T_sz ?_
 by_cases c49:g< (d:Int)
 ·rw[if_pos c49]at h
  refine aI 88 (zX c49)<|T_kt<|T_sz<|T_bz 3<|ar 14<|T_ud [88] [] ?_
  obtain⟨j,rfl,q51,h⟩:=h
  refine T_xd (some 89) 142 149 2 j d f .i64 g underlying142 q51.1 q51.2 [85] [(85,vs (some j) d f),(89,Vq (j.add (Int.toNat g*2)))] ?_
  obtain⟨bl,ba,q52,h⟩:=h
  refine T_lr 90 149 q52 [89]<|T_nw (some 10) (λb=>vp (pa b)) (.cells #[vi 0,vi 0] 149) ?_
  intro l H11 e53 e54
  replace h:=h l H11 e53 e54
  refine T_pd [] [(10,vp (pa l))] ?_
  obtain⟨q56,h⟩:=h
  refine fG 149 [vi bl,vi ba] q56 ?_
  intro bq e55
  replace h:=h bq e55
  refine T_pd [90] []<|T_e<|T_sz ?_
  obtain⟨cd,q57,aw,rfl,ce,q58,ax,rfl,cg,q59,av,rfl,a1,q60,be,q61,h⟩:=h
  refine yq 15 (Code.ops K55) [(15,e,[Vq aw]),(15,aw,[Vq ax]),(15,ax,[Vq av]),(15,av,[vp a1]),(15,(ad l),[vi be])] 22 (bv 22 0) (show aF _ _ _ from⟨⟨q57,trivial⟩,⟨q58,trivial⟩,⟨q59,trivial⟩,⟨q60,trivial⟩,⟨q61,trivial⟩,trivial⟩)<|T_gp 0 (some 92) (Vq e) (bv 22 1) [(0,Vq e),(3,vp (pa b)),(4,.func (.func 127) #[] #[vp (pa b)]),(10,vp (pa l)),(85,vs (some j) d f),(86,vi d),(87,vi g),(92,Vq e)]<|aL 1 93 (Vq e) (bv 22 3) [92]<|aL 2 94 (Vq e) (bv 22 7) [93]<|T_g1 3 95 (Vq aw) (bv 22 15) [94] (aU 28 (Vq e)) (yY 15 yX)<|aL 4 96 (Vq aw) (bv 22 31) [95]<|aL 5 97 (Vq aw) (bv 22 63) [96]<|T_g1 6 98 (Vq ax) (bv 22 127) [97] (aU 33 (Vq aw)) (yY 15 yQ)<|aL 7 99 (Vq ax) (bv 22 255) [98]<|aL 8 100 (Vq ax) (bv 22 511) [99]<|T_g1 9 101 (Vq av) (bv 22 1023) [100] (aU 42 (Vq ax)) (yY 15 yJ)<|aL 10 102 (Vq av) (bv 22 2047) [101]<|aL 11 103 (Vq av) (bv 22 4095) [102]<|T_g1 12 104 (vp a1) (bv 22 8191) [103] (aU 70 (Vq av)) (yY 15 yK)<|aL 13 105 (vp (pa l)) (bv 22 16383) []<|T_g1 14 106 (vi be) (bv 22 32767) [105] (aU 3 (vp (pa l))) (yY 15 yV) ?_
  refine pv 15 19 (by kernel_rfl) ?fa1 ?fb1
  case' fa1=>
   replace h:=h.1
   refine pw 15 (some 107) (bv 22 65535) 33 #[vp a1,vi be] (by kernel_rfl) (λ_=>by kernel_rfl) h (by kernel_rfl) ?_;clear h
   rintro cp ci ⟨ai,af,ap,p,s,q,r,ay,rfl,h⟩
   refine⟨[(0,Vq e),(3,vp (pa b)),(4,.func (.func 127) #[] #[vp (pa b)]),(10,vp (pa l)),(85,vs (some j) d f),(86,vi d),(87,vi g),(107,.tuple #[.agg #[vi ai,vi af,vi ap,vi p,vi s,vi q,vi r],.bool ay])],pk,(show aF _ _ _ from⟨trivial,trivial,trivial,trivial,trivial,trivial⟩),?_⟩
   refine T_g 16 (some 91) (.tuple #[.agg #[vi ai,vi af,vi ap,vi p,vi s,vi q,vi r],.bool ay]) (bv 22 131071) [(0,Vq e),(3,vp (pa b)),(4,.func (.func 127) #[] #[vp (pa b)]),(10,vp (pa l)),(85,vs (some j) d f),(86,vi d),(87,vi g),(91,.tuple #[.agg #[vi ai,vi af,vi ap,vi p,vi s,vi q,vi r],.bool ay])] (pure (.value (.tuple #[.agg #[vi ai,vi af,vi ap,vi p,vi s,vi q,vi r],.bool ay])):Sem Next) (λ_ _ _ _ _=>rfl)<|T_g1 17 108 (.agg #[vi ai,vi af,vi ap,vi p,vi s,vi q,vi r]) (bv 22 262143) [] (pure (.value (.agg #[vi ai,vi af,vi ap,vi p,vi s,vi q,vi r])):Sem Next) (λ_ _ _ _ _=>rfl)<|T_g1 18 109 (.bool ay) (bv 22 524287) [91] (pure (.value (.bool ay)):Sem Next) (λ_ _ _ _ _=>rfl)<|na 19 (some 11) (bv 22 1048575) (λb=>vp (pa b)) (.cells #[vi 0,vi 0,vi 0,vi 0,vi 0,vi 0,vi 0] 89) (by kernel_rfl) (λ_=>by kernel_rfl) (by kernel_rfl) ?_
   intro aq H14 e62 e63
   replace h:=h aq H14 e62 e63
   refine⟨[(0,Vq e),(3,vp (pa b)),(4,.func (.func 127) #[] #[vp (pa b)]),(10,vp (pa l)),(11,vp (pa aq)),(85,vs (some j) d f),(86,vi d),(87,vi g),(108,.agg #[vi ai,vi af,vi ap,vi p,vi s,vi q,vi r]),(109,.bool ay)],pk,(show aF _ _ _ from⟨trivial,trivial,trivial,trivial,trivial,trivial⟩),?_⟩
  case' fb1=>
   replace h:=h.2
   refine rS 19 (some 11) (bv 22 557055) (λb=>vp (pa b)) (.cells #[vi 0,vi 0,vi 0,vi 0,vi 0,vi 0,vi 0] 89) (by kernel_rfl) (λ_=>by kernel_rfl) (by kernel_rfl) ?_
   intro aq H17 e78 e79
   replace h:=h aq H17 e78 e79
   obtain⟨f73,f74,f75,f76,f77,h⟩:=h
   refine⟨[(0,Vq e),(3,vp (pa b)),(4,.func (.func 127) #[] #[vp (pa b)]),(10,vp (pa l)),(11,vp (pa aq)),(85,vs (some j) d f),(86,vi d),(87,vi g),(104,vp a1),(106,vi be)],pk,(show aF _ _ _ from⟨f73,f74,f75,f76,f77,trivial⟩),?_⟩
   refine yx 15 (some 107) (bv 22 589823) 33 #[vp a1,vi be] h ?_;clear h
   rintro cs H14 ⟨ai,af,ap,p,s,q,r,ay,rfl,h⟩
   refine⟨[(0,Vq e),(3,vp (pa b)),(4,.func (.func 127) #[] #[vp (pa b)]),(10,vp (pa l)),(11,vp (pa aq)),(85,vs (some j) d f),(86,vi d),(87,vi g),(107,.tuple #[.agg #[vi ai,vi af,vi ap,vi p,vi s,vi q,vi r],.bool ay])],pk,(show aF _ _ _ from⟨trivial,trivial,trivial,trivial,trivial,trivial⟩),?_⟩
   refine T_g 16 (some 91) (.tuple #[.agg #[vi ai,vi af,vi ap,vi p,vi s,vi q,vi r],.bool ay]) (bv 22 655359) [(0,Vq e),(3,vp (pa b)),(4,.func (.func 127) #[] #[vp (pa b)]),(10,vp (pa l)),(11,vp (pa aq)),(85,vs (some j) d f),(86,vi d),(87,vi g),(91,.tuple #[.agg #[vi ai,vi af,vi ap,vi p,vi s,vi q,vi r],.bool ay])] (pure (.value (.tuple #[.agg #[vi ai,vi af,vi ap,vi p,vi s,vi q,vi r],.bool ay])):Sem Next) (λ_ _ _ _ _=>rfl)<|T_g1 17 108 (.agg #[vi ai,vi af,vi ap,vi p,vi s,vi q,vi r]) (bv 22 786431) [] (pure (.value (.agg #[vi ai,vi af,vi ap,vi p,vi s,vi q,vi r])):Sem Next) (λ_ _ _ _ _=>rfl)<|T_g1 18 109 (.bool ay) (bv 22 1048575) [91] (pure (.value (.bool ay)):Sem Next) (λ_ _ _ _ _=>rfl) ?_
  all_goals
   obtain⟨q65,h⟩:=h
   refine fT 20 none (bv 22 2097151) (jK 89 (vp (pa aq)) (.agg #[vi ai,vi af,vi ap,vi p,vi s,vi q,vi r])) (λHz=>Hz=aR H14 (ad aq) [vi ai,vi af,vi ap,vi p,vi s,vi q,vi r] 0) (by kernel_rfl) (λ_=>by kernel_rfl) (iR [vi ai,vi af,vi ap,vi p,vi s,vi q,vi r] 7 (by kernel_rfl) (by kernel_rfl) (λ_=>by kernel_rfl) (by kernel_rfl) q65) (by kernel_rfl) ?_
   intro bp e64
   replace h:=h bp e64
   refine⟨[(0,Vq e),(3,vp (pa b)),(4,.func (.func 127) #[] #[vp (pa b)]),(10,vp (pa l)),(11,vp (pa aq)),(85,vs (some j) d f),(86,vi d),(87,vi g),(109,.bool ay)],pk,(show aF _ _ _ from⟨trivial,trivial,trivial,trivial,trivial,trivial⟩),?_⟩
   refine T_g 21 (some 12) (.bool ay) (bv 22 4194303) [(0,Vq e),(3,vp (pa b)),(4,.func (.func 127) #[] #[vp (pa b)]),(10,vp (pa l)),(11,vp (pa aq)),(85,vs (some j) d f),(86,vi d),(87,vi g)] (pure (.value (.bool ay)):Sem Next) (λ_ _ _ _ _=>rfl)<|fU [(0,Vq e),(3,vp (pa b)),(4,.func (.func 127) #[] #[vp (pa b)]),(10,vp (pa l)),(11,vp (pa aq)),(85,vs (some j) d f),(86,vi d),(87,vi g)] sk<|yz<|aE<|ar 16<|T_n 1 [(0,Vq e),(3,vp (pa b)),(4,.func (.func 127) #[] #[vp (pa b)]),(10,vp (pa l)),(11,vp (pa aq)),(85,vs (some j) d f),(86,vi d),(87,vi g),(110,Vq ((ad aq).add 1))] ?_
   obtain⟨bo,q66,h⟩:=h
   refine T_l1 111 3 q66 [110]<|T_ed 1 [111] [(112,.bool (bo==1))] ?_
   by_cases c67:bo=1
   ·rw[if_pos c67]at h
    refine aI 112 (zK c67)<|T_rz 17<|T_nd 2 [112] [(113,.func (.func 127) #[] #[vp (pa b)]),(114,vp (pa l))] ?_
    obtain⟨a0,q69,h⟩:=h
    refine T_l1 115 3 q69 [114]<|T_nd 1 [] [(116,Vq ((ad l).add 1))] ?_
    obtain⟨bd,q70,h⟩:=h
    refine T_l1 117 3 q70 [116]<|T_nd 2 [11,117] [(118,vi (zY (bd*16))),(119,Vq ((ad aq).add 2))] ?_
    obtain⟨a5,q71,h⟩:=h
    refine T_l1 120 3 q71 [119]<|T_nd 1 [10] [(121,Vq ((ad l).add 1))] ?_
    obtain⟨bh,q72,h⟩:=h
    refine T_l1 122 3 q72 [121]<|T_nd 3 [120,122] [(125,vi (if(zY ((zY (bh+1))*16))<a5 then(zY ((zY (bh+1))*16))else a5))]<|T_c (some 126) h ?_;clear h
    intro v_6 cm h
    exact T_pd [113,115,118,125] []<|zq<|aA<|aE<|T_rz 18<|T_ed 2 [87] [(87,vi (zY (g+1)))]<|aS ((zY (g+1)):Int) sk h
   rw[if_neg c67]at h
   exact aJ 112 (zJ c67)<|T_k<|aA<|aE<|T_rz 18<|T_ed 2 [10,11,87,112] [(87,vi (zY (g+1)))]<|aS ((zY (g+1)):Int) sk h
 rw[if_neg c49]at h
 refine aJ 88 (zQ c49)<|zk 2<|aD<|aD<|aM<|aE<|ar 19<|T_nu [(3,vp (pa b))] ?_
 obtain⟨bw,bs,bu,q89,h⟩:=h
 exact T_l1 128 59 q89 [3]<|T_nr 1 [2] [vs bw bs bu] hQ h
end eL
/-! (*moraine/trace.Trace).look.1 -/
namespace dP
def K0:=Func.code f124
def K2:=cb K0
end dP
def dP.pt(b:Int)(m:zW)(H:zV)(R:zv):Prop:=
 ∃a,m=some a/\
 ∃x,hat H a=some (vp x)/\
 ∃xA,x=some xA/\
 ∃r,hat H xA=some (vp r)/\
 ∃s,r=some s/\
 ∃o,hat H s=some (vp o)/\
 ∃p,o=some p/\
 ∃n,hat H p=some (vp n)/\
 ∃q,n=some q/\
 ∃l,hat H q=some (vp l)/\
 cK.C l b H (λv H1=> ∃ra rb,v=.tuple #[vu ra,vi rb]/\
 ∃y,hat H1 a=some (vp y)/\
 ∃f,y=some f/\
 ∃z,hat H1 f=some (vp z)/\
 ∃g,z=some g/\
 ∃aa,hat H1 g=some (vp aa)/\
 ∃e,aa=some e/\
 ∃u,hat H1 e=some (vp u)/\
 ∃i,u=some i/\
 ∃d,hat H1 i=some (vp d)/\
 ∃j,hat H1 a=some (vp j)/\
 bI.C j ra H1 (λac H2=> ∃k,ac=vu k/\aQ H2 a 0 [Vq f]/\aQ H2 f 0 [Vq g]/\aQ H2 g 0 [Vq e]/\aQ H2 e 0 [Vq i]/\aQ H2 i 0 [vp d]/\
 cM.C d b k H2 (λab H3=> ∃t,ab=vi t/\
 R (.tuple #[]) H3)))
namespace dP
theorem link{b:Int}(h:pt b a H R):C b a H R:=by
 refine T_en K0 41 func124 ?_
 intro w0 Q hQ
 unfold pt at h
 refine T_su [(0,vi b),(1,vp a)]<|ar 0 ?_
 obtain⟨m,rfl,x,q1,h⟩:=h
 refine T_ld (some 6) 92 q1 [1] [(1,Vq m),(6,vp x)] ?_
 obtain⟨xA,rfl,h⟩:=h
 refine T_nd 2 [6] [(8,Vq xA)] ?_
 obtain⟨r,q2,h⟩:=h
 refine T_l1 9 28 q2 [8] ?_
 obtain⟨s,rfl,h⟩:=h
 refine T_nd 2 [9] [(11,Vq s)] ?_
 obtain⟨o,q3,h⟩:=h
 refine T_l1 12 33 q3 [11] ?_
 obtain⟨p,rfl,h⟩:=h
 refine T_nd 2 [12] [(14,Vq p)] ?_
 obtain⟨n,q4,h⟩:=h
 refine T_l1 15 42 q4 [14] ?_
 obtain⟨q,rfl,h⟩:=h
 refine T_nd 2 [15] [(17,Vq q)] ?_
 obtain⟨l,q5,h⟩:=h
 refine T_l1 18 70 q5 [17]<|T_nd 1 [] [(19,vi b)]<|T_c (some 20) h ?_;clear h
 rintro v H1 ⟨ra,rb,rfl,h⟩
 refine T_pd [18,19] [(20,.tuple #[vu ra,vi rb])]<|T_ed 5 [20] [(3,vu ra)] ?_
 obtain⟨y,q6,f,rfl,z,q7,g,rfl,aa,q8,e,rfl,u,q9,i,rfl,d,q10,j,q11,h⟩:=h
 refine yq 1 (Code.ops K2) [(17,m,[Vq f]),(17,f,[Vq g]),(17,g,[Vq e]),(17,e,[Vq i]),(17,i,[vp d]),(16,m,[vp j])] 18 (bv 18 0) (show aF _ _ _ from⟨⟨q6,trivial⟩,⟨q7,trivial⟩,⟨q8,trivial⟩,⟨q9,trivial⟩,⟨q10,trivial⟩,⟨q11,trivial⟩,trivial⟩)<|T_g 0 (some 23) (Vq f) (bv 18 1) [(0,vi b),(1,Vq m),(3,vu ra),(23,Vq f)] (aU 92 (Vq m)) (yY 17 yX)<|aL 1 24 (Vq f) (bv 18 3) [23]<|aL 2 25 (Vq f) (bv 18 7) [24]<|T_g1 3 26 (Vq g) (bv 18 15) [25] (aU 28 (Vq f)) (yY 17 yQ)<|aL 4 27 (Vq g) (bv 18 31) [26]<|aL 5 28 (Vq g) (bv 18 63) [27]<|T_g1 6 29 (Vq e) (bv 18 127) [28] (aU 33 (Vq g)) (yY 17 yJ)<|aL 7 30 (Vq e) (bv 18 255) [29]<|aL 8 31 (Vq e) (bv 18 511) [30]<|T_g1 9 32 (Vq i) (bv 18 1023) [31] (aU 42 (Vq e)) (yY 17 yK)<|aL 10 33 (Vq i) (bv 18 2047) [32]<|aL 11 34 (Vq i) (bv 18 4095) [33]<|T_g1 12 35 (vp d) (bv 18 8191) [34] (aU 70 (Vq i)) (yY 17 yV)<|aL 13 36 (vi b) (bv 18 16383) [0]<|T_g1 14 37 (vp j) (bv 18 32767) [1] (aU 92 (Vq m)) (yY 16 yW)<|aL 15 38 (vu ra) (bv 18 65535) [3]<|yx 16 (some 39) (bv 18 131071) 37 #[vp j,vu ra] h ?_;clear h
 rintro ac H2 ⟨k,rfl,f12,f13,f14,f15,f16,h⟩
 refine⟨[(35,vp d),(36,vi b),(39,vu k)],pk,(show aF _ _ _ from⟨f12,f13,f14,f15,f16,trivial,trivial⟩),?_⟩
 refine yx 17 (some 40) (bv 18 262143) 22 #[vp d,vi b,vu k] h ?_;clear h
 rintro ab H3 ⟨t,rfl,h⟩
 refine⟨[],pk,(show aF _ _ _ from⟨trivial,trivial,trivial,trivial,trivial,trivial,trivial⟩),?_⟩
 refine fU [] sk ?_
 exact yz<|iG (fn:=f124) [] hQ (show cG _ _ _ [] _ from .nil) h
end dP
/-! (*moraine/trace.Trace).Ended -/
namespace eN
def K0:=Func.code f125
end eN
def eN.pt(tv:zW)(H:zV)(R:zv):Prop:=
 cD.C tv H (λv H1=> ∃x,v=.bool x/\
 R (.bool x) H1)
namespace eN
theorem link(h:pt a H R):C a H R:=by
 refine T_en K0 5 func125 ?_
 intro w0 Q hQ
 unfold pt at h
 refine T_su [(0,vp a)]<|ar 0<|T_ed 1 [] []<|ar 1<|T_n 1 [(3,vp a)]<|T_c (some 4) h ?_;clear h
 rintro v H1 ⟨x,rfl,h⟩
 refine⟨[(4,.bool x)],pk,?_⟩
 exact T_nr 1 [2] [.bool x] hQ h
end eN
/-! (*moraine/trace.Trace).Put -/
namespace bU
def K0:=Func.code f127
def K2:=cb K0
def K3:=ca K2
def K4:=ca K3
end bU
def bU.pt(d f to:Int)(e:zW)(H:zV)(R:zv):Prop:=
 ∃(I5:zw) (m5:Int->zV->Nat),I5 f H/\ ∀i H1,I5 i H1->
 if i<to then(
 ∃a,e=some a/\
 ∃xB xN xC,hat H1 a=some (vs xB xN xC)/\
 ∀b H2,b=H1.size->H2=H1.push (.cells #[vi (zY ((zY (d*64))+i))] 3)->
 bR 1 3 8 [vi 0] xB xN xC (some (ad b)) 1 H2 (λap g H3=>
 (aK H3 a 0 1)/\ ∀H4,H4=aR H3 a [vs ap (xN+1) g] 0->
 (I5 (zY (i+2)) H4/\m5 (zY (i+2)) H4<m5 i H1)))
 else
 R (.tuple #[]) H1
namespace bU
theorem link{d f to:Int}(h:pt d f to a H R):C d f to a H R:=by
 refine T_en K0 21 func127 ?_
 intro w0 Q hQ
 unfold pt zY at h
 refine T_su [(0,vi d),(1,vi f),(2,vi to),(3,vp a)]<|ar 0<|T_ed 2 [1] [(7,vi f)]<|T_bz 0 ?_
 obtain⟨I5,m5,i1,i2⟩:=h
 refine bL (x:=K4) (σ:=Int) (λs_=> [(0,vi d),(2,vi to),(3,vp a),(7,vi s_)]) (λs_ H=>I5 s_ H) (λs_ H=>m5 s_ H) (f:Int) (by kernel_rfl) i1 sk ?_
 rintro i H1 i3
 have h:=i2 i H1 i3
 refine T_su [(0,vi d),(2,vi to),(3,vp a),(7,vi i)]<|T_sz<|ar 1<|T_ed 3 [] [(11,.bool (decide (i<to)))] ?_
 by_cases c4:i<to
 ·rw[if_pos c4]at h
  refine aI 11 (zX c4)<|T_kt<|T_sz<|T_bz 1<|T_rz 3<|T_ud [11] [] ?_
  obtain⟨e,rfl,xB,xN,xC,q6,h⟩:=h
  refine T_ld (some 14) 59 q6 [3] [(3,Vq e),(14,vs xB xN xC)]<|T_nd 4 [] [(18,vi (zY ((zY (d*64))+i)))]<|T_nw (some 19) (λb=>vs (pa b) 1 1) (.cells #[vi (zY ((zY (d*64))+i))] 3) ?_
  intro b H2 e7 e8
  replace h:=h b H2 e7 e8
  refine T_pd [18] [(19,vs (pa b) 1 1)]<|N_op (some 20) (cJ #[59,59] 59 #[vs xB xN xC,vs (pa b) 1 1]) _ (λ_=>by kernel_rfl) (bQ (T:=3) (sz:=1) (bytes:=8) (zero:=(vi 0:Value)) underlying59 underlying59 rfl (show prog.info? 3=some t3 from by kernel_rfl) (by kernel_rfl) (by kernel_rfl) (by decide) (by kernel_rfl) (by first | exact h | (simpa only[Value.cells,List.toList_toArray]using h))) ?_;clear h
  rintro _ H3 ⟨ap,g,rfl,h⟩
  refine T_pd [14,19] [(20,vs ap (xN+1) g)] ?_
  obtain⟨q10,h⟩:=h
  refine fH 59 (vs ap (xN+1) g) q10 ?_
  intro H4 e9
  replace h:=h H4 e9
  exact T_pd [20] []<|zq<|aA<|aE<|T_rz 2<|T_ed 3 [7] [(7,vi (zY (i+2)))]<|aS ((zY (i+2)):Int) sk h
 rw[if_neg c4]at h
 exact aJ 11 (zQ c4)<|zk 0<|aD<|aD<|aM<|iG (fn:=f127) [] hQ (show cG _ _ _ [] _ from .nil) h
end bU
variable{R:zv}{a d:Int}{H:zV}{b:zW}
/-! (*moraine/seg.Mem).Write -/
namespace cM
def K0:=Func.code f22
end cM
def cM.pt(m:zW)(a wv:Int)(H:zV)(R:zv):Prop:=
 gY.C m a H (λv H1=> ∃x,v=vp x/\
 fE x (
 R (vi 18) H1) (λxA=>
 (aK H1 xA 0 1)/\ ∀H2,H2=aR H1 xA [vu wv] 0->
 R (vi 0) H2))
namespace cM
theorem link(h:pt b a d H R):C b a d H R:=by
 refine T_en K0 16 func22 ?_
 intro w0 Q hQ
 unfold pt at h
 refine T_su [(0,vp b),(1,vi a),(2,vu d)]<|ar 0<|T_ed 1 [] []<|ar 1<|T_nd 2 [0,1] [(8,vp b),(9,vi a)]<|T_c (some 10) h ?_;clear h
 rintro v H1 ⟨x,rfl,h⟩
 refine T_pd [8,9] [(10,vp x)]<|T_ed 1 [10] [(7,vp x)]<|T_sz<|ar 2<|T_nd 1 [] [(11,vp x)] ?_
 rcases x with _ | xA
 ·rw[onPtr_none]at h
  exact T_ed 1 [7,11] [(7,vp none),(12,VT)]<|T_tz 12<|ar 3<|T_nr 1 [6] [vi 18] hQ h
 rw[onPtr_some]at h
 refine T_ed 1 [7,11] [(7,Vq xA),(12,VF)]<|T_fz 12<|T_kt<|ar 4<|T_n 3 [(14,vu d),(15,Vq xA)] ?_
 obtain⟨q2,h⟩:=h
 refine fH 40 (vu d) q2 ?_
 intro H2 e1
 replace h:=h H2 e1
 refine⟨[],pk,?_⟩
 exact T_e<|ar 5<|T_nr 1 [6] [vi 0] hQ h
end cM
/-! (*moraine/seg.Mem).Seg -/
namespace bH
def K0:=Func.code f33
end bH
def bH.pt(m:zW)(u:Int)(H:zV)(R:zv):Prop:=
 ∀b H1,b=H.size->H1=H.push (.cells #[vi 0,vi 0,vi 0,vi 0,vi 0,vi 0,vi 0] 89)->
 gS.C m u H1 (λv H2=> ∃x,v=vp x/\
 fE x (
 (aK H2 (ad b) 0 7)/\ ∀H3,H3=aR H2 (ad b) [vi 0,vi 0,vi 0,vi 0,vi 0,vi 0,vi 0] 0->
 ∃aa y rN q n o p,aQ H3 (ad b) 0 [vi aa,vi y,vi rN,vi q,vi n,vi o,vi p]/\
 R (.tuple #[.agg #[vi aa,vi y,vi rN,vi q,vi n,vi o,vi p],VF]) H3) (λxA=>
 ∃r l xN d e f a,aQ H2 xA 0 [vi r,vi l,vi xN,vi d,vi e,vi f,vi a]/\
 (aK H2 (ad b) 0 7)/\ ∀H4,H4=aR H2 (ad b) [vi r,vi l,vi xN,vi d,vi e,vi f,vi a] 0->
 ∃t s z j g k i,aQ H4 (ad b) 0 [vi t,vi s,vi z,vi j,vi g,vi k,vi i]/\
 R (.tuple #[.agg #[vi t,vi s,vi z,vi j,vi g,vi k,vi i],VT]) H4))
namespace bH
theorem link(h:pt b a H R):C b a H R:=by
 refine T_en K0 17 func33 ?_
 intro w0 Q hQ
 unfold pt at h
 refine T_su [(0,vp b),(1,vi a)]<|ar 0<|T_nw (some 4) (λm=>vp (pa m)) (.cells #[vi 0,vi 0,vi 0,vi 0,vi 0,vi 0,vi 0] 89) ?_
 intro m H1 e1 e2
 replace h:=h m H1 e1 e2
 refine T_pd [] [(4,vp (pa m))]<|T_ed 1 [] []<|ar 1<|T_nd 2 [0,1] [(7,vp b),(8,vi a)]<|T_c (some 9) h ?_;clear h
 rintro v H2 ⟨x,rfl,h⟩
 refine T_pd [7,8] [(9,vp x)]<|T_ed 1 [9] [(6,vp x)]<|T_sz<|ar 2<|T_nd 1 [] [(10,vp x)] ?_
 rcases x with _ | xA
 ·rw[onPtr_none]at h
  refine T_ed 1 [6,10] [(6,vp none),(11,VT)]<|T_tz 11<|ar 3<|T_nd 1 [6,11] [(12,.agg #[vi 0,vi 0,vi 0,vi 0,vi 0,vi 0,vi 0])] ?_
  obtain⟨q4,h⟩:=h
  refine fG 89 [vi 0,vi 0,vi 0,vi 0,vi 0,vi 0,vi 0] q4 ?_
  intro H3 e3
  replace h:=h H3 e3
  refine T_pd [12] []<|T_ed 1 [] [(5,VF)]<|zx ?_
  show At _ _ _ _ _ (Q .ret)
  obtain⟨aa,y,rN,q,n,o,p,q5,h⟩:=h
  exact kJ (fn:=f33) [.agg #[vi aa,vi y,vi rN,vi q,vi n,vi o,vi p],VF] hQ (show cG _ _ _ [.cell 4 89,.tmp 5] _ from .cell (by kernel_rfl) (fC (λ_=>by kernel_rfl) (λ_=>by kernel_rfl) q5) (.tmp (by kernel_rfl) (.nil))) h
 rw[onPtr_some]at h
 refine T_ed 1 [6,10] [(6,Vq xA),(11,VF)]<|T_fz 11<|T_kt<|ar 4<|T_nd 3 [6,11] [(15,Vq xA)] ?_
 obtain⟨r,l,xN,d,e,f,u,q6,h⟩:=h
 refine T_lr 16 89 q6 [15] ?_
 obtain⟨q8,h⟩:=h
 refine fG 89 [vi r,vi l,vi xN,vi d,vi e,vi f,vi u] q8 ?_
 intro H4 e7
 replace h:=h H4 e7
 refine T_pd [16] []<|T_ed 1 [] [(5,VT)]<|zx ?_
 show At _ _ _ _ _ (Q .ret)
 obtain⟨t,s,z,j,g,k,i,q9,h⟩:=h
 exact kJ (fn:=f33) [.agg #[vi t,vi s,vi z,vi j,vi g,vi k,vi i],VT] hQ (show cG _ _ _ [.cell 4 89,.tmp 5] _ from .cell (by kernel_rfl) (fC (λ_=>by kernel_rfl) (λ_=>by kernel_rfl) q9) (.tmp (by kernel_rfl) (.nil))) h
end bH
/-! (*moraine/seg.Mem).word -/
namespace gY
def K0:=Func.code f59
end gY
def gY.pt(m:zW)(b:Int)(H:zV)(R:zv):Prop:=
 if b<0 then(
 R (vp none) H)
 else
 gS.C m (zY (Int.tdiv b 64)) H (λv H1=> ∃x,v=vp x/\
 fE x (
 R (vp none) H1) (λxA=>
 ∃d,hat H1 (xA.add 2)=some (vi d)/\
 if(Int.tmod b 64)>=d then(
 R (vp none) H1)
 else
 ((0:Int)<=(Int.tmod b 64)/\(Int.tmod b 64)< (64:Int))/\
 R (Vq ((xA.add 8).add (Int.toNat (Int.tmod b 64)*1))) H1))
namespace gY
theorem link(h:pt b a H R):C b a H R:=by
 refine T_en K0 30 func59 ?_
 intro w0 Q hQ
 unfold pt zY at h
 refine T_su [(0,vp b),(1,vi a)]<|ar 0<|T_ed 1 [] []<|T_sz<|ar 1<|T_ed 2 [] [(7,.bool (decide (a<0)))] ?_
 by_cases c1:a<0
 ·rw[if_pos c1]at h
  exact aI 7 (zX c1)<|ar 2<|T_nr 1 [4] [vp none] hQ h
 rw[if_neg c1]at h
 refine aJ 7 (zQ c1)<|T_kt<|ar 3<|T_nd 3 [0,7] [(8,vp b),(10,vi (zY (Int.tdiv a 64)))]<|T_c (some 11) h ?_;clear h
 rintro v H1 ⟨x,rfl,h⟩
 refine T_pd [8,10] [(11,vp x)]<|T_ed 1 [11] [(5,vp x)]<|T_sz<|ar 4<|T_nd 1 [] [(12,vp x)] ?_
 rcases x with _ | xA
 ·rw[onPtr_none]at h
  exact T_ed 11 [5,12] [(5,vp none),(23,VT)]<|T_tz 23<|ar 5<|T_nr 1 [4] [vp none] hQ h
 rw[onPtr_some]at h
 refine T_nd 8 [5,12] [(5,Vq xA),(14,VF),(16,vi (Int.tmod a 64)),(20,Vq (xA.add 2))] ?_
 obtain⟨d,q3,h⟩:=h
 refine T_l1 21 3 q3 [20]<|T_ed 2 [14,16,21] [(23,.bool (decide ((Int.tmod a 64)>=d)))] ?_
 by_cases c4:(Int.tmod a 64)>=d
 ·rw[if_pos c4]at h
  exact aI 23 (zX c4)<|ar 5<|T_nr 1 [4] [vp none] hQ h
 rw[if_neg c4]at h
 refine aJ 23 (zQ c4)<|T_kt<|ar 6<|T_n 5 [(26,vi (Int.tmod a 64)),(28,Vq (xA.add 8))] ?_
 obtain⟨q6,h⟩:=h
 exact T_v1 29 (bK 132 (Vq (xA.add 8)) (vi (Int.tmod a 64))) (Vq ((xA.add 8).add (Int.toNat (Int.tmod a 64)*1))) (λw _=>bX (P:=prog) (t:=132) (elem:=40) (sz:=1) (n:=64) (a:=(xA.add 8)) (k:=.i64) (i:=(Int.tmod a 64)) underlying132 (λ_=>by kernel_rfl) q6.1 q6.2 w) [26,28]<|T_nr 1 [4] [Vq ((xA.add 8).add (Int.toNat (Int.tmod a 64)*1))] hQ h
end gY
/-! (*moraine/seg.Mem).at -/
namespace gS
def K0:=Func.code f71
end gS
def gS.pt(m:zW)(b:Int)(H:zV)(R:zv):Prop:=
 fE m (
 R (vp none) H) (λmA=>
 if b<0 then(
 R (vp none) H)
 else
 ∃xB xN xC,hat H mA=some (vs xB xN xC)/\
 if b>=(xN:Int)then(
 R (vp none) H)
 else
 ∃o g j,hat H mA=some (vs o g j)/\
 ∃d,o=some d/\
 yZ b g/\
 ∃x,hat H ((d.add (Int.toNat b*72)).add 7)=some (vi x)/\
 if x=0 then(
 R (vp none) H)
 else
 ∃n f l,hat H mA=some (vs n f l)/\
 ∃e,n=some e/\
 yZ b f/\
 R (Vq (e.add (Int.toNat b*72))) H)
namespace gS
theorem link(h:pt b a H R):C b a H R:=by
 refine T_en K0 37 func71 ?_
 intro w0 Q hQ
 unfold pt at h
 refine T_su [(0,vp b),(1,vi a)]<|ar 0<|T_ed 1 [] []<|T_sz<|ar 1<|T_nd 1 [] [(5,vp b)] ?_
 rcases b with _ | mA
 ·rw[onPtr_none]at h
  exact T_ed 25 [0,5] [(0,vp none),(30,VT)]<|T_tz 30<|ar 2<|T_nr 1 [4] [vp none] hQ h
 rw[onPtr_some]at h
 refine T_nd 6 [0,5] [(0,Vq mA),(11,.bool (decide (a<0)))] ?_
 by_cases c1:a<0
 ·rw[if_pos c1]at h
  exact N_bd 11 (zX c1)<|T_ed 19 [11] [(30,VT)]<|T_tz 30<|ar 2<|T_nr 1 [4] [vp none] hQ h
 rw[if_neg c1]at h
 refine N_bd 11 (zQ c1)<|T_nd 4 [] [(12,vi a),(15,Vq mA)] ?_
 obtain⟨xB,xN,xC,q3,h⟩:=h
 refine T_l1 16 128 q3 [15]<|T_nd 4 [11,12,16] [(20,.bool (decide (a>=(xN:Int))))] ?_
 by_cases c4:a>=(xN:Int)
 ·rw[if_pos c4]at h
  exact N_bd 20 (zX c4)<|T_ed 10 [20] [(30,VT)]<|T_tz 30<|ar 2<|T_nr 1 [4] [vp none] hQ h
 rw[if_neg c4]at h
 refine N_bd 20 (zQ c4)<|T_nd 3 [] [(23,Vq mA)] ?_
 obtain⟨o,g,j,q6,h⟩:=h
 refine T_l1 24 128 q6 [23]<|T_nd 1 [] [(25,vi a)] ?_
 obtain⟨d,rfl,q7,h⟩:=h
 refine T_xd (some 26) 128 134 72 d g j .i64 a underlying128 q7.1 q7.2 [24,25] [(26,Vq (d.add (Int.toNat a*72)))]<|T_nd 1 [26] [(27,Vq ((d.add (Int.toNat a*72)).add 7))] ?_
 obtain⟨x,q8,h⟩:=h
 refine T_l1 28 3 q8 [27]<|T_ed 2 [20,28] [(30,.bool (x==0))] ?_
 by_cases c9:x=0
 ·rw[if_pos c9]at h
  exact aI 30 (zK c9)<|ar 2<|T_nr 1 [4] [vp none] hQ h
 rw[if_neg c9]at h
 refine aJ 30 (zJ c9)<|T_kt<|ar 3<|T_nd 3 [0,30] [(33,Vq mA)] ?_
 obtain⟨n,f,l,q11,h⟩:=h
 refine T_l1 34 128 q11 [33]<|T_nd 1 [1] [(35,vi a)] ?_
 obtain⟨e,rfl,q12,h⟩:=h
 exact T_ix (some 36) 128 134 72 e f l .i64 a underlying128 q12.1 q12.2 [(36,Vq (e.add (Int.toNat a*72)))]<|T_nr 1 [4] [Vq (e.add (Int.toNat a*72))] hQ h
end gS
/-! (*moraine/seg.Mem).Read -/
namespace cK
def K0:=Func.code f82
end cK
def cK.pt(m:zW)(a:Int)(H:zV)(R:zv):Prop:=
 gY.C m a H (λv H1=> ∃x,v=vp x/\
 fE x (
 R (.tuple #[vu 0,vi 18]) H1) (λxA=>
 ∃b,hat H1 xA=some (vu b)/\
 R (.tuple #[vu b,vi 0]) H1))
namespace cK
theorem link(h:pt b a H R):C b a H R:=by
 refine T_en K0 15 func82 ?_
 intro w0 Q hQ
 unfold pt at h
 refine T_su [(0,vp b),(1,vi a)]<|ar 0<|T_ed 2 [] []<|T_sz<|ar 1<|T_n 2 [(7,vp b),(8,vi a)]<|T_c (some 9) h ?_;clear h
 rintro v H1 ⟨x,rfl,h⟩
 refine⟨[(9,vp x)],pk,?_⟩
 refine T_ne 1 [(6,vp x)]<|ar 2<|T_nd 1 [] [(10,vp x)] ?_
 rcases x with _ | xA
 ·rw[onPtr_none]at h
  exact T_ne 1 [(6,vp none),(11,VF)]<|T_fz 11<|T_kt<|ar 4<|T_nr 2 [4,5] [vu 0,vi 18] hQ h
 rw[onPtr_some]at h
 refine T_ne 1 [(6,Vq xA),(11,VT)]<|T_tz 11<|ar 3<|T_n 2 [(13,Vq xA)] ?_
 obtain⟨m,q1,h⟩:=h
 exact T_l1 14 40 q1 [13]<|T_nr 2 [4,5] [vu m,vi 0] hQ h
end cK
/-! (*moraine/seg.Mem).Mark -/
namespace hC
def K0:=Func.code f119
end hC
def hC.pt(m:zW)(e b d:Int)(H:zV)(R:zv):Prop:=
 gS.C m e H (λv H1=> ∃x,v=vp x/\
 fE x (
 R (vi 19) H1) (λxA=>
 if((((decide (b<0)) || (decide (b>=4))) || (decide (d<0))) || (decide (d>5)))=true then(
 R (vi 1) H1)
 else
 yZ b 4/\
 (aK H1 ((xA.add 3).add (Int.toNat b*1)) 0 1)/\ ∀H2,H2=aR H1 ((xA.add 3).add (Int.toNat b*1)) [vi d] 0->
 R (vi 0) H2))
namespace hC
theorem link{e m d:Int}(h:pt b e m d H R):C b e m d H R:=by
 refine T_en K0 38 func119 ?_
 intro w0 Q hQ
 unfold pt at h
 refine T_su [(0,vp b),(1,vi e),(2,vi m),(3,vi d)]<|ar 0<|T_ed 1 [] []<|ar 1<|T_nd 2 [0,1] [(10,vp b),(11,vi e)]<|T_c (some 12) h ?_;clear h
 rintro v H1 ⟨x,rfl,h⟩
 refine T_pd [10,11] [(12,vp x)]<|T_ed 1 [12] [(9,vp x)]<|T_sz<|T_bz 0<|ar 2<|T_nd 1 [] [(14,vp x)] ?_
 rcases x with _ | xA
 ·rw[onPtr_none]at h
  exact T_ed 2 [9,14] [(9,vp none),(13,VT)]<|T_tz 13<|ar 3<|T_nr 1 [8] [vi 19] hQ h
 rw[onPtr_some]at h
 refine T_ed 2 [9,14] [(9,Vq xA),(13,VF)]<|T_fz 13<|ar 4 ?_
 refine iT [(2,vi m),(3,vi d),(9,Vq xA),(16,.bool ((((decide (m<0)) || (decide (m>=4))) || (decide (d<0))) || (decide (d>5))))] ?_ ?_
 ·refine aE ?_
  by_cases c7:((((decide (m<0)) || (decide (m>=4))) || (decide (d<0))) || (decide (d>5)))=true
  ·rw[if_pos c7]at h
   exact aI 16 c7<|ar 5<|T_nr 1 [8] [vi 1] hQ h
  rw[if_neg c7]at h
  refine aJ 16 (zZ c7)<|T_k<|aA<|aE<|ar 6<|T_n 6 [(32,vi m),(33,vi d),(36,Vq (xA.add 3))] ?_
  obtain⟨q9,h⟩:=h
  refine T_v1 37 (bK 71 (Vq (xA.add 3)) (vi m)) (Vq ((xA.add 3).add (Int.toNat m*1))) (λw _=>bX (P:=prog) (t:=71) (elem:=3) (sz:=1) (n:=4) (a:=(xA.add 3)) (k:=.i64) (i:=m) underlying71 (λ_=>by kernel_rfl) q9.1 q9.2 w) [32,36] ?_
  obtain⟨q11,h⟩:=h
  refine fH 3 (vi d) q11 ?_
  intro H2 e10
  replace h:=h H2 e10
  refine⟨[],pk,?_⟩
  exact T_e<|ar 7<|T_nr 1 [8] [vi 0] hQ h
 intro hk
 refine T_n 3 [(2,vi m),(3,vi d),(9,Vq xA),(19,.bool (decide (m<0)))] ?_
 by_cases c1:m<0
 ·have b2:(decide (m<0))=true:=zX c1
  refine bW [(2,vi m),(3,vi d),(9,Vq xA),(19,VT)] (by rw[b2]) ?_
  refine T_nd 12 [19] [(16,VT)]<|zq<|S_bd 16 (b:=true) (v:=((((decide (m<0)) || (decide (m>=4))) || (decide (d<0))) || (decide (d>5)))) (by simp only[b2,BL]) ?_
  exact hk
 have b2:(decide (m<0))=false:=zQ c1
 refine bW [(2,vi m),(3,vi d),(9,Vq xA),(19,VF)] (by rw[b2]) ?_
 refine T_nd 4 [19] [(23,.bool (decide (m>=4)))] ?_
 by_cases c3:m>=4
 ·have b4:(decide (m>=4))=true:=zX c3
  refine N_bd 23 b4<|T_nd 8 [23] [(16,VT)] ?_
  refine zq<|S_bd 16 (b:=true) (v:=((((decide (m<0)) || (decide (m>=4))) || (decide (d<0))) || (decide (d>5)))) (by simp only[b2,b4,BL]) ?_
  exact hk
 have b4:(decide (m>=4))=false:=zQ c3
 refine N_bd 23 b4<|T_nd 4 [23] [(27,.bool (decide (d<0)))] ?_
 by_cases c5:d<0
 ·have b6:(decide (d<0))=true:=zX c5
  refine N_bd 27 b6<|T_nd 4 [27] [(16,VT)] ?_
  refine zq<|S_bd 16 (b:=true) (v:=((((decide (m<0)) || (decide (m>=4))) || (decide (d<0))) || (decide (d>5)))) (by simp only[b2,b4,b6,BL]) ?_
  exact hk
 have b6:(decide (d<0))=false:=zQ c5
 refine N_bd 27 b6<|T_nd 4 [27] [(16,.bool (decide (d>5)))] ?_
 refine zq<|S_bd 16 (b:=(decide (d>5))) (v:=((((decide (m<0)) || (decide (m>=4))) || (decide (d<0))) || (decide (d>5)))) (by simp only[b2,b4,b6,BL]) ?_
 exact hk
end hC
/-! (*moraine/seg.Mem).Bump -/
namespace hX
def K0:=Func.code f122
end hX
def hX.pt(m:zW)(a nv:Int)(H:zV)(R:zv):Prop:=
 gS.C m a H (λv H1=> ∃x,v=vp x/\
 fE x (
 R (.tuple #[vi 0,vi 19]) H1) (λxA=>
 if nv<1 then(
 R (.tuple #[vi 0,vi 1]) H1)
 else
 ∃d,hat H1 (xA.add 2)=some (vi d)/\
 if nv>(zY (64-d))then(
 R (.tuple #[vi 0,vi 2]) H1)
 else
 ∃b,hat H1 (xA.add 2)=some (vi b)/\
 (aK H1 (xA.add 2) 0 1)/\ ∀H2,H2=aR H1 (xA.add 2) [vi (zY (b+nv))] 0->
 ∃e,hat H2 (xA.add 2)=some (vi e)/\
 R (.tuple #[vi (zY ((zY ((zY (a*64))+e))-nv)),vi 0]) H2))
namespace hX
theorem link(h:pt b a d H R):C b a d H R:=by
 refine T_en K0 47 func122 ?_
 intro w0 Q hQ
 unfold pt zY at h
 refine T_su [(0,vp b),(1,vi a),(2,vi d)]<|ar 0<|T_ed 2 [] []<|ar 1<|T_nd 2 [0] [(9,vp b),(10,vi a)]<|T_c (some 11) h ?_;clear h
 rintro v H1 ⟨x,rfl,h⟩
 refine T_pd [9,10] [(11,vp x)]<|T_ed 1 [11] [(8,vp x)]<|T_sz<|T_bz 0<|ar 2<|T_nd 1 [] [(13,vp x)] ?_
 rcases x with _ | xA
 ·rw[onPtr_none]at h
  exact T_ed 2 [8,13] [(8,vp none),(12,VT)]<|T_tz 12<|ar 3<|T_nr 2 [6,7] [vi 0,vi 19] hQ h
 rw[onPtr_some]at h
 refine T_ed 2 [8,13] [(8,Vq xA),(12,VF)]<|T_fz 12<|ar 4<|T_ed 3 [12] [(15,.bool (decide (d<1)))] ?_
 by_cases c1:d<1
 ·rw[if_pos c1]at h
  exact aI 15 (zX c1)<|ar 5<|T_nr 2 [6,7] [vi 0,vi 1] hQ h
 rw[if_neg c1]at h
 refine aJ 15 (zQ c1)<|ar 6<|T_nd 5 [15] [(19,vi d),(23,Vq (xA.add 2))] ?_
 obtain⟨m,q3,h⟩:=h
 refine T_l1 24 3 q3 [23]<|T_ed 3 [19,24] [(18,.bool (decide (d>(zY (64-m)))))] ?_
 by_cases c4:d>(zY (64-m))
 ·rw[if_pos c4]at h
  exact aI 18 (zX c4)<|ar 7<|T_nr 2 [6,7] [vi 0,vi 2] hQ h
 rw[if_neg c4]at h
 refine aJ 18 (zQ c4)<|T_k<|aA<|aE<|ar 8<|T_nd 4 [18] [(27,Vq xA),(30,Vq (xA.add 2))] ?_
 obtain⟨nv,q6,h⟩:=h
 refine T_l1 31 3 q6 [30]<|T_nd 5 [27,31] [(33,vi (zY (nv+d))),(36,Vq (xA.add 2))] ?_
 obtain⟨q8,h⟩:=h
 refine fH 3 (vi (zY (nv+d))) q8 ?_
 intro H2 e7
 replace h:=h H2 e7
 refine T_pd [33,36] []<|T_e<|ar 9<|T_nd 6 [1,8] [(38,vi (zY (a*64))),(42,Vq (xA.add 2))] ?_
 obtain⟨e,q9,h⟩:=h
 exact T_l1 43 3 q9 [42]<|T_nr 5 [6,7] [vi (zY ((zY ((zY (a*64))+e))-d)),vi 0] hQ h
end hX
/-! (*moraine/seg.Mem).Take -/
namespace iO
def K0:=Func.code f123
def K2:=cb K0
def K4:=cb K2
def K19:=cb K4
def K20:=ca K19
def K21:=cb K19
def K22:=ca K20
def K23:=ca K22
def K32:=cb K21
def K34:=cb K32
def K35:=ca K34
end iO
def iO.pt(m:zW)(d b:Int)(H:zV)(R:zv):Prop:=
 fE m (
 R (.tuple #[vi 0,vi 1]) H) (λmA=>
 if d<0 then(
 R (.tuple #[vi 0,vi 1]) H)
 else
 if d>4 then(
 R (.tuple #[vi 0,vi 1]) H)
 else
 if b<0 then(
 R (.tuple #[vi 0,vi 1]) H)
 else
 if b>3 then(
 R (.tuple #[vi 0,vi 1]) H)
 else
 ∃xB xN xC,hat H mA=some (vs xB xN xC)/\
 if(xN:Int)=0 then(
 R (.tuple #[vi 0,vi 1]) H)
 else
 ∃x,hat H (mA.add 2)=some (vi x)/\
 if x=0 then(
 R (.tuple #[vi 0,vi 2]) H)
 else
 ∃(u:zw) (m24:Int->zV->Nat),u 0 H/\ ∀k H1,u k H1->
 ∃s n o,hat H1 mA=some (vs s n o)/\
 ∃l,s=some l/\
 yZ k n/\
 ∃r,hat H1 ((l.add (Int.toNat k*72)).add 7)=some (vi r)/\
 if r>0 then(
 (u (zY (k+1)) H1/\m24 (zY (k+1)) H1<m24 k H1))
 else
 ∃q,hat H1 (mA.add 1)=some (vi q)/\
 (aK H1 (mA.add 1) 0 1)/\ ∀H2,H2=aR H1 (mA.add 1) [vi (zY (q+1))] 0->
 ∃p,hat H2 (mA.add 2)=some (vi p)/\
 (aK H2 (mA.add 2) 0 1)/\ ∀H3,H3=aR H2 (mA.add 2) [vi (zY (p-1))] 0->
 ∃y f g,hat H3 mA=some (vs y f g)/\
 ∃j,hat H3 (mA.add 1)=some (vi j)/\
 ∃e,y=some e/\
 yZ k f/\
 (aK H3 (e.add (Int.toNat k*72)) 0 72)/\ ∀H4,H4=aR H3 (e.add (Int.toNat k*72)) ([vi d,vi b,vi 0,vi 5,vi 5,vi 5,vi 5,vi j]++List.replicate 64 (vu 0):List Value) 0->
 R (.tuple #[vi k,vi 0]) H4)
namespace iO
theorem link{H:zV}(h:pt b a d H R):C b a d H R:=by
 refine T_en K0 83 func123 ?_
 intro w0 Q hQ
 unfold pt zY at h
 refine T_su [(0,vp b),(1,vi a),(2,vi d)]<|ar 0<|T_ed 2 [] []<|T_sz<|T_bz 0<|ar 1<|T_nd 1 [] [(10,vp b)] ?_
 rcases b with _ | mA
 ·rw[onPtr_none]at h
  exact T_ed 26 [0,10] [(0,vp none),(9,VT)]<|T_tz 9<|ar 2<|T_nr 2 [6,7] [vi 0,vi 1] hQ h
 rw[onPtr_some]at h
 refine T_nd 6 [0,10] [(0,Vq mA),(16,.bool (decide (a<0)))] ?_
 by_cases c1:a<0
 ·rw[if_pos c1]at h
  exact N_bd 16 (zX c1)<|T_ed 20 [16] [(9,VT)]<|T_tz 9<|ar 2<|T_nr 2 [6,7] [vi 0,vi 1] hQ h
 rw[if_neg c1]at h
 refine N_bd 16 (zQ c1)<|T_nd 4 [16] [(20,.bool (decide (a>4)))] ?_
 by_cases c3:a>4
 ·rw[if_pos c3]at h
  exact N_bd 20 (zX c3)<|T_ed 16 [20] [(9,VT)]<|T_tz 9<|ar 2<|T_nr 2 [6,7] [vi 0,vi 1] hQ h
 rw[if_neg c3]at h
 refine N_bd 20 (zQ c3)<|T_nd 4 [20] [(24,.bool (decide (d<0)))] ?_
 by_cases c5:d<0
 ·rw[if_pos c5]at h
  exact N_bd 24 (zX c5)<|T_ed 12 [24] [(9,VT)]<|T_tz 9<|ar 2<|T_nr 2 [6,7] [vi 0,vi 1] hQ h
 rw[if_neg c5]at h
 refine N_bd 24 (zQ c5)<|T_nd 4 [24] [(28,.bool (decide (d>3)))] ?_
 by_cases c7:d>3
 ·rw[if_pos c7]at h
  exact N_bd 28 (zX c7)<|T_ed 8 [28] [(9,VT)]<|T_tz 9<|ar 2<|T_nr 2 [6,7] [vi 0,vi 1] hQ h
 rw[if_neg c7]at h
 refine N_bd 28 (zQ c7)<|T_nd 3 [] [(31,Vq mA)] ?_
 obtain⟨xB,xN,xC,q9,h⟩:=h
 refine T_l1 32 128 q9 [31]<|T_ed 4 [28,32] [(9,.bool ((xN:Int)==0))] ?_
 by_cases c10:(xN:Int)=0
 ·rw[if_pos c10]at h
  exact aI 9 (zK c10)<|ar 2<|T_nr 2 [6,7] [vi 0,vi 1] hQ h
 rw[if_neg c10]at h
 refine aJ 9 (zJ c10)<|ar 3<|T_nd 3 [9] [(39,Vq (mA.add 2))] ?_
 obtain⟨x,q12,h⟩:=h
 refine T_l1 40 3 q12 [39]<|T_ed 2 [40] [(36,.bool (x==0))] ?_
 by_cases c13:x=0
 ·rw[if_pos c13]at h
  exact aI 36 (zK c13)<|ar 4<|T_nr 2 [6,7] [vi 0,vi 2] hQ h
 rw[if_neg c13]at h
 refine aJ 36 (zJ c13)<|T_k<|aA<|aE<|ar 5<|T_ed 1 [36] [(8,vi 0)]<|T_sz<|T_bz 1 ?_
 obtain⟨u,m24,i15,i16⟩:=h
 refine bL (x:=K23) (σ:=Int) (λs_=> [(0,Vq mA),(1,vi a),(2,vi d),(8,vi s_)]) (λs_ H=>u s_ H) (λs_ H=>m24 s_ H) (0:Int) (by kernel_rfl) i15 sk ?_
 rintro k H1 i17
 have h:=i16 k H1 i17
 refine T_su [(0,Vq mA),(1,vi a),(2,vi d),(8,vi k)]<|T_sz<|ar 6<|T_nd 3 [] [(44,Vq mA)] ?_
 obtain⟨s,n,o,q18,h⟩:=h
 refine T_l1 45 128 q18 [44]<|T_nd 1 [] [(46,vi k)] ?_
 obtain⟨l,rfl,q19,h⟩:=h
 refine T_xd (some 47) 128 134 72 l n o .i64 k underlying128 q19.1 q19.2 [45,46] [(47,Vq (l.add (Int.toNat k*72)))]<|T_nd 1 [47] [(48,Vq ((l.add (Int.toNat k*72)).add 7))] ?_
 obtain⟨r,q20,h⟩:=h
 refine T_l1 49 3 q20 [48]<|T_ed 1 [49] [(50,.bool (decide (r>0)))] ?_
 by_cases c21:r>0
 ·rw[if_pos c21]at h
  exact aI 50 (zX c21)<|T_kt<|T_bz 2<|T_rz 7<|T_nd 3 [8,50] [(8,vi (zY (k+1)))]<|zq<|aA<|aE<|aS ((zY (k+1)):Int) sk h
 rw[if_neg c21]at h
 refine aJ 50 (zQ c21)<|zk 1<|aD<|aD<|aM<|aE<|ar 8<|T_nd 3 [50] [(53,Vq mA),(55,Vq (mA.add 1))] ?_
 obtain⟨q,q23,h⟩:=h
 refine T_l1 56 3 q23 [55]<|T_nd 3 [53,56] [(57,vi (zY (q+1))),(59,Vq (mA.add 1))] ?_
 obtain⟨q25,h⟩:=h
 refine fH 3 (vi (zY (q+1))) q25 ?_
 intro H2 e24
 replace h:=h H2 e24
 refine T_pd [57,59] []<|T_e<|ar 9<|T_nd 3 [] [(60,Vq mA),(62,Vq (mA.add 2))] ?_
 obtain⟨p,q26,h⟩:=h
 refine T_l1 63 3 q26 [62]<|T_nd 3 [60,63] [(64,vi (zY (p-1))),(66,Vq (mA.add 2))] ?_
 obtain⟨q28,h⟩:=h
 refine fH 3 (vi (zY (p-1))) q28 ?_
 intro H3 e27
 replace h:=h H3 e27
 refine T_pd [64,66] []<|T_e<|T_sz ?_
 obtain⟨y,f,g,q29,j,q30,e,rfl,q31,h⟩:=h
 refine yq 10 (Code.ops K35) [(15,mA,[vs (some e) f g]),(15,(mA.add 1),[vi j])] 16 (bv 16 0) (show aF _ _ _ from⟨⟨q29,trivial⟩,⟨q30,trivial⟩,trivial⟩)<|T_gp 0 (some 67) (vp (some mA)) (bv 16 1) [(0,vp (some mA)),(1,vi a),(2,vi d),(8,vi k),(67,vp (some mA))]<|aL 1 68 (vp (some mA)) (bv 16 3) [67]<|aL 2 69 (vp (some mA)) (bv 16 7) [68]<|T_g1 3 70 (vs (some e) f g) (bv 16 15) [69] (aU 128 (vp (some mA))) (yY 15 yX)<|aL 4 71 (vi k) (bv 16 31) []<|aL 5 72 (vi a) (bv 16 63) [1]<|aL 6 73 (vi d) (bv 16 127) [2]<|aL 7 74 (.agg #[vi 5,vi 5,vi 5,vi 5]) (bv 16 255) []<|aL 8 75 (.agg #[vi a,vi d,vi 0,vi 5,vi 5,vi 5,vi 5]) (bv 16 511) [72,73,74]<|aL 9 76 (vp (some mA)) (bv 16 1023) [0]<|aL 10 77 (vp (some mA)) (bv 16 2047) [76]<|aL 11 78 (vp (some (mA.add 1))) (bv 16 4095) [77]<|T_g1 12 79 (vi j) (bv 16 8191) [78] (aU 3 (vp (some (mA.add 1)))) (yY 15 yQ)<|aL 13 80 (.agg ([vi a,vi d,vi 0,vi 5,vi 5,vi 5,vi 5,vi j]++List.replicate 64 (vu 0):List Value).toArray) (bv 16 16383) [75,79]<|T_g1 14 81 (vp (some (e.add (Int.toNat k*72)))) (bv 16 32767) [70,71] (bK 128 (vs (some e) f g) (vi k)) (λ_ w _ _ _=>dY (P:=prog) (t:=128) (elem:=134) (sz:=72) (a:=e) (len:=f) (cap:=g) (k:=.i64) (i:=k) underlying128 (λ_=>by kernel_rfl) q31.1 q31.2 w) ?_
 obtain⟨q33,h⟩:=h
 refine fT 15 none (bv 16 65535) (jK 134 (Vq (e.add (Int.toNat k*72))) (.agg ([vi a,vi d,vi 0,vi 5,vi 5,vi 5,vi 5,vi j]++List.replicate 64 (vu 0):List Value).toArray)) (λHz=>Hz=aR H3 (e.add (Int.toNat k*72)) ([vi a,vi d,vi 0,vi 5,vi 5,vi 5,vi 5,vi j]++List.replicate 64 (vu 0):List Value) 0) (by kernel_rfl) (λ_=>by kernel_rfl) (by intro w hw;obtain⟨w1,g1,g2,g3⟩:=iR (P:=prog) (H:=H3) (t:=134) (a:=(e.add (Int.toNat k*72))) (v:=(.agg ([vi a,vi d,vi 0,vi 5,vi 5,vi 5,vi 5,vi j]++List.replicate 64 (vu 0):List Value).toArray)) ([vi a,vi d,vi 0,vi 5,vi 5,vi 5,vi 5,vi j]++List.replicate 64 (vu 0):List Value) 72 (by kernel_rfl) (by kernel_rfl) (λ_=>by kernel_rfl) (by kernel_rfl) q33 w hw;exact⟨w1,g1,g2,g3⟩) (by kernel_rfl) ?_
 intro H4 e32
 replace h:=h H4 e32
 refine⟨[(8,vi k)],pk,(show aF _ _ _ from⟨trivial,trivial,trivial⟩),?_⟩
 refine fU [(8,vi k)] sk ?_
 exact yz<|aE<|ar 11<|T_nr 3 [6,7] [vi k,vi 0] hQ h
end iO
/-! moraine/seg.New -/
namespace lq
def K0:=Func.code f131
end lq
def lq.pt(a:Int)(H:zV)(R:zv):Prop:=
 if((decide (a<8)) || (decide (a>1024)))=true then(
 R (.tuple #[vp none,vi 1]) H)
 else
 0<=a/\a<=a/\576*a<=2 ^ 48/\a<=9223372036854775807/\
 ∀b H1,b=H.size->H1=H.push (.cells (Builtin.zeroCells (List.replicate 8 (vi 0)++List.replicate 64 (vu 0):List Value).toArray (Int.toNat a)) 134)->
 ∀d H2,d=H1.size->H2=H1.push (.cells #[vs (some (ad b)) (Int.toNat a) (Int.toNat a),vi 0,vi a] 130)->
 R (.tuple #[Vq (ad d),vi 0]) H2
namespace lq
theorem link(h:pt a H R):C a H R:=by
 refine T_en K0 15 func131 ?_
 intro w0 Q hQ
 unfold pt at h
 refine T_su [(0,vi a)]<|ar 0<|T_ed 2 [] []<|T_sz<|ar 1 ?_
 refine iT [(0,vi a),(9,.bool ((decide (a<8)) || (decide (a>1024))))] ?_ ?_
 ·refine aE ?_
  by_cases c3:((decide (a<8)) || (decide (a>1024)))=true
  ·rw[if_pos c3]at h
   exact aI 9 c3<|ar 2<|T_nr 2 [2,3] [vp none,vi 1] hQ h
  rw[if_neg c3]at h
  refine aJ 9 (zZ c3)<|T_kt<|ar 3<|T_n 1 [(0,vi a),(10,vi a)] ?_
  obtain⟨q5,q6,q7,q8,h⟩:=h
  refine N_op (some 11) (lZ 128 (vi a) (vi a)) (λv Hz=>v=Value.slice (some (Addr.mk H.size 0 none)) (Int.toNat a) (Int.toNat a)/\Hz=H.push (.cells (Builtin.zeroCells (List.replicate 8 (vi 0)++List.replicate 64 (vu 0):List Value).toArray (Int.toNat a)) 134)) (λ_=>by kernel_rfl) (tY (T:=134) (zero:=.agg (List.replicate 8 (vi 0)++List.replicate 64 (vu 0):List Value).toArray) underlying128 (show prog.info? 134=some t134 from by kernel_rfl) (by kernel_rfl) q5 q6 q7 q8 (by kernel_rfl) (by decide)) ?_
  rintro _ H1 ⟨rfl,e10⟩
  obtain⟨b,e9⟩: ∃b,b=H.size:=⟨_,rfl⟩
  replace h:=h b H1 e9 e10
  rw[<-e9]
  refine T_pd [10] [(11,vs (pa b) (Int.toNat a) (Int.toNat a))]<|T_n 2 [(13,.agg #[vs (pa b) (Int.toNat a) (Int.toNat a),vi 0,vi a])]<|T_nw (some 14) (λb=>vp (pa b)) (.cells #[vs (pa b) (Int.toNat a) (Int.toNat a),vi 0,vi a] 130) ?_
  intro d H2 e11 e12
  replace h:=h d H2 e11 e12
  refine⟨[(14,vp (pa d))],pk,?_⟩
  exact T_nr 2 [2,3] [vp (pa d),vi 0] hQ h
 intro hk
 refine T_n 3 [(0,vi a),(6,.bool (decide (a<8)))] ?_
 by_cases c1:a<8
 ·have b2:(decide (a<8))=true:=zX c1
  refine bW [(0,vi a),(6,VT)] (by rw[b2]) ?_
  refine T_nd 3 [6] [(9,VT)]<|zq<|S_bd 9 (b:=true) (v:=((decide (a<8)) || (decide (a>1024)))) (by simp only[b2,BL]) ?_
  exact hk
 have b2:(decide (a<8))=false:=zQ c1
 refine bW [(0,vi a),(6,VF)] (by rw[b2]) ?_
 refine T_nd 3 [6] [(9,.bool (decide (a>1024)))]<|zq<|S_bd 9 (b:=(decide (a>1024))) (v:=((decide (a<8)) || (decide (a>1024)))) (by simp only[b2,BL]) ?_
 exact hk
end lq
variable{H:zV}{R:zv}{a:Int}
/-! moraine/word.Tag -/
namespace cS
def K0:=Func.code f46
end cS
def cS.pt(wv:Int)(H:zV)(R:zv):Prop:=
 R (vi (zY (iand .u64 wv 7))) H
namespace cS
theorem link(h:pt a H R):C a H R:=by
 refine T_en K0 6 func46 ?_
 intro w0 Q hQ
 unfold pt zY at h
 exact T_su [(0,vu a)]<|ar 0<|T_ed 1 [] []<|ar 1<|T_nr 4 [2] [vi (zY (iand .u64 a 7))] hQ h
end cS
/-! moraine/word.Addr -/
namespace gR
def K0:=Func.code f65
end gR
def gR.pt(wv:Int)(H:zV)(R:zv):Prop:=
 cS.C wv H (λv H1=> ∃x,v=vi x/\
 jO.C x H1 (λd H2=> ∃b,d=.bool b/\
 if b=true then(
 eM.C wv H2 (λe H3=> ∃a,e=.bool a/\
 if a=true then(
 R (.tuple #[vi (zY (ishr .u64 wv 3)),VT]) H3)
 else
 R (.tuple #[vi 0,VF]) H3))
 else
 R (.tuple #[vi 0,VF]) H2))
namespace gR
theorem link(h:pt a H R):C a H R:=by
 refine T_en K0 16 func65 ?_
 intro w0 Q hQ
 unfold pt zY at h
 refine T_su [(0,vu a)]<|ar 0<|T_ed 2 [] []<|T_sz<|ar 1<|T_nd 1 [] [(4,vu a)]<|T_c (some 5) h ?_;clear h
 rintro v H1 ⟨x,rfl,h⟩
 refine T_pd [4] [(5,vi x)]<|T_c (some 6) h ?_;clear h
 rintro d H2 ⟨b,rfl,h⟩
 refine T_pd [5] [(6,.bool b)]<|T_nd 2 [6] [(8,.bool (!b))] ?_
 by_cases c1:b=true
 ·rw[if_pos c1]at h
  have b2:(!b)=false:=congrArg Bool.not (c1)
  have b22:b=true:=c1
  refine N_bd 8 (b:=(!b)) (v:=false) (by simp only[b2,b22,Bool.not_true,Bool.not_false]) ?_
  clear b2 b22
  refine T_nd 1 [] [(9,vu a)]<|T_c (some 10) h ?_;clear h
  rintro e H3 ⟨wv,rfl,h⟩
  refine T_pd [9] [(10,.bool wv)]<|T_ed 2 [8,10] [(12,.bool (!wv))] ?_
  by_cases c3:wv=true
  ·rw[if_pos c3]at h
   exact aJ 12 (congrArg Bool.not (c3))<|T_kt<|ar 3<|T_nr 5 [2,3] [vi (zY (ishr .u64 a 3)),VT] hQ h
  rw[if_neg c3]at h
  exact aI 12 (congrArg Bool.not (zZ c3))<|ar 2<|T_nr 2 [2,3] [vi 0,VF] hQ h
 rw[if_neg c1]at h
 have b2:(!b)=true:=congrArg Bool.not (zZ c1)
 have b22:b=false:=zZ c1
 refine N_bd 8 (b:=(!b)) (v:=true) (by simp only[b2,b22,Bool.not_true,Bool.not_false]) ?_
 clear b2 b22
 exact T_ed 4 [8] [(12,VT)]<|T_tz 12<|ar 2<|T_nr 2 [2,3] [vi 0,VF] hQ h
end gR
/-! moraine/word.At -/
namespace j3
def K0:=Func.code f83
end j3
def j3.pt(b a:Int)(H:zV)(R:zv):Prop:=
 jO.C b H (λv H1=> ∃x,v=.bool x/\
 if x=true then(
 if((decide (a<0)) || (decide (a>=65536)))=true then(
 R (.tuple #[vu 0,vi 18]) H1)
 else
 R (.tuple #[vu (ior .u64 (ishl .u64 (IntKind.wrap .u64 a) 3) (IntKind.wrap .u64 b)),vi 0]) H1)
 else
 R (.tuple #[vu 0,vi 1]) H1)
namespace j3
theorem link{b a:Int}(h:pt b a H R):C b a H R:=by
 refine T_en K0 23 func83 ?_
 intro w0 Q hQ
 unfold pt at h
 refine T_su [(0,vi b),(1,vi a)]<|ar 0<|T_ed 2 [] []<|T_sz<|T_bz 0<|ar 1<|T_nd 1 [] [(7,vi b)]<|T_c (some 8) h ?_;clear h
 rintro v H1 ⟨x,rfl,h⟩
 refine T_pd [7] [(8,.bool x)]<|T_ed 2 [8] [(6,.bool (!x))] ?_
 by_cases c1:x=true
 ·rw[if_pos c1]at h
  refine aJ 6 (congrArg Bool.not (c1))<|ar 3 ?_
  refine iT [(0,vi b),(1,vi a),(10,.bool ((decide (a<0)) || (decide (a>=65536))))] ?_ ?_
  ·refine aE ?_
   by_cases c5:((decide (a<0)) || (decide (a>=65536)))=true
   ·rw[if_pos c5]at h
    exact aI 10 c5<|ar 4<|T_nr 2 [4,5] [vu 0,vi 18] hQ h
   rw[if_neg c5]at h
   exact aJ 10 (zZ c5)<|T_k<|aA<|aE<|ar 5<|T_nr 8 [4,5] [vu (ior .u64 (ishl .u64 (IntKind.wrap .u64 a) 3) (IntKind.wrap .u64 b)),vi 0] hQ h
  intro hk
  refine T_n 3 [(0,vi b),(1,vi a),(13,.bool (decide (a<0)))] ?_
  by_cases c3:a<0
  ·have b4:(decide (a<0))=true:=zX c3
   refine bW [(0,vi b),(1,vi a),(13,VT)] (by rw[b4]) ?_
   refine T_nd 4 [13] [(10,VT)]<|zq<|S_bd 10 (b:=true) (v:=((decide (a<0)) || (decide (a>=65536)))) (by simp only[b4,BL]) ?_
   exact hk
  have b4:(decide (a<0))=false:=zQ c3
  refine bW [(0,vi b),(1,vi a),(13,VF)] (by rw[b4]) ?_
  refine T_nd 4 [13] [(10,.bool (decide (a>=65536)))]<|zq<|S_bd 10 (b:=(decide (a>=65536))) (v:=((decide (a<0)) || (decide (a>=65536)))) (by simp only[b4,BL]) ?_
  exact hk
 rw[if_neg c1]at h
 exact aI 6 (congrArg Bool.not (zZ c1))<|ar 2<|T_nr 2 [4,5] [vu 0,vi 1] hQ h
end j3
/-! moraine/word.May -/
namespace eM
def K0:=Func.code f103
end eM
def eM.pt(wv:Int)(H:zV)(R:zv):Prop:=
 jx.C wv H (λv H1=> ∃ra rb rc,v=.tuple #[vi ra,vi rb,vu rc]/\
 cS.C wv H1 (λb H2=> ∃x,b=vi x/\
 if x=0 then(
 R VT H2)
 else
 if x=1 then(
 R (.bool (decide ((ishr .u64 wv 3)<65536))) H2)
 else
 if x=2 then(
 R (.bool (decide ((ishr .u64 wv 3)<65536))) H2)
 else
 if x=3 then(
 R (.bool (decide ((ishr .u64 wv 3)<65536))) H2)
 else
 if x=6 then(
 R (.bool (decide ((ishr .u64 wv 3)<65536))) H2)
 else
 if x=4 then(
 if ra=7 then(
 jG.C (ishr .u64 wv 8) H2 (λd H3=> ∃a,d=.bool a/\
 R (.bool a) H3))
 else
 R (.bool (decide ((ishr .u64 wv 3)<=6))) H2)
 else
 if x=5 then(
 R (.bool (((decide (ra>=1)) && (decide (ra<=13))) && (decide (rb<=62)))) H2)
 else
 R VF H2))
namespace eM
theorem link(h:pt a H R):C a H R:=by
 refine T_en K0 49 func103 ?_
 intro w0 Q hQ
 unfold pt at h
 refine T_su [(0,vu a)]<|ar 0<|T_ed 1 [] []<|ar 1<|T_nd 1 [] [(7,vu a)]<|T_c (some 8) h ?_;clear h
 rintro v H1 ⟨ra,rb,rc,rfl,h⟩
 refine T_pd [7] [(8,.tuple #[vi ra,vi rb,vu rc])]<|T_ed 7 [8] [(3,vi ra),(4,vi rb)]<|T_sz<|ar 2<|T_nd 1 [] [(12,vu a)]<|T_c (some 13) h ?_;clear h
 rintro b H2 ⟨x,rfl,h⟩
 refine T_pd [12] [(13,vi x)]<|T_e<|T_bz 0<|T_sz<|T_bz 7<|T_sz<|T_bz 6<|T_sz<|T_bz 5<|T_bz 4<|T_bz 3<|T_bz 2<|T_sz<|T_bz 1<|T_sz<|T_sz<|ar 3<|T_ed 2 [] [(14,.bool (x==0))] ?_
 by_cases c1:x=0
 ·rw[if_pos c1]at h
  exact aI 14 (zK c1)<|zk 1<|aD<|aD<|aM<|aE<|T_sz<|ar 10<|T_nr 1 [2] [VT] hQ h
 rw[if_neg c1]at h
 refine aJ 14 (zJ c1)<|T_kt<|T_sz<|ar 4<|T_ed 2 [14] [(16,.bool (x==1))] ?_
 by_cases c3:x=1
 ·rw[if_pos c3]at h
  exact aI 16 (zK c3)<|zk 2<|aD<|aD<|zj<|aD<|aM<|aA<|aA<|aA<|aE<|T_sz<|ar 11<|T_nr 4 [2] [.bool (decide ((ishr .u64 a 3)<65536))] hQ h
 rw[if_neg c3]at h
 refine aJ 16 (zJ c3)<|T_kt<|T_sz<|ar 5<|T_ed 2 [16] [(18,.bool (x==2))] ?_
 by_cases c5:x=2
 ·rw[if_pos c5]at h
  exact aI 18 (zK c5)<|zk 3<|aD<|aD<|zj<|aD<|zj<|aM<|aA<|aA<|aE<|T_sz<|ar 11<|T_nr 4 [2] [.bool (decide ((ishr .u64 a 3)<65536))] hQ h
 rw[if_neg c5]at h
 refine aJ 18 (zJ c5)<|T_kt<|T_sz<|ar 6<|T_ed 2 [18] [(20,.bool (x==3))] ?_
 by_cases c7:x=3
 ·rw[if_pos c7]at h
  exact aI 20 (zK c7)<|zk 4<|aD<|aD<|zj<|aD<|zj<|zj<|aM<|aA<|aE<|T_sz<|ar 11<|T_nr 4 [2] [.bool (decide ((ishr .u64 a 3)<65536))] hQ h
 rw[if_neg c7]at h
 refine aJ 20 (zJ c7)<|T_kt<|T_sz<|ar 7<|T_ed 2 [20] [(22,.bool (x==6))] ?_
 by_cases c9:x=6
 ·rw[if_pos c9]at h
  exact aI 22 (zK c9)<|zk 5<|aD<|aD<|zj<|aD<|zj<|zj<|zj<|aM<|aE<|T_sz<|ar 11<|T_nr 4 [2] [.bool (decide ((ishr .u64 a 3)<65536))] hQ h
 rw[if_neg c9]at h
 refine aJ 22 (zJ c9)<|T_kt<|T_sz<|ar 8<|T_ed 2 [22] [(24,.bool (x==4))] ?_
 by_cases c11:x=4
 ·rw[if_pos c11]at h
  refine aI 24 (zK c11)<|zk 6<|aD<|aD<|zj<|aD<|zj<|zj<|zj<|zj<|aD<|aM<|aE<|T_sz<|T_sz<|ar 12<|T_ne 2 [(0,vu a),(32,.bool (ra==7))] ?_
  by_cases c13:ra=7
  ·rw[if_pos c13]at h
   refine aI 32 (zK c13)<|ar 13<|T_n 2 [(34,vu (ishr .u64 a 8))]<|T_c (some 35) h ?_;clear h
   rintro d H3 ⟨wv,rfl,h⟩
   refine⟨[(35,.bool wv)],pk,?_⟩
   exact T_nr 1 [2] [.bool wv] hQ h
  rw[if_neg c13]at h
  exact aJ 32 (zJ c13)<|T_kt<|ar 14<|T_nr 4 [2] [.bool (decide ((ishr .u64 a 3)<=6))] hQ h
 rw[if_neg c11]at h
 refine aJ 24 (zJ c11)<|T_kt<|ar 9<|T_ed 2 [0,13,24] [(26,.bool (x==5))] ?_
 by_cases c15:x=5
 ·rw[if_pos c15]at h
  refine aI 26 (zK c15)<|zk 7<|aD<|zj<|aD<|zj<|zj<|zj<|zj<|aD<|zj<|aD<|aM<|aE<|T_sz<|ar 15 ?_
  refine iT [(2,.bool (((decide (ra>=1)) && (decide (ra<=13))) && (decide (rb<=62))))] ?_ ?_
  ·exact aE<|jF [2] [.bool (((decide (ra>=1)) && (decide (ra<=13))) && (decide (rb<=62)))] hQ h
  intro hk
  refine T_n 3 [(3,vi ra),(4,vi rb),(41,.bool (decide (ra>=1)))] ?_
  by_cases c17:ra>=1
  ·have b18:(decide (ra>=1))=true:=zX c17
   refine bW [(3,vi ra),(4,vi rb),(41,VT)] (by rw[b18]) ?_
   refine T_nd 4 [3,41] [(45,.bool (decide (ra<=13)))] ?_
   by_cases c19:ra<=13
   ·have b20:(decide (ra<=13))=true:=zX c19
    refine N_bd 45 b20<|T_n 4 [(2,.bool (decide (rb<=62)))] ?_
    refine zq<|iU [(2,.bool (((decide (ra>=1)) && (decide (ra<=13))) && (decide (rb<=62))))] (by simp only[b18,b20,BL]) ?_
    exact hk
   have b20:(decide (ra<=13))=false:=zQ c19
   refine N_bd 45 b20<|T_n 4 [(2,VF)] ?_
   refine zq<|iU [(2,.bool (((decide (ra>=1)) && (decide (ra<=13))) && (decide (rb<=62))))] (by simp only[b18,b20,BL]) ?_
   exact hk
  have b18:(decide (ra>=1))=false:=zQ c17
  refine bW [(3,vi ra),(4,vi rb),(41,VF)] (by rw[b18]) ?_
  refine T_n 8 [(2,VF)]<|zq<|iU [(2,.bool (((decide (ra>=1)) && (decide (ra<=13))) && (decide (rb<=62))))] (by simp only[b18,BL]) ?_
  exact hk
 rw[if_neg c15]at h
 exact aJ 26 (zJ c15)<|T_kt<|zk 0<|zj<|aD<|zj<|zj<|zj<|zj<|aD<|zj<|aD<|zj<|aD<|aM<|aE<|ar 16<|T_nr 1 [2] [VF] hQ h
end eM
/-! moraine/word.Header -/
namespace iQ
def K0:=Func.code f105
end iQ
def iQ.pt(a nv b:Int)(H:zV)(R:zv):Prop:=
 if(((((decide (a<1)) || (decide (a>13))) || (decide (nv<0))) || (decide (nv>62))) || (decide (b>=281474976710656)))=true then(
 R (.tuple #[vu 0,vi 1]) H)
 else
 R (.tuple #[vu (ior .u64 (ior .u64 (ior .u64 (ishl .u64 b 16) (ishl .u64 (IntKind.wrap .u64 nv) 8)) (ishl .u64 (IntKind.wrap .u64 a) 3)) 5),vi 0]) H
namespace iQ
theorem link{a nv b:Int}(h:pt a nv b H R):C a nv b H R:=by
 refine T_en K0 37 func105 ?_
 intro w0 Q hQ
 unfold pt at h
 refine T_su [(0,vi a),(1,vi nv),(2,vu b)]<|ar 0<|T_ed 2 [] []<|T_sz<|ar 1 ?_
 refine iT [(0,vi a),(1,vi nv),(2,vu b),(25,.bool (((((decide (a<1)) || (decide (a>13))) || (decide (nv<0))) || (decide (nv>62))) || (decide (b>=281474976710656))))] ?_ ?_
 ·refine aE ?_
  by_cases c9:(((((decide (a<1)) || (decide (a>13))) || (decide (nv<0))) || (decide (nv>62))) || (decide (b>=281474976710656)))=true
  ·rw[if_pos c9]at h
   exact aI 25 c9<|ar 2<|T_nr 2 [6,7] [vu 0,vi 1] hQ h
  rw[if_neg c9]at h
  exact aJ 25 (zZ c9)<|T_kt<|ar 3<|T_nr 13 [6,7] [vu (ior .u64 (ior .u64 (ior .u64 (ishl .u64 b 16) (ishl .u64 (IntKind.wrap .u64 nv) 8)) (ishl .u64 (IntKind.wrap .u64 a) 3)) 5),vi 0] hQ h
 intro hk
 refine T_n 3 [(0,vi a),(1,vi nv),(2,vu b),(10,.bool (decide (a<1)))] ?_
 by_cases c1:a<1
 ·have b2:(decide (a<1))=true:=zX c1
  refine bW [(0,vi a),(1,vi nv),(2,vu b),(10,VT)] (by rw[b2]) ?_
  refine T_nd 15 [10] [(25,VT)]<|zq<|S_bd 25 (b:=true) (v:=(((((decide (a<1)) || (decide (a>13))) || (decide (nv<0))) || (decide (nv>62))) || (decide (b>=281474976710656)))) (by simp only[b2,BL]) ?_
  exact hk
 have b2:(decide (a<1))=false:=zQ c1
 refine bW [(0,vi a),(1,vi nv),(2,vu b),(10,VF)] (by rw[b2]) ?_
 refine T_nd 4 [10] [(14,.bool (decide (a>13)))] ?_
 by_cases c3:a>13
 ·have b4:(decide (a>13))=true:=zX c3
  refine N_bd 14 b4<|T_nd 11 [14] [(25,VT)] ?_
  refine zq<|S_bd 25 (b:=true) (v:=(((((decide (a<1)) || (decide (a>13))) || (decide (nv<0))) || (decide (nv>62))) || (decide (b>=281474976710656)))) (by simp only[b2,b4,BL]) ?_
  exact hk
 have b4:(decide (a>13))=false:=zQ c3
 refine N_bd 14 b4<|T_nd 4 [14] [(18,.bool (decide (nv<0)))] ?_
 by_cases c5:nv<0
 ·have b6:(decide (nv<0))=true:=zX c5
  refine N_bd 18 b6<|T_nd 7 [18] [(25,VT)] ?_
  refine zq<|S_bd 25 (b:=true) (v:=(((((decide (a<1)) || (decide (a>13))) || (decide (nv<0))) || (decide (nv>62))) || (decide (b>=281474976710656)))) (by simp only[b2,b4,b6,BL]) ?_
  exact hk
 have b6:(decide (nv<0))=false:=zQ c5
 refine N_bd 18 b6<|T_nd 4 [18] [(22,.bool (decide (nv>62)))] ?_
 by_cases c7:nv>62
 ·have b8:(decide (nv>62))=true:=zX c7
  refine N_bd 22 b8<|T_nd 3 [22] [(25,VT)] ?_
  refine zq<|S_bd 25 (b:=true) (v:=(((((decide (a<1)) || (decide (a>13))) || (decide (nv<0))) || (decide (nv>62))) || (decide (b>=281474976710656)))) (by simp only[b2,b4,b6,b8,BL]) ?_
  exact hk
 have b8:(decide (nv>62))=false:=zQ c7
 refine N_bd 22 b8<|T_nd 3 [22] [(25,.bool (decide (b>=281474976710656)))] ?_
 refine zq<|S_bd 25 (b:=(decide (b>=281474976710656))) (v:=(((((decide (a<1)) || (decide (a>13))) || (decide (nv<0))) || (decide (nv>62))) || (decide (b>=281474976710656)))) (by simp only[b2,b4,b6,b8,BL]) ?_
 exact hk
end iQ
/-! moraine/word.place -/
namespace jO
def K0:=Func.code f111
end jO
def jO.pt(a:Int)(H:zV)(R:zv):Prop:=
 R (.bool (((decide (a>=1)) && (decide (a<=3))) || (a==6))) H
namespace jO
theorem link(h:pt a H R):C a H R:=by
 refine T_en K0 13 func111 ?_
 intro w0 Q hQ
 unfold pt at h
 refine T_su [(0,vi a)]<|ar 0<|T_ed 1 [] []<|ar 1 ?_
 refine iT [(2,.bool (((decide (a>=1)) && (decide (a<=3))) || (a==6)))] ?_ ?_
 ·exact aE<|jF [2] [.bool (((decide (a>=1)) && (decide (a<=3))) || (a==6))] hQ h
 intro hk
 refine T_n 3 [(0,vi a),(5,.bool (decide (a>=1)))] ?_
 by_cases c1:a>=1
 ·have b2:(decide (a>=1))=true:=zX c1
  refine bW [(0,vi a),(5,VT)] (by rw[b2]) ?_
  refine T_nd 4 [5] [(9,.bool (decide (a<=3)))] ?_
  by_cases c3:a<=3
  ·have b4:(decide (a<=3))=true:=zX c3
   refine N_bd 9 b4<|T_n 4 [(2,VT)] ?_
   refine zq<|iU [(2,.bool (((decide (a>=1)) && (decide (a<=3))) || (a==6)))] (by simp only[b2,b4,BL]) ?_
   exact hk
  have b4:(decide (a<=3))=false:=zQ c3
  refine N_bd 9 b4<|T_n 4 [(2,.bool (a==6))] ?_
  refine zq<|iU [(2,.bool (((decide (a>=1)) && (decide (a<=3))) || (a==6)))] (by simp only[b2,b4,BL]) ?_
  exact hk
 have b2:(decide (a>=1))=false:=zQ c1
 refine bW [(0,vi a),(5,VF)] (by rw[b2]) ?_
 refine T_n 8 [(2,.bool (a==6))]<|zq<|iU [(2,.bool (((decide (a>=1)) && (decide (a<=3))) || (a==6)))] (by simp only[b2,BL]) ?_
 exact hk
end jO
/-! moraine/word.Head -/
namespace ke
def K0:=Func.code f130
end ke
def ke.pt(wv:Int)(H:zV)(R:zv):Prop:=
 cS.C wv H (λv H1=> ∃x,v=vi x/\
 if x=5 then(
 eM.C wv H1 (λb H2=> ∃a,b=.bool a/\
 if a=true then(
 jx.C wv H2 (λd H3=> ∃ra rb rc,d=.tuple #[vi ra,vi rb,vu rc]/\
 R (.tuple #[vi ra,vi rb,vu rc,VT]) H3))
 else
 R (.tuple #[vi 0,vi 0,vu 0,VF]) H2))
 else
 R (.tuple #[vi 0,vi 0,vu 0,VF]) H1)
namespace ke
theorem link(h:pt a H R):C a H R:=by
 refine T_en K0 23 func130 ?_
 intro w0 Q hQ
 unfold pt at h
 refine T_su [(0,vu a)]<|ar 0<|T_ed 4 [] []<|T_sz<|ar 1<|T_nd 1 [] [(6,vu a)]<|T_c (some 7) h ?_;clear h
 rintro v H1 ⟨x,rfl,h⟩
 refine T_pd [6] [(7,vi x)]<|T_nd 2 [7] [(9,.bool (x !=5))] ?_
 by_cases c1:x=5
 ·rw[if_pos c1]at h
  refine N_bd 9 (bne_eq_false_iff_eq.mpr c1)<|T_nd 1 [] [(10,vu a)] ?_
  refine T_c (some 11) h ?_;clear h
  rintro b H2 ⟨wv,rfl,h⟩
  refine T_pd [10] [(11,.bool wv)]<|T_ed 2 [9,11] [(13,.bool (!wv))] ?_
  by_cases c3:wv=true
  ·rw[if_pos c3]at h
   refine aJ 13 (congrArg Bool.not (c3))<|T_kt<|ar 3<|T_n 1 [(15,vu a)]<|T_c (some 16) h ?_;clear h
   rintro d H3 ⟨ra,rb,rc,rfl,h⟩
   refine⟨[(16,.tuple #[vi ra,vi rb,vu rc])],pk,?_⟩
   exact T_ne 7 [(2,vi ra),(3,vi rb),(4,vu rc)]<|ar 4<|T_nr 7 [2,3,4,5] [vi ra,vi rb,vu rc,VT] hQ h
  rw[if_neg c3]at h
  exact aI 13 (congrArg Bool.not (zZ c3))<|ar 2<|T_nr 4 [2,3,4,5] [vi 0,vi 0,vu 0,VF] hQ h
 rw[if_neg c1]at h
 exact N_bd 9 (bne_iff_ne.mpr c1)<|T_ed 4 [9] [(13,VT)]<|T_tz 13<|ar 2<|T_nr 4 [2,3,4,5] [vi 0,vi 0,vu 0,VF] hQ h
end ke
/-! moraine/word.parts -/
namespace jx
def K0:=Func.code f132
end jx
def jx.pt(wv:Int)(H:zV)(R:zv):Prop:=
 ∀b H1,b=H.size->H1=H.push (.cells #[vu wv] 40)->
 gJ.C 3 5 (some (ad b)) H1 (λv H2=> ∃x,v=vu x/\
 gJ.C 8 8 (some (ad b)) H2 (λe H3=> ∃a,e=vu a/\
 gJ.C 16 48 (some (ad b)) H3 (λf H4=> ∃d,f=vu d/\
 R (.tuple #[vi (zY x),vi (zY a),vu d]) H4)))
namespace jx
theorem link(h:pt a H R):C a H R:=by
 refine T_en K0 15 func132 ?_
 intro w0 Q hQ
 unfold pt zY at h
 refine T_su [(0,vu a)]<|ar 0<|T_nw (some 1) (λb=>vp (pa b)) (.cells #[vu a] 40) ?_
 intro b H1 e1 e2
 replace h:=h b H1 e1 e2
 refine⟨[(1,vp (pa b))],pk,?_⟩
 refine T_ed 3 [] []<|ar 1<|T_ne 2 [(5,.func (.func 148) #[] #[vp (pa b)])]<|ar 2<|T_nd 1 [] [(7,.func (.func 148) #[] #[vp (pa b)])]<|T_c (some 8) h ?_;clear h
 rintro v H2 ⟨x,rfl,h⟩
 refine T_pd [7] [(8,vu x)]<|T_nd 2 [8] [(9,vi (zY x)),(10,.func (.func 148) #[] #[vp (pa b)])]<|T_c (some 11) h ?_;clear h
 rintro e H3 ⟨wv,rfl,h⟩
 refine T_pd [10] [(11,vu wv)]<|T_nd 2 [5,11] [(12,vi (zY wv)),(13,.func (.func 148) #[] #[vp (pa b)])]<|T_c (some 14) h ?_;clear h
 rintro f H4 ⟨d,rfl,h⟩
 exact T_pd [13] [(14,vu d)]<|T_nr 3 [2,3,4] [vi (zY x),vi (zY wv),vu d] hQ h
end jx
/-! moraine/word.letter -/
namespace jG
def K0:=Func.code f133
end jG
def jG.pt(c:Int)(H:zV)(R:zv):Prop:=
 R (.bool ((decide (c<=1114111)) && ((decide (c<55296)) || (decide (c>57343))))) H
namespace jG
theorem link(h:pt a H R):C a H R:=by
 refine T_en K0 13 func133 ?_
 intro w0 Q hQ
 unfold pt at h
 refine T_su [(0,vu a)]<|ar 0<|T_ed 1 [] []<|ar 1 ?_
 refine iT [(2,.bool ((decide (a<=1114111)) && ((decide (a<55296)) || (decide (a>57343)))))] ?_ ?_
 ·exact aE<|jF [2] [.bool ((decide (a<=1114111)) && ((decide (a<55296)) || (decide (a>57343))))] hQ h
 intro hk
 refine T_n 3 [(0,vu a),(5,.bool (decide (a<=1114111)))] ?_
 by_cases c1:a<=1114111
 ·have b2:(decide (a<=1114111))=true:=zX c1
  refine bW [(0,vu a),(5,VT)] (by rw[b2]) ?_
  refine T_nd 3 [] [(8,.bool (decide (a<55296)))] ?_
  by_cases c3:a<55296
  ·have b4:(decide (a<55296))=true:=zX c3
   refine N_bd 8 b4<|T_n 5 [(2,VT)] ?_
   refine zq<|iU [(2,.bool ((decide (a<=1114111)) && ((decide (a<55296)) || (decide (a>57343)))))] (by simp only[b2,b4,BL]) ?_
   exact hk
  have b4:(decide (a<55296))=false:=zQ c3
  refine N_bd 8 b4<|T_n 5 [(2,.bool (decide (a>57343)))] ?_
  refine zq<|iU [(2,.bool ((decide (a<=1114111)) && ((decide (a<55296)) || (decide (a>57343)))))] (by simp only[b2,b4,BL]) ?_
  exact hk
 have b2:(decide (a<=1114111))=false:=zQ c1
 refine bW [(0,vu a),(5,VF)] (by rw[b2]) ?_
 refine T_n 8 [(2,VF)]<|zq<|iU [(2,.bool ((decide (a<=1114111)) && ((decide (a<55296)) || (decide (a>57343)))))] (by simp only[b2,BL]) ?_
 exact hk
end jG
/-! moraine/word.parts.1 -/
namespace gJ
def K0:=Func.code f148
end gJ
def gJ.pt(a b:Int)(d:zW)(H:zV)(R:zv):Prop:=
 ∃e,d=some e/\
 ∃x,hat H e=some (vu x)/\
 (0<=a)/\
 (0<=b)/\
 R (vu (iand .u64 (ishr .u64 x a) (IntKind.wrap .u64 ((ishl .u64 1 b)-1)))) H
namespace gJ
theorem link{b:Int}{d:zW}(h:pt a b d H R):C a b d H R:=by
 refine T_en K0 13 func148 ?_
 intro w0 Q hQ
 unfold pt at h
 refine T_su [(0,vi a),(1,vi b),(2,vp d)]<|ar 0<|T_ed 1 [] []<|T_sz<|oJ 1 ?_
 obtain⟨e,rfl,x,q1,h⟩:=h
 refine nh (some 6) 40 q1 [2] [(6,vu x)]<|T_q1 7 (vi a) [0] ?_
 obtain⟨q2,h⟩:=h
 refine Q_op (some 8) (binN .shr 35 (vu x) (vi a)) (vu (ishr .u64 x a)) (λ_=>by kernel_rfl) (λw _=>tW (P:=prog) (t:=35) (k:=.u64) (k':=.i64) (x:=x) (y:=a) q2 w) [(1,vi b),(8,vu (ishr .u64 x a))] pk ?_
 refine T_q (some 9) (vi b) [(8,vu (ishr .u64 x a)),(9,vi b)] ?_
 obtain⟨q3,h⟩:=h
 refine Q_op (some 10) (binN .shl 35 (vu 1) (vi b)) (vu (ishl .u64 1 b)) (λ_=>by kernel_rfl) (λw _=>v6 (P:=prog) (t:=35) (k:=.u64) (k':=.i64) (x:=1) (y:=b) q3 w) [(8,vu (ishr .u64 x a)),(10,vu (ishl .u64 1 b))] pk ?_
 exact T_q (some 11) (vu (IntKind.wrap .u64 ((ishl .u64 1 b)-1))) [(8,vu (ishr .u64 x a)),(11,vu (IntKind.wrap .u64 ((ishl .u64 1 b)-1)))]<|T_q1 12 (vu (iand .u64 (ishr .u64 x a) (IntKind.wrap .u64 ((ishl .u64 1 b)-1)))) [8,11]<|T_q1 5 (vu (iand .u64 (ishr .u64 x a) (IntKind.wrap .u64 ((ishl .u64 1 b)-1)))) [12]<|mv [(5,vu (iand .u64 (ishr .u64 x a) (IntKind.wrap .u64 ((ishl .u64 1 b)-1))))] sk<|T_qe<|jF [5] [vu (iand .u64 (ishr .u64 x a) (IntKind.wrap .u64 ((ishl .u64 1 b)-1)))] hQ h
end gJ
