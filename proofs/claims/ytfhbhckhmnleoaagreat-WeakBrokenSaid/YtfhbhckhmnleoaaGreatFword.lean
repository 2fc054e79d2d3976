/- Printed: what each function asks, and that it is sound. -/
import Derived.Test.YtfhbhckhmnleoaaGreatFnsC
set_option linter.unusedSimpArgs false
set_option linter.unusedVariables false
set_option maxRecDepth 100000
set_option maxHeartbeats 1000000
noncomputable section
namespace Go.Proofs.YtfhbhckhmnleoaaGreat
open Go Go.Proofs.Tryz
variable{H:zV}{a:zW}{b:zj}
/-! moraine/trace.Start -/
namespace eF
def K0:=Func.code f12
def K2:=cb K0
def K4:=cb K2
def K12:=cb K4
def K13:=ca K12
def K14:=cb K12
def K16:=cb K13
def K17:=ca K16
def K18:=ca K17
def K31:=cb K14
def K33:=cb K31
def K41:=cb K33
def K42:=ca K41
def K43:=cb K41
def K45:=cb K42
def K46:=ca K45
def K47:=ca K46
def K59:=ca K43
def K62:=cb K59
def K63:=ca K62
def K64:=ca K63
def K66:=cb K64
def K68:=cb K66
def K71:=ca K68
def K73:=ca K71
def K75:=cb K73
def K77:=cb K75
end eF
def eF.pt(hv:zW)(g d o:Int)(H:zV)(R:zj):Prop:=
 eK hv (
 R (.tuple #[vp none,vi 1]) H) (λf=>
 ∃x,hat H f=some (vp x)/\
 eK x (
 R (.tuple #[vp none,vi 1]) H) (λxA=>
 if(((((decide (g<0)) || (decide (g>=4))) || (decide (d<g))) || (decide (d>(zY (g+1))))) || (decide (o<0)))=true then(
 R (.tuple #[vp none,vi 1]) H)
 else
 ∃(bt:zW->Nat->Nat->zk) (m19:zW->Nat->Nat->Int->zV->Nat),bt none 0 0 0 H/\ ∀e gensN gensC s54 H1,bt e gensN gensC s54 H1->
 if s54< (zY (g+1))then(
 ∀b H2,b=H1.size->H2=H1.push (.cells #[vi s54] 3)->
 fO 1 3 8 [vi 0] e gensN gensC (some (ad b)) 1 H2 (λap bc H3=>
 (bt ap (gensN+1) bc (zY (s54+1)) H3/\m19 ap (gensN+1) bc (zY (s54+1)) H3<m19 e gensN gensC s54 H1)))
 else
 ∃b4,hat H1 f=some (vp b4)/\
 ∃b2,b4=some b2/\
 ∃br,hat H1 b2=some (vp br)/\
 ∃bx,br=some bx/\
 ∃a9,hat H1 bx=some (vp a9)/\
 bW.C a9 e gensN gensC H1 (λv H4=> ∃xB xN xC,v=vs xB xN xC/\
 ∃bz,hat H4 f=some (vp bz)/\
 ∃b1,bz=some b1/\
 ∃b6,hat H4 b1=some (vp b6)/\
 ∃b0,b6=some b0/\
 ∃bp,hat H4 b0=some (vp bp)/\
 ef.C bp H4 (λcj H5=> ∃a6,cj=vi a6/\
 if(zY ((zY (a6-(zY (2*(xN:Int)))))-8))<o then(
 R (.tuple #[vp none,vi 2]) H5)
 else
 ∀a5 H6,a5=H5.size->H6=H5.push (.map #[] 0)->
 ∀bh H7,bh=H6.size->H7=H6.push (.map #[] 0)->
 ∀m H8,m=H7.size->H8=H7.push (.cells ([vq f,vi d]++List.replicate 1024 (vi 0)++[.map (some a5),.map (some bh),vN,vi 0]:List Value).toArray 106)->
 ∃(bs:zk) (m48:Int->zV->Nat),bs 0 H8/\ ∀y H9,bs y H9->
 if y< (xN:Int)then(
 ∃ao,xB=some ao/\
 zv y xN/\
 ∃am,hat H9 (ao.add (Int.toNat y*1))=some (vi am)/\
 zv am 1024/\
 (aL H9 (((ad m).add 2).add (Int.toNat am*1)) 0 1)/\ ∀bw,bw=aN H9 (((ad m).add 2).add (Int.toNat am*1)) [vi 1] 0->
 (bs (zY (y+1)) bw/\m48 (zY (y+1)) bw<m48 y H9))
 else
 ∃bn,hat H9 f=some (vp bn)/\
 ∃ba,bn=some ba/\
 ∃be,hat H9 ba=some (vp be)/\
 ∃bl,be=some bl/\
 ∃aw,hat H9 bl=some (vp aw)/\
 ∀bo H11,bo=H9.size->H11=H9.push (.cells #[vi d] 3)->
 bW.C aw (some (ad bo)) 1 1 H11 (λch ci=> ∃aq j r,ch=vs aq j r/\
 ∃(bu:zk) (m65:Int->zV->Nat),bu 0 ci/\ ∀p H13,bu p H13->
 if p< (j:Int)then(
 ∃s,aq=some s/\
 zv p j/\
 ∃q,hat H13 (s.add (Int.toNat p*1))=some (vi q)/\
 ∃bj,hat H13 f=some (vp bj)/\
 ∃bf,bj=some bf/\
 ∃a8,hat H13 bf=some (vp a8)/\
 ∃bm,a8=some bm/\
 ∃az,hat H13 bm=some (vp az)/\
 aV.C az q H13 (λcg cd=> ∃an ai a2 af ab ae ac rb,cg=.tuple #[.agg #[vi an,vi ai,vi a2,vi af,vi ab,vi ae,vi ac],.bool rb]/\
 ∀aa H15,aa=cd.size->H15=cd.push (.cells #[vi 0,vi 0,vi 0,vi 0,vi 0,vi 0,vi 0] 108)->
 (aL H15 (ad aa) 0 7)/\ ∀ay,ay=aN H15 (ad aa) [vi an,vi ai,vi a2,vi af,vi ab,vi ae,vi ac] 0->
 ∃ag,hat ay ((ad m).add 1026)=some (.map ag)/\
 ∃aj,hat ay ((ad m).add 1027)=some (.map aj)/\
 ∃ak,hat ay ((ad aa).add 2)=some (vi ak)/\
 ∃ah,hat ay ((ad aa).add 2)=some (vi ah)/\
 ∃mr,ag=some mr/\
 ∃es cl ks,ay[mr]?=some (.map es cl)/\Ents (dc .i64) es.toList ks/\Born es cl/\
 ∀a4 cl_2 stamp x_21 H17,H17=bH ay mr (.map a4 cl_2)->Ents (dc .i64) a4.toList (mput ks q x_21)->Born a4 cl_2->hM a4 (vi q) stamp->
 aS H17 ((ad aa).add 2) 0 [vi ak]/\aS H17 ((ad aa).add 2) 0 [vi ah]/\ ∃bg cl_3 ks_2 k,H17[mr]?=some (.map bg cl_3)/\Ents (dc .i64) bg.toList ks_2/\Born bg cl_3/\hM bg (vi k) stamp/\
 ∀bb H18,H18=bH H17 mr (.map bb cl_3)->Ents (dc .i64) bb.toList (mput ks_2 k (vi ak))->Born bb cl_3->
 aS H18 ((ad aa).add 2) 0 [vi ah]/\ ∃al,aj=some al/\
 ∃bq cl_4 ks_3,H18[al]?=some (.map bq cl_4)/\Ents (dc .i64) bq.toList ks_3/\Born bq cl_4/\
 ∀a3 cl_5 stamp_2 x_22 H19,H19=bH H18 al (.map a3 cl_5)->Ents (dc .i64) a3.toList (mput ks_3 q x_22)->Born a3 cl_5->hM a3 (vi q) stamp_2->
 aS H19 ((ad aa).add 2) 0 [vi ah]/\ ∃bd cl_6 ks_4 k_2,H19[al]?=some (.map bd cl_6)/\Ents (dc .i64) bd.toList ks_4/\Born bd cl_6/\hM bd (vi k_2) stamp_2/\
 ∀bi H20,H20=bH H19 al (.map bi cl_6)->Ents (dc .i64) bi.toList (mput ks_4 k_2 (vi ah))->Born bi cl_6->
 (bu (zY (p+1)) H20/\m65 (zY (p+1)) H20<m65 p H13)))
 else
 ∃a7,hat H13 f=some (vp a7)/\
 ∃bk,a7=some bk/\
 ∃a0,hat H13 bk=some (vp a0)/\
 cL.C a0 e gensN gensC H13 (λ_ ce=>
 ∃a1,hat ce f=some (vp a1)/\
 cU.C a1 g ce (λck cc=> ∃ax av au,ck=vs ax av au/\
 (aL cc ((ad m).add 1028) 0 1)/\ ∀b8,b8=aN cc ((ad m).add 1028) [vs ax av au] 0->
 R (.tuple #[vq (ad m),vi 0]) b8)))))))
namespace eF
theorem link{g d o:Int}(h:pt a g d o H b):C a g d o H b:=by
 refine T_en K0 181 func12 ?_
 intro w0 Q hQ
 unfold pt zY at h
 refine T_su [(0,vp a),(1,vi g),(2,vi d),(3,vi o)]<|ar 0<|T_ed 2 [] []<|T_sz<|ar 1<|T_nd 1 [] [(20,vp a)] ?_
 rcases a with _ | f
 ·rw[onPtr_none]at h
  exact T_ed 31 [0,20] [(0,vp none),(51,vT)]<|T_tz 51<|ar 2<|T_nr 2 [8,9] [vp none,vi 1] hQ h
 rw[onPtr_some]at h
 refine T_nd 5 [0,20] [(0,vq f),(22,vF),(25,vq f)] ?_
 obtain⟨x,q1,h⟩:=h
 refine T_l1 26 49 q1 [25] ?_
 rcases x with _ | xA
 ·rw[onPtr_none]at h
  exact T_ed 25 [22,26] [(51,vT)]<|T_tz 51<|ar 2<|T_nr 2 [8,9] [vp none,vi 1] hQ h
 rw[onPtr_some]at h
 refine T_nd 7 [22,26] [(33,.bool (decide (g<0)))] ?_
 refine fe [(0,vq f),(1,vi g),(2,vi d),(3,vi o),(51,.bool (((((decide (g<0)) || (decide (g>=4))) || (decide (d<g))) || (decide (d>(zY (g+1))))) || (decide (o<0))))] ?_ ?_
 ·refine aC ?_
  revert h;refine iO_ (λc10 h=>?_) (λc10 h=>?_)
  ·exact aI 51 c10<|ar 2<|T_nr 2 [8,9] [vp none,vi 1] hQ h
  refine aJ 51 (zZ c10)<|T_kt<|ar 3<|T_ne 1 [(0,vq f),(1,vi g),(2,vi d),(3,vi o),(10,vN)]<|T_sz<|ar 4<|T_ed 3 [] [(53,vi (zY (g+1))),(54,vi 0)]<|T_bz 0 ?_
  obtain⟨bt,m19,i12,i13⟩:=h
  refine db (x:=K18) (σ:=zW×Nat×Nat×Int) (λs_=> [(0,vq f),(1,vi g),(2,vi d),(3,vi o),(10,vs s_.1 s_.2.1 s_.2.2.1),(53,vi (zY (g+1))),(54,vi s_.2.2.2)]) (λs_ H=>bt s_.1 s_.2.1 s_.2.2.1 s_.2.2.2 H) (λs_ H=>m19 s_.1 s_.2.1 s_.2.2.1 s_.2.2.2 H) ((none,0,0,0):zW×Nat×Nat×Int) (by kernel_rfl) i12 sk ?_
  rintro⟨e,gensN,gensC,s54⟩ H1 i14
  have h:=i13 e gensN gensC s54 H1 i14
  refine T_su [(0,vq f),(1,vi g),(2,vi d),(3,vi o),(10,vs e gensN gensC),(53,vi (zY (g+1))),(54,vi s54)]<|ar 5<|T_ed 1 [] [(55,.bool (decide (s54< (zY (g+1)))))]<|T_sz ?_
  revert h;refine iO_ (λc15 h=>?_) (λc15 h=>?_)
  ·refine aI 55 (zX c15)<|T_kt<|T_sz<|T_bz 1<|ar 6<|T_ed 2 [55] [(11,vi s54)]<|T_rz 7<|T_nd 2 [10,11] [(57,vs e gensN gensC),(58,vi s54)]<|T_nw (some 59) (λhv=>vs (pa hv) 1 1) (.cells #[vi s54] 3) ?_
   intro hv H2 e17 e18
   replace h:=h hv H2 e17 e18
   refine T_pd [58] [(59,vs (pa hv) 1 1)]<|N_op (some 60) (fy #[75,75] 75 #[vs e gensN gensC,vs (pa hv) 1 1]) _ (λ_=>by kernel_rfl) (fB (T:=3) (sz:=1) (bytes:=8) (zero:=(vi 0:Value)) underlying75 underlying75 rfl (show prog.info? 3=some t3 from by kernel_rfl) (by kernel_rfl) (by kernel_rfl) (by decide) (by kernel_rfl) (by first | exact h | (simpa only[Value.cells,List.toList_toArray]using h))) ?_;clear h
   rintro _ H3 ⟨ap,bc,rfl,h⟩
   exact T_pd [57,59] [(60,vs ap (gensN+1) bc)]<|T_nd 1 [60] [(10,vs ap (gensN+1) bc)]<|zq<|aD<|aC<|T_rz 8<|T_ed 2 [54] [(54,vi (zY (s54+1)))]<|aR ((ap,(gensN+1),bc,(zY (s54+1))):zW×Nat×Nat×Int) sk h
  refine aJ 55 (zQ c15)<|zz 0<|aA<|aA<|aM<|aC<|ar 9<|T_nd 3 [53,54,55] [(64,vq f)] ?_
  obtain⟨b4,q19,h⟩:=h
  refine T_l1 65 49 q19 [64] ?_
  obtain⟨b2,rfl,h⟩:=h
  refine T_nd 2 [65] [(67,vq b2)] ?_
  obtain⟨br,q20,h⟩:=h
  refine T_l1 68 52 q20 [67] ?_
  obtain⟨bx,rfl,h⟩:=h
  refine T_nd 2 [68] [(70,vq bx)] ?_
  obtain⟨a9,q21,h⟩:=h
  refine T_l1 71 78 q21 [70]<|T_nd 1 [] [(72,vs e gensN gensC)]<|T_c (some 73) h ?_;clear h
  rintro v H4 ⟨xB,xN,xC,rfl,h⟩
  refine T_pd [71,72] [(73,vs xB xN xC)]<|T_ed 1 [73] [(12,vs xB xN xC)]<|T_sz<|ar 10<|T_nd 3 [] [(76,vq f)] ?_
  obtain⟨bz,q22,h⟩:=h
  refine T_l1 77 49 q22 [76] ?_
  obtain⟨b1,rfl,h⟩:=h
  refine T_nd 2 [77] [(79,vq b1)] ?_
  obtain⟨b6,q23,h⟩:=h
  refine T_l1 80 52 q23 [79] ?_
  obtain⟨b0,rfl,h⟩:=h
  refine T_nd 2 [80] [(82,vq b0)] ?_
  obtain⟨bp,q24,h⟩:=h
  refine T_l1 83 78 q24 [82]<|T_c (some 84) h ?_;clear h
  rintro cj H5 ⟨a6,rfl,h⟩
  refine T_pd [83] [(84,vi a6)]<|T_ed 7 [3,84] [(91,.bool (decide ((zY ((zY (a6-(zY (2*(xN:Int)))))-8))<o)))] ?_
  revert h;refine iO_ (λc25 h=>?_) (λc25 h=>?_)
  ·exact aI 91 (zX c25)<|ar 11<|T_nr 2 [8,9] [vp none,vi 2] hQ h
  refine aJ 91 (zQ c25)<|T_kt<|ar 12<|T_nd 2 [91] [(92,vq f),(93,vi d)]<|T_nw (some 94) (λhv=> .map (some hv)) (.map #[] 0) ?_
  intro a5 H6 e27 e28
  replace h:=h a5 H6 e27 e28
  refine T_pd [] [(94,.map (some a5))]<|T_nw (some 95) (λhv=> .map (some hv)) (.map #[] 0) ?_
  intro bh H7 e29 e30
  replace h:=h bh H7 e29 e30
  refine T_pd [] [(95,.map (some bh))]<|T_nd 1 [92,93,94,95] [(96,.agg ([vq f,vi d]++List.replicate 1024 (vi 0)++[.map (some a5),.map (some bh),vN,vi 0]:List Value).toArray)]<|T_nw (some 97) (λhv=>vp (pa hv)) (.cells ([vq f,vi d]++List.replicate 1024 (vi 0)++[.map (some a5),.map (some bh),vN,vi 0]:List Value).toArray 106) ?_
  intro m H8 e31 e32
  replace h:=h m H8 e31 e32
  refine T_pd [96] [(97,vp (pa m))]<|T_ed 1 [97] [(13,vp (pa m))]<|T_sz<|ar 13<|T_ed 3 [12] [(98,vs xB xN xC),(99,vi xN),(100,vi 0)]<|T_bz 2 ?_
  obtain⟨bs,m48,i33,i34⟩:=h
  refine db (x:=K47) (σ:=Int) (λs_=> [(0,vq f),(1,vi g),(2,vi d),(10,vs e gensN gensC),(13,vp (pa m)),(98,vs xB xN xC),(99,vi xN),(100,vi s_)]) (λs_ H=>bs s_ H) (λs_ H=>m48 s_ H) (0:Int) (by kernel_rfl) i33 sk ?_
  rintro y H9 i35
  have h:=i34 y H9 i35
  refine T_su [(0,vq f),(1,vi g),(2,vi d),(10,vs e gensN gensC),(13,vp (pa m)),(98,vs xB xN xC),(99,vi xN),(100,vi y)]<|ar 14<|T_ed 1 [] [(101,.bool (decide (y< (xN:Int))))]<|T_sz ?_
  revert h;refine iO_ (λc36 h=>?_) (λc36 h=>?_)
  ·refine aI 101 (zX c36)<|T_kt<|T_sz<|T_bz 3<|ar 15<|T_ud [101] [] ?_
   obtain⟨ao,rfl,q38,h⟩:=h
   refine T_xd (some 102) 75 3 1 ao xN xC .i64 y underlying75 q38.1 q38.2 [98] [(98,vs (some ao) xN xC),(102,vq (ao.add (Int.toNat y*1)))] ?_
   obtain⟨am,q39,h⟩:=h
   refine T_l1 103 3 q39 [102]<|T_ed 1 [103] [(15,vi am)]<|T_rz 16<|T_nd 4 [15] [(105,vi am),(107,vq ((ad m).add 2))] ?_
   obtain⟨q40,h⟩:=h
   refine T_v1 108 (bE 103 (vq ((ad m).add 2)) (vi am)) (vq (((ad m).add 2).add (Int.toNat am*1))) (λw _=>bF (P:=prog) (t:=103) (elem:=3) (sz:=1) (n:=1024) (a:=((ad m).add 2)) (k:=.i64) (i:=am) underlying103 (λ_=>by kernel_rfl) q40.1 q40.2 w) [105,107] ?_
   obtain⟨q42,h⟩:=h
   refine gD 3 (vi 1) q42 ?_
   intro bw e41
   replace h:=h bw e41
   exact T_pd [108] []<|zq<|aD<|aC<|T_rz 17<|T_ed 2 [100] [(100,vi (zY (y+1)))]<|aR ((zY (y+1)):Int) sk h
  refine aJ 101 (zQ c36)<|zz 2<|aA<|aA<|aM<|aC<|T_sz<|ar 18<|T_nd 3 [98,99,100,101] [(112,vq f)] ?_
  obtain⟨bn,q43,h⟩:=h
  refine T_l1 113 49 q43 [112] ?_
  obtain⟨ba,rfl,h⟩:=h
  refine T_nd 2 [113] [(115,vq ba)] ?_
  obtain⟨be,q44,h⟩:=h
  refine T_l1 116 52 q44 [115] ?_
  obtain⟨bl,rfl,h⟩:=h
  refine T_nd 2 [116] [(118,vq bl)] ?_
  obtain⟨aw,q45,h⟩:=h
  refine T_l1 119 78 q45 [118]<|T_nd 1 [2] [(120,vi d)]<|T_nw (some 121) (λhv=>vs (pa hv) 1 1) (.cells #[vi d] 3) ?_
  intro bo H11 e46 e47
  replace h:=h bo H11 e46 e47
  refine T_pd [120] [(121,vs (pa bo) 1 1)]<|T_c (some 122) h ?_;clear h
  rintro ch ci ⟨aq,j,r,rfl,h⟩
  refine T_pd [119,121] [(122,vs aq j r)]<|T_ed 2 [] [(123,vi j),(124,vi 0)]<|T_bz 4 ?_
  obtain⟨bu,m65,i48,i49⟩:=h
  refine db (x:=K64) (σ:=Int) (λs_=> [(0,vq f),(1,vi g),(10,vs e gensN gensC),(13,vp (pa m)),(122,vs aq j r),(123,vi j),(124,vi s_)]) (λs_ H=>bu s_ H) (λs_ H=>m65 s_ H) (0:Int) (by kernel_rfl) i48 sk ?_
  rintro p H13 i50
  have h:=i49 p H13 i50
  refine T_su [(0,vq f),(1,vi g),(10,vs e gensN gensC),(13,vp (pa m)),(122,vs aq j r),(123,vi j),(124,vi p)]<|ar 19<|T_ed 1 [] [(125,.bool (decide (p< (j:Int))))]<|T_sz ?_
  revert h;refine iO_ (λc51 h=>?_) (λc51 h=>?_)
  ·refine aI 125 (zX c51)<|T_kt<|T_sz<|T_bz 5<|ar 20<|T_ud [125] [] ?_
   obtain⟨s,rfl,q53,h⟩:=h
   refine T_xd (some 126) 75 3 1 s j r .i64 p underlying75 q53.1 q53.2 [122] [(122,vs (some s) j r),(126,vq (s.add (Int.toNat p*1)))] ?_
   obtain⟨q,q54,h⟩:=h
   refine T_l1 127 3 q54 [126]<|T_ed 1 [127] [(17,vi q)]<|ar 21<|T_nd 3 [] [(131,vq f)] ?_
   obtain⟨bj,q55,h⟩:=h
   refine T_l1 132 49 q55 [131] ?_
   obtain⟨bf,rfl,h⟩:=h
   refine T_nd 2 [132] [(134,vq bf)] ?_
   obtain⟨a8,q56,h⟩:=h
   refine T_l1 135 52 q56 [134] ?_
   obtain⟨bm,rfl,h⟩:=h
   refine T_nd 2 [135] [(137,vq bm)] ?_
   obtain⟨az,q57,h⟩:=h
   refine T_l1 138 78 q57 [137]<|T_nd 1 [] [(139,vi q)]<|T_c (some 140) h ?_;clear h
   rintro cg cd ⟨an,ai,a2,af,ab,ae,ac,rb,rfl,h⟩
   refine T_pd [138,139] [(140,.tuple #[.agg #[vi an,vi ai,vi a2,vi af,vi ab,vi ae,vi ac],.bool rb])]<|T_nd 3 [140] [(141,.agg #[vi an,vi ai,vi a2,vi af,vi ab,vi ae,vi ac]),(142,.bool rb)]<|T_nw (some 18) (λhv=>vp (pa hv)) (.cells #[vi 0,vi 0,vi 0,vi 0,vi 0,vi 0,vi 0] 108) ?_
   intro aa H15 e58 e59
   replace h:=h aa H15 e58 e59
   refine T_pd [] [(18,vp (pa aa))] ?_
   obtain⟨q61,h⟩:=h
   refine fp 108 [vi an,vi ai,vi a2,vi af,vi ab,vi ae,vi ac] q61 ?_
   intro ay e60
   replace h:=h ay e60
   refine T_pd [141] []<|T_ed 1 [142] [] ?_
   obtain⟨ag,q62,aj,q63,ak,q64,ah,q65,h⟩:=h
   refine yW 22 (Code.ops K77) [(14,((ad m).add 1026),[.map ag]),(14,((ad m).add 1027),[.map aj]),(16,((ad aa).add 2),[vi ak]),(19,((ad aa).add 2),[vi ah])] 20 (bv 20 0) (show aH _ _ _ from⟨⟨q62,trivial⟩,⟨q63,trivial⟩,⟨q64,trivial⟩,⟨q65,trivial⟩,trivial⟩)<|T_gp 0 (some 143) (vp (pa m)) (bv 20 1) [(0,vq f),(1,vi g),(10,vs e gensN gensC),(13,vp (pa m)),(17,vi q),(18,vp (pa aa)),(122,vs (some s) j r),(123,vi j),(124,vi p),(143,vp (pa m))]<|aF 1 144 (vp (pa m)) (bv 20 3) [143]<|aF 2 145 (vq ((ad m).add 1026)) (bv 20 7) [144]<|T_g1 3 146 (.map ag) (bv 20 15) [145] (aP 102 (vq ((ad m).add 1026))) (yV 14 zw)<|aF 4 147 (vi q) (bv 20 31) []<|aF 5 148 (vp (pa m)) (bv 20 63) []<|aF 6 149 (vp (pa m)) (bv 20 127) [148]<|aF 7 150 (vq ((ad m).add 1027)) (bv 20 255) [149]<|T_g1 8 151 (.map aj) (bv 20 511) [150] (aP 102 (vq ((ad m).add 1027))) (yV 14 yZ)<|aF 9 152 (vi q) (bv 20 1023) [17]<|aF 10 153 (vq ((ad aa).add 2)) (bv 20 2047) []<|T_g1 11 154 (vi ak) (bv 20 4095) [153] (aP 3 (vq ((ad aa).add 2))) (yV 16 yX)<|aF 12 155 (vq ((ad aa).add 2)) (bv 20 8191) [18]<|T_g1 13 156 (vi ah) (bv 20 16383) [155] (aP 3 (vq ((ad aa).add 2))) (yV 19 yQ) ?_
   obtain⟨mr,rfl,es,cl,ks,q68,q69,q73,h⟩:=h
   refine l6 14 (some 157) (bv 20 32767) (jo 102 (.map (some mr)) (vi q)) (λu Hz=> ∃es2 cl2 sp v0,Hz=bH ay mr (.map es2 cl2)/\Ents (dc .i64) es2.toList (mput ks q v0)/\Born es2 cl2/\hM es2 (vi q) sp/\u=.tuple #[v0,vi sp]) (by kernel_rfl) (λ_=>by kernel_rfl) (ku (kk:=(dc .i64)) (z:=vi 0) underlying102 underlying3 (λ_=>by kernel_rfl) q68 q69 q73) (by kernel_rfl) ?_
   rintro _ H17 ⟨a4,cl_2,stamp,x_21,e71,e72,e74,e75,rfl⟩
   replace h:=h a4 cl_2 stamp x_21 H17 e71 e72 e74 e75
   obtain⟨f66,f67,h⟩:=h
   refine⟨[(0,vq f),(1,vi g),(10,vs e gensN gensC),(13,vp (pa m)),(122,vs (some s) j r),(123,vi j),(124,vi p),(146,.map (some mr)),(151,.map aj),(152,vi q),(154,vi ak),(156,vi ah),(157,.tuple #[x_21,vi stamp])],pk,(show aH _ _ _ from⟨trivial,trivial,f66,f67,trivial⟩),?_⟩
   refine T_g 15 (some 158) (vi stamp) (bv 20 65535) [(0,vq f),(1,vi g),(10,vs e gensN gensC),(13,vp (pa m)),(122,vs (some s) j r),(123,vi j),(124,vi p),(146,.map (some mr)),(151,.map aj),(152,vi q),(154,vi ak),(156,vi ah),(158,vi stamp)] (pure (.value (vi stamp)):Sem Next) (λ_ _ _ _ _=>rfl) ?_
   obtain⟨bg,cl_3,ks_2,k,q77,q78,q79,q80,h⟩:=h
   refine fQ 16 none (bv 20 131071) (j9 102 (.map (some mr)) (vi stamp) (vi ak)) (λHz=> ∃es2,Hz=bH H17 mr (.map es2 cl_3)/\Ents (dc .i64) es2.toList (mput ks_2 k (vi ak))/\Born es2 cl_3) (by kernel_rfl) (λ_=>by kernel_rfl) (kv (kk:=(dc .i64)) q77 q78 q79 q80) (by kernel_rfl) ?_
   rintro H18 ⟨bb,e81,e82,e83⟩
   replace h:=h bb H18 e81 e82 e83
   obtain⟨f76,h⟩:=h
   refine⟨[(0,vq f),(1,vi g),(10,vs e gensN gensC),(13,vp (pa m)),(122,vs (some s) j r),(123,vi j),(124,vi p),(151,.map aj),(152,vi q),(156,vi ah)],pk,(show aH _ _ _ from⟨trivial,trivial,trivial,f76,trivial⟩),?_⟩
   obtain⟨al,rfl,bq,cl_4,ks_3,q85,q86,q90,h⟩:=h
   refine l6 17 (some 159) (bv 20 262143) (jo 102 (.map (some al)) (vi q)) (λu Hz=> ∃es2 cl2 sp v0,Hz=bH H18 al (.map es2 cl2)/\Ents (dc .i64) es2.toList (mput ks_3 q v0)/\Born es2 cl2/\hM es2 (vi q) sp/\u=.tuple #[v0,vi sp]) (by kernel_rfl) (λ_=>by kernel_rfl) (ku (kk:=(dc .i64)) (z:=vi 0) underlying102 underlying3 (λ_=>by kernel_rfl) q85 q86 q90) (by kernel_rfl) ?_
   rintro _ H19 ⟨a3,cl_5,stamp_2,x_22,e88,e89,e91,e92,rfl⟩
   replace h:=h a3 cl_5 stamp_2 x_22 H19 e88 e89 e91 e92
   obtain⟨f84,h⟩:=h
   refine⟨[(0,vq f),(1,vi g),(10,vs e gensN gensC),(13,vp (pa m)),(122,vs (some s) j r),(123,vi j),(124,vi p),(151,.map (some al)),(156,vi ah),(159,.tuple #[x_22,vi stamp_2])],pk,(show aH _ _ _ from⟨trivial,trivial,trivial,f84,trivial⟩),?_⟩
   refine T_g 18 (some 160) (vi stamp_2) (bv 20 524287) [(0,vq f),(1,vi g),(10,vs e gensN gensC),(13,vp (pa m)),(122,vs (some s) j r),(123,vi j),(124,vi p),(151,.map (some al)),(156,vi ah),(160,vi stamp_2)] (pure (.value (vi stamp_2)):Sem Next) (λ_ _ _ _ _=>rfl) ?_
   obtain⟨bd,cl_6,ks_4,k_2,q93,q94,q95,q96,h⟩:=h
   refine fQ 19 none (bv 20 1048575) (j9 102 (.map (some al)) (vi stamp_2) (vi ah)) (λHz=> ∃es2,Hz=bH H19 al (.map es2 cl_6)/\Ents (dc .i64) es2.toList (mput ks_4 k_2 (vi ah))/\Born es2 cl_6) (by kernel_rfl) (λ_=>by kernel_rfl) (kv (kk:=(dc .i64)) q93 q94 q95 q96) (by kernel_rfl) ?_
   rintro H20 ⟨bi,e97,e98,e99⟩
   replace h:=h bi H20 e97 e98 e99
   refine⟨[(0,vq f),(1,vi g),(10,vs e gensN gensC),(13,vp (pa m)),(122,vs (some s) j r),(123,vi j),(124,vi p)],pk,(show aH _ _ _ from⟨trivial,trivial,trivial,trivial,trivial⟩),?_⟩
   refine fm [(0,vq f),(1,vi g),(10,vs e gensN gensC),(13,vp (pa m)),(122,vs (some s) j r),(123,vi j),(124,vi p)] sk ?_
   exact yq<|aD<|aC<|T_rz 23<|T_ne 2 [(0,vq f),(1,vi g),(10,vs e gensN gensC),(13,vp (pa m)),(122,vs (some s) j r),(123,vi j),(124,vi (zY (p+1)))]<|aR ((zY (p+1)):Int) sk h
  refine aJ 125 (zQ c51)<|zz 4<|aA<|aA<|aM<|aC<|ar 24<|T_nd 3 [122,123,124,125] [(164,vq f)] ?_
  obtain⟨a7,q100,h⟩:=h
  refine T_l1 165 49 q100 [164] ?_
  obtain⟨bk,rfl,h⟩:=h
  refine T_nd 2 [165] [(167,vq bk)] ?_
  obtain⟨a0,q101,h⟩:=h
  refine T_l1 168 52 q101 [167]<|T_nd 1 [10] [(169,vs e gensN gensC)]<|T_c (some 170) h ?_;clear h
  intro v_5 ce h
  refine T_pd [168,169] []<|T_e<|ar 25<|T_nd 4 [0] [(171,vp (pa m)),(174,vq f)] ?_
  obtain⟨a1,q102,h⟩:=h
  refine T_l1 175 49 q102 [174]<|T_nd 1 [1] [(176,vi g)]<|T_c (some 177) h ?_;clear h
  rintro ck cc ⟨ax,av,au,rfl,h⟩
  refine T_pd [175,176] [(177,vs ax av au)]<|T_nd 2 [171] [(179,vq ((ad m).add 1028))] ?_
  obtain⟨q104,h⟩:=h
  refine gD 104 (vs ax av au) q104 ?_
  intro b8 e103
  replace h:=h b8 e103
  exact T_pd [177,179] []<|T_e<|ar 26<|T_nr 3 [8,9] [vp (pa m),vi 0] hQ h
 intro hk
 refine T_nu [(0,vq f),(1,vi g),(2,vi d),(3,vi o),(33,.bool (decide (g<0)))] ?_
 by_cases c2:g<0
 ·have b3:(decide (g<0))=true:=zX c2
  refine bI [(0,vq f),(1,vi g),(2,vi d),(3,vi o),(33,vT)] (by rw[b3]) ?_
  refine T_nd 18 [33] [(51,vT)]<|zq<|S_bd 51 (b:=true) (v:=(((((decide (g<0)) || (decide (g>=4))) || (decide (d<g))) || (decide (d>(zY (g+1))))) || (decide (o<0)))) (by simp only[b3,BL]) ?_
  exact hk
 have b3:(decide (g<0))=false:=zQ c2
 refine bI [(0,vq f),(1,vi g),(2,vi d),(3,vi o),(33,vF)] (by rw[b3]) ?_
 refine T_nd 4 [33] [(37,.bool (decide (g>=4)))] ?_
 by_cases c4:g>=4
 ·have b5:(decide (g>=4))=true:=zX c4
  refine N_bd 37 b5<|T_nd 14 [37] [(51,vT)] ?_
  refine zq<|S_bd 51 (b:=true) (v:=(((((decide (g<0)) || (decide (g>=4))) || (decide (d<g))) || (decide (d>(zY (g+1))))) || (decide (o<0)))) (by simp only[b3,b5,BL]) ?_
  exact hk
 have b5:(decide (g>=4))=false:=zQ c4
 refine N_bd 37 b5<|T_nd 5 [37] [(42,.bool (decide (d<g)))] ?_
 by_cases c6:d<g
 ·have b7:(decide (d<g))=true:=zX c6
  refine N_bd 42 b7<|T_nd 9 [42] [(51,vT)] ?_
  refine zq<|S_bd 51 (b:=true) (v:=(((((decide (g<0)) || (decide (g>=4))) || (decide (d<g))) || (decide (d>(zY (g+1))))) || (decide (o<0)))) (by simp only[b3,b5,b7,BL]) ?_
  exact hk
 have b7:(decide (d<g))=false:=zQ c6
 refine N_bd 42 b7<|T_nd 6 [42] [(48,.bool (decide (d>(zY (g+1)))))] ?_
 by_cases c8:d>(zY (g+1))
 ·have b9:(decide (d>(zY (g+1))))=true:=zX c8
  refine N_bd 48 b9<|T_nd 3 [48] [(51,vT)] ?_
  refine zq<|S_bd 51 (b:=true) (v:=(((((decide (g<0)) || (decide (g>=4))) || (decide (d<g))) || (decide (d>(zY (g+1))))) || (decide (o<0)))) (by simp only[b3,b5,b7,b9,BL]) ?_
  exact hk
 have b9:(decide (d>(zY (g+1))))=false:=zQ c8
 refine N_bd 48 b9<|T_nd 3 [48] [(51,.bool (decide (o<0)))] ?_
 refine zq<|S_bd 51 (b:=(decide (o<0))) (v:=(((((decide (g<0)) || (decide (g>=4))) || (decide (d<g))) || (decide (d>(zY (g+1))))) || (decide (o<0)))) (by simp only[b3,b5,b7,b9,BL]) ?_
 exact hk
end eF
/-! (*moraine/trace.Trace).Visit -/
namespace aQ
def K0:=Func.code f13
def K2:=cb K0
def K4:=cb K2
def K10:=cb K4
def K20:=cb K10
def K22:=cb K20
def K30:=cb K22
def K32:=cb K30
def K33:=ca K32
def K34:=cb K32
def K36:=cb K34
def K41:=ca K36
def K44:=cb K41
def K45:=ca K44
def K46:=ca K45
end aQ
def aQ.pt(tv:zW)(wv:Int)(H:zV)(R:zj):Prop:=
 cG.C tv wv H (λv H1=> ∃x,v=.bool x/\
 if x=true then(
 bX.C tv wv H1 (λbz H2=> ∃ra rb,bz=.tuple #[vu ra,.bool rb]/\
 if rb=true then(
 R (vu ra) H2)
 else
 ∃d,tv=some d/\
 ∃a4,hat H2 d=some (vp a4)/\
 dM.C a4 wv H2 (λbs H3=> ∃f,bs=vi f/\
 if f=0 then(
 R (vu wv) H3)
 else
 dW.C wv H3 (λbr H4=> ∃a bf,br=.tuple #[vi a,.bool bf]/\
 ∃a7,hat H4 d=some (vp a7)/\
 ∃ba,a7=some ba/\
 ∃a9,hat H4 ba=some (vp a9)/\
 ∃bc,a9=some bc/\
 ∃bd,hat H4 bc=some (vp bd)/\
 ∃bb,bd=some bb/\
 ∃a3,hat H4 bb=some (vp a3)/\
 aV.C a3 (zY (Int.tdiv a 64)) H4 (λb1 H5=> ∃s q af m i k j ah,b1=.tuple #[.agg #[vi s,vi q,vi af,vi m,vi i,vi k,vi j],.bool ah]/\
 ∀b H6,b=H5.size->H6=H5.push (.cells #[vi 0,vi 0,vi 0,vi 0,vi 0,vi 0,vi 0] 108)->
 (aL H6 (ad b) 0 7)/\ ∀H7,H7=aN H6 (ad b) [vi s,vi q,vi af,vi m,vi i,vi k,vi j] 0->
 ∃bp,hat H7 d=some (vp bp)/\
 ∃u,bp=some u/\
 ∃bi,hat H7 u=some (vp bi)/\
 ∃t,bi=some t/\
 ∃r,hat H7 t=some (vp r)/\
 ∃y,hat H7 (d.add 1)=some (vi y)/\
 ∃z,hat H7 ((ad b).add 1)=some (vi z)/\
 bO.C r y z f H7 (λb0 H8=> ∃e n,b0=.tuple #[vi e,vi n]/\
 if n=0 then(
 ∃(a8:zk) (m47:Int->zV->Nat),a8 0 H8/\ ∀g H9,a8 g H9->
 if g<f then(
 ∃aw,hat H9 d=some (vp aw)/\
 ∃an,aw=some an/\
 ∃av,hat H9 an=some (vp av)/\
 ∃au,av=some au/\
 ∃aj,hat H9 au=some (vp aj)/\
 ∃ay,aj=some ay/\
 ∃aa,hat H9 ay=some (vp aa)/\
 bN.C aa (zY (a+g)) H9 (λbq a6=> ∃p bh,bq=.tuple #[vu p,vi bh]/\
 ∃ao,hat a6 d=some (vp ao)/\
 ∃a2,ao=some a2/\
 ∃a1,hat a6 a2=some (vp a1)/\
 ∃ap,a1=some ap/\
 ∃ak,hat a6 ap=some (vp ak)/\
 ∃am,ak=some am/\
 ∃ac,hat a6 am=some (vp ac)/\
 bG.C ac (zY (e+g)) p a6 (λbt bj=> ∃bk,bt=vi bk/\
 (a8 (zY (g+1)) bj/\m47 (zY (g+1)) bj<m47 g H9))))
 else
 fD.C 6 e H9 (λb3 a5=> ∃o be,b3=.tuple #[vu o,vi be]/\
 ∃aq,hat a5 d=some (vp aq)/\
 ∃a0,aq=some a0/\
 ∃ai,hat a5 a0=some (vp ai)/\
 ∃ax,ai=some ax/\
 ∃az,hat a5 ax=some (vp az)/\
 ∃al,az=some al/\
 ∃ab,hat a5 al=some (vp ab)/\
 bG.C ab a o a5 (λbn bw=> ∃bl,bn=vi bl/\
 dT.C wv bw (λbm bx=> ∃ag,bm=vi ag/\
 fD.C ag e bx (λbo bu=> ∃ae bg,bo=.tuple #[vu ae,vi bg]/\
 R (vu ae) bu)))))
 else
 R (vu wv) H8))))))
 else
 R (vu wv) H1)
namespace aQ
theorem link{wv:Int}(h:pt a wv H b):C a wv H b:=by
 refine T_en K0 163 func13 ?_
 intro w0 Q hQ
 unfold pt zY at h
 refine T_su [(0,vp a),(1,vu wv)]<|ar 0<|T_ed 1 [] []<|T_sz<|ar 1<|T_nd 2 [] [(21,vp a),(22,vu wv)]<|T_c (some 23) h ?_;clear h
 rintro v H1 ⟨x,rfl,h⟩
 refine T_pd [21,22] [(23,.bool x)]<|T_ed 1 [23] [(24,.bool (!x))] ?_
 revert h;refine iO_ (λc1 h=>?_) (λc1 h=>?_)
 ·refine aJ 24 (congrArg Bool.not (c1))<|T_kt<|T_sz<|ar 3<|T_nd 2 [24] [(27,vp a),(28,vu wv)]<|T_c (some 29) h ?_;clear h
  rintro bz H2 ⟨ra,rb,rfl,h⟩
  refine T_pd [27,28] [(29,.tuple #[vu ra,.bool rb])]<|T_ed 5 [29] [(5,vu ra),(6,.bool rb)]<|ar 4<|T_ed 1 [6] [(32,.bool rb)] ?_
  revert h;refine iO_ (λc3 h=>?_) (λc3 h=>?_)
  ·exact aI 32 c3<|ar 5<|T_nr 2 [4] [vu ra] hQ h
  refine aJ 32 (zZ c3)<|T_kt<|ar 6<|T_nd 1 [5,32] [(34,vp a)] ?_
  obtain⟨d,rfl,h⟩:=h
  refine T_nd 2 [0,34] [(0,vq d),(36,vq d)] ?_
  obtain⟨a4,q5,h⟩:=h
  refine T_l1 37 23 q5 [36]<|T_nd 1 [] [(38,vu wv)]<|T_c (some 39) h ?_;clear h
  rintro bs H3 ⟨f,rfl,h⟩
  refine T_pd [37,38] [(39,vi f)]<|T_ed 1 [39] [(7,vi f)]<|T_sz<|ar 7<|T_ed 2 [] [(41,.bool (f==0))] ?_
  revert h;refine iO_ (λc6 h=>?_) (λc6 h=>?_)
  ·exact aI 41 (zK c6)<|ar 8<|T_nr 2 [4] [vu wv] hQ h
  refine aJ 41 (zJ c6)<|T_kt<|ar 9<|T_nd 1 [41] [(44,vu wv)]<|T_c (some 45) h ?_;clear h
  rintro br H4 ⟨R,bf,rfl,h⟩
  refine T_pd [44] [(45,.tuple #[vi R,.bool bf])]<|T_ed 5 [45] [(8,vi R)]<|ar 10<|T_nd 3 [] [(51,vq d)] ?_
  obtain⟨a7,q8,h⟩:=h
  refine T_l1 52 23 q8 [51] ?_
  obtain⟨ba,rfl,h⟩:=h
  refine T_nd 2 [52] [(54,vq ba)] ?_
  obtain⟨a9,q9,h⟩:=h
  refine T_l1 55 49 q9 [54] ?_
  obtain⟨bc,rfl,h⟩:=h
  refine T_nd 2 [55] [(57,vq bc)] ?_
  obtain⟨bd,q10,h⟩:=h
  refine T_l1 58 52 q10 [57] ?_
  obtain⟨bb,rfl,h⟩:=h
  refine T_nd 2 [58] [(60,vq bb)] ?_
  obtain⟨a3,q11,h⟩:=h
  refine T_l1 61 78 q11 [60]<|T_nd 2 [] [(63,vi (zY (Int.tdiv R 64)))]<|T_c (some 64) h ?_;clear h
  rintro b1 H5 ⟨s,q,af,m,i,k,j,ah,rfl,h⟩
  refine T_pd [61,63] [(64,.tuple #[.agg #[vi s,vi q,vi af,vi m,vi i,vi k,vi j],.bool ah])]<|T_nd 3 [64] [(65,.agg #[vi s,vi q,vi af,vi m,vi i,vi k,vi j]),(66,.bool ah)]<|T_nw (some 10) (λtv=>vp (pa tv)) (.cells #[vi 0,vi 0,vi 0,vi 0,vi 0,vi 0,vi 0] 108) ?_
  intro tv H6 e12 e13
  replace h:=h tv H6 e12 e13
  refine T_pd [] [(10,vp (pa tv))] ?_
  obtain⟨q15,h⟩:=h
  refine fp 108 [vi s,vi q,vi af,vi m,vi i,vi k,vi j] q15 ?_
  intro H7 e14
  replace h:=h H7 e14
  refine T_pd [65] []<|T_ed 1 [66] []<|T_sz ?_
  obtain⟨bp,q16,u,rfl,bi,q17,t,rfl,r,q18,y,q19,z,q20,h⟩:=h
  refine yW 11 (Code.ops K33) [(17,d,[vq u]),(17,u,[vq t]),(17,t,[vp r]),(17,(d.add 1),[vi y]),(17,((ad tv).add 1),[vi z])] 23 (bv 23 0) (show aH _ _ _ from⟨⟨q16,trivial⟩,⟨q17,trivial⟩,⟨q18,trivial⟩,⟨q19,trivial⟩,⟨q20,trivial⟩,trivial⟩)<|T_gp 0 (some 68) (vq d) (bv 23 1) [(0,vq d),(1,vu wv),(7,vi f),(8,vi R),(10,vp (pa tv)),(68,vq d)]<|aF 1 69 (vq d) (bv 23 3) [68]<|aF 2 70 (vq d) (bv 23 7) [69]<|T_g1 3 71 (vq u) (bv 23 15) [70] (aP 23 (vq d)) (yV 17 zw)<|aF 4 72 (vq u) (bv 23 31) [71]<|aF 5 73 (vq u) (bv 23 63) [72]<|T_g1 6 74 (vq t) (bv 23 127) [73] (aP 49 (vq u)) (yV 17 yZ)<|aF 7 75 (vq t) (bv 23 255) [74]<|aF 8 76 (vq t) (bv 23 511) [75]<|T_g1 9 77 (vp r) (bv 23 1023) [76] (aP 52 (vq t)) (yV 17 yX)<|aF 10 78 (vq d) (bv 23 2047) []<|aF 11 79 (vq d) (bv 23 4095) [78]<|aF 12 80 (vq (d.add 1)) (bv 23 8191) [79]<|T_g1 13 81 (vi y) (bv 23 16383) [80] (aP 3 (vq (d.add 1))) (yV 17 yQ)<|aF 14 82 (vq ((ad tv).add 1)) (bv 23 32767) [10]<|T_g1 15 83 (vi z) (bv 23 65535) [82] (aP 3 (vq ((ad tv).add 1))) (yV 17 yJ)<|aF 16 84 (vi f) (bv 23 131071) []<|yY 17 (some 85) (bv 23 262143) 53 #[vp r,vi y,vi z,vi f] h ?_;clear h
  rintro b0 H8 ⟨e,n,rfl,h⟩
  refine⟨[(0,vq d),(1,vu wv),(7,vi f),(8,vi R),(85,.tuple #[vi e,vi n])],pk,(show aH _ _ _ from⟨trivial,trivial,trivial,trivial,trivial,trivial⟩),?_⟩
  refine T_g 18 (some 67) (.tuple #[vi e,vi n]) (bv 23 524287) [(0,vq d),(1,vu wv),(7,vi f),(8,vi R),(67,.tuple #[vi e,vi n])] (pure (.value (.tuple #[vi e,vi n])):Sem Next) (λ_ _ _ _ _=>rfl)<|T_g1 19 86 (vi e) (bv 23 1048575) [] (pure (.value (vi e)):Sem Next) (λ_ _ _ _ _=>rfl)<|T_g1 20 87 (vi n) (bv 23 2097151) [67] (pure (.value (vi n)):Sem Next) (λ_ _ _ _ _=>rfl)<|T_g1 21 12 (vi e) (bv 23 4194303) [86] (pure (.value (vi e)):Sem Next) (λ_ _ _ _ _=>rfl)<|T_g1 22 13 (vi n) (bv 23 8388607) [87] (pure (.value (vi n)):Sem Next) (λ_ _ _ _ _=>rfl)<|fm [(0,vq d),(1,vu wv),(7,vi f),(8,vi R),(12,vi e),(13,vi n)] sk<|yq<|aC<|T_sz<|ar 12<|T_ne 2 [(0,vq d),(1,vu wv),(7,vi f),(8,vi R),(12,vi e),(89,.bool (n !=0))] ?_
  revert h;refine iO_ (λc21 h=>?_) (λc21 h=>?_)
  ·refine aJ 89 (bne_eq_false_iff_eq.mpr c21)<|T_kt<|T_sz<|ar 14<|T_ed 2 [7,89] [(91,vi f),(92,vi 0)]<|T_bz 0 ?_
   obtain⟨a8,m47,i23,i24⟩:=h
   refine db (x:=K46) (σ:=Int) (λs_=> [(0,vq d),(1,vu wv),(8,vi R),(12,vi e),(91,vi f),(92,vi s_)]) (λs_ H=>a8 s_ H) (λs_ H=>m47 s_ H) (0:Int) (by kernel_rfl) i23 sk ?_
   rintro g H9 i25
   have h:=i24 g H9 i25
   refine T_su [(0,vq d),(1,vu wv),(8,vi R),(12,vi e),(91,vi f),(92,vi g)]<|ar 15<|T_ed 1 [] [(93,.bool (decide (g<f)))]<|T_sz ?_
   revert h;refine iO_ (λc26 h=>?_) (λc26 h=>?_)
   ·refine aI 93 (zX c26)<|T_kt<|T_sz<|T_bz 1<|ar 16<|T_ed 2 [93] [(14,vi g)]<|ar 17<|T_nd 3 [] [(98,vq d)] ?_
    obtain⟨aw,q28,h⟩:=h
    refine T_l1 99 23 q28 [98] ?_
    obtain⟨an,rfl,h⟩:=h
    refine T_nd 2 [99] [(101,vq an)] ?_
    obtain⟨av,q29,h⟩:=h
    refine T_l1 102 49 q29 [101] ?_
    obtain⟨au,rfl,h⟩:=h
    refine T_nd 2 [102] [(104,vq au)] ?_
    obtain⟨aj,q30,h⟩:=h
    refine T_l1 105 52 q30 [104] ?_
    obtain⟨ay,rfl,h⟩:=h
    refine T_nd 2 [105] [(107,vq ay)] ?_
    obtain⟨aa,q31,h⟩:=h
    refine T_l1 108 78 q31 [107]<|T_nd 3 [] [(111,vi (zY (R+g)))]<|T_c (some 112) h ?_;clear h
    rintro bq a6 ⟨p,bh,rfl,h⟩
    refine T_pd [108,111] [(112,.tuple #[vu p,vi bh])]<|T_ed 5 [112] [(15,vu p)]<|T_rz 18<|T_nd 3 [] [(117,vq d)] ?_
    obtain⟨ao,q32,h⟩:=h
    refine T_l1 118 23 q32 [117] ?_
    obtain⟨a2,rfl,h⟩:=h
    refine T_nd 2 [118] [(120,vq a2)] ?_
    obtain⟨a1,q33,h⟩:=h
    refine T_l1 121 49 q33 [120] ?_
    obtain⟨ap,rfl,h⟩:=h
    refine T_nd 2 [121] [(123,vq ap)] ?_
    obtain⟨ak,q34,h⟩:=h
    refine T_l1 124 52 q34 [123] ?_
    obtain⟨am,rfl,h⟩:=h
    refine T_nd 2 [124] [(126,vq am)] ?_
    obtain⟨ac,q35,h⟩:=h
    refine T_l1 127 78 q35 [126]<|T_nd 4 [14,15] [(130,vi (zY (e+g))),(131,vu p)]<|T_c (some 132) h ?_;clear h
    rintro bt bj ⟨bk,rfl,h⟩
    exact T_pd [127,130,131] []<|zq<|aD<|aC<|T_rz 19<|T_ed 2 [92] [(92,vi (zY (g+1)))]<|aR ((zY (g+1)):Int) sk h
   refine aJ 93 (zQ c26)<|zz 0<|aA<|aA<|aM<|aC<|ar 20<|T_nd 1 [91,92,93] [(135,vi e)]<|T_c (some 136) h ?_;clear h
   rintro b3 a5 ⟨o,be,rfl,h⟩
   refine T_pd [135] [(136,.tuple #[vu o,vi be])]<|T_ed 5 [136] [(17,vu o)]<|ar 21<|T_nd 3 [0] [(141,vq d)] ?_
   obtain⟨aq,q36,h⟩:=h
   refine T_l1 142 23 q36 [141] ?_
   obtain⟨a0,rfl,h⟩:=h
   refine T_nd 2 [142] [(144,vq a0)] ?_
   obtain⟨ai,q37,h⟩:=h
   refine T_l1 145 49 q37 [144] ?_
   obtain⟨ax,rfl,h⟩:=h
   refine T_nd 2 [145] [(147,vq ax)] ?_
   obtain⟨az,q38,h⟩:=h
   refine T_l1 148 52 q38 [147] ?_
   obtain⟨al,rfl,h⟩:=h
   refine T_nd 2 [148] [(150,vq al)] ?_
   obtain⟨ab,q39,h⟩:=h
   refine T_l1 151 78 q39 [150]<|T_nd 2 [8,17] [(152,vi R),(153,vu o)]<|T_c (some 154) h ?_;clear h
   rintro bn bw ⟨bl,rfl,h⟩
   refine T_pd [151,152,153] []<|T_e<|ar 22<|T_nd 1 [1] [(156,vu wv)]<|T_c (some 157) h ?_;clear h
   rintro bm bx ⟨ag,rfl,h⟩
   refine T_pd [156] [(157,vi ag)]<|T_nd 1 [12] [(158,vi e)]<|T_c (some 159) h ?_;clear h
   rintro bo bu ⟨ae,bg,rfl,h⟩
   refine⟨[(159,.tuple #[vu ae,vi bg])],pk,?_⟩
   exact T_ne 5 [(19,vu ae)]<|ar 23<|T_nr 2 [4] [vu ae] hQ h
  exact aI 89 (bne_iff_ne.mpr c21)<|ar 13<|T_nr 2 [4] [vu wv] hQ h
 exact aI 24 (congrArg Bool.not (zZ c1))<|ar 2<|T_nr 2 [4] [vu wv] hQ h
end aQ
/-! (*moraine/trace.Trace).Drain -/
namespace bM
def K0:=Func.code f14
def K1:=ca K0
def K2:=ca K1
end bM
def bM.pt(tv:zW)(H:zV)(R:zj):Prop:=
 ∃(I3:zV->Prop) (m3:zV->Nat),I3 H/\ ∀H1,I3 H1->
 bB.C tv H1 (λv H2=> ∃x,v=.bool x/\
 if x=true then(
 R (.tuple #[]) H2)
 else
 cM.C tv H2 (λb H3=> ∃a,b=.bool a/\
 if a=true then(
 (I3 H3/\m3 H3<m3 H1))
 else
 R (.tuple #[]) H3))
namespace bM
theorem link(h:pt a H b):C a H b:=by
 refine T_en K0 9 func14 ?_
 intro w0 Q hQ
 unfold pt at h
 refine T_su [(0,vp a)]<|T_bz 0 ?_
 obtain⟨I3,m3,i1,i2⟩:=h
 refine db (x:=K2) (σ:=Unit) (λs_=> [(0,vp a)]) (λs_ H=>I3 H) (λs_ H=>m3 H) (():Unit) (by kernel_rfl) i1 sk ?_
 rintro _ H1 i3
 have h:=i2 H1 i3
 refine T_su [(0,vp a)]<|T_sz<|ar 0<|T_nd 1 [] [(2,vp a)]<|T_c (some 3) h ?_;clear h
 rintro v H2 ⟨x,rfl,h⟩
 refine T_pd [2] [(3,.bool x)]<|T_nd 2 [3] [(5,.bool (!x))] ?_
 revert h;refine iO_ (λc4 h=>?_) (λc4 h=>?_)
 ·have b5:(!x)=false:=congrArg Bool.not (c4)
  have b52:x=true:=c4
  refine N_bd 5 (b:=(!x)) (v:=false) (by simp only[b5,b52,Bool.not_true,Bool.not_false]) ?_
  clear b5 b52
  exact T_ed 3 [5] [(8,vF)]<|T_fz 8<|zz 0<|aA<|aA<|aM<|fx (fn:=f14) [] hQ (show dV _ _ _ [] _ from .nil) h
 have b5:(!x)=true:=congrArg Bool.not (zZ c4)
 have b52:x=false:=zZ c4
 refine N_bd 5 (b:=(!x)) (v:=true) (by simp only[b5,b52,Bool.not_true,Bool.not_false]) ?_
 clear b5 b52
 refine T_nd 1 [] [(6,vp a)]<|T_c (some 7) h ?_;clear h
 rintro tv H3 ⟨R,rfl,h⟩
 refine T_pd [6] [(7,.bool R)]<|T_ed 1 [5,7] [(8,.bool R)] ?_
 revert h;refine iO_ (λc6 h=>?_) (λc6 h=>?_)
 ·exact aI 8 c6<|T_kt<|T_bz 1<|T_k<|aD<|aC<|aR (s:=()) (():Unit) sk h
 exact aJ 8 (zZ c6)<|zz 0<|aA<|aA<|aM<|fx (fn:=f14) [] hQ (show dV _ _ _ [] _ from .nil) h
end bM
/-! (*moraine/trace.Trace).End -/
namespace cF
def K0:=Func.code f16
def K2:=cb K0
def K7:=ca K2
def K8:=cb K2
def K10:=cb K7
def K11:=ca K10
def K12:=ca K11
def K28:=ca K8
def K31:=cb K28
def K32:=ca K31
def K33:=ca K32
def K35:=cb K33
def K37:=cb K35
def K40:=ca K37
def K42:=ca K40
def K44:=cb K42
end cF
def cF.pt(tv:zW)(H:zV)(R:zj):Prop:=
 bB.C tv H (λv H1=> ∃x,v=.bool x/\
 if x=true then(
 R (.tuple #[]) H1)
 else
 ∃d,tv=some d/\
 ∃g:List Value,g.length=1024/\aS H1 (d.add 2) 0 g/\
 ∃(aa:zk) (m13:Int->zV->Nat),aa 0 H1/\ ∀e H2,aa e H2->
 if e<1024 then(
 ∃s,((0<=e/\e< (1024:Int))/\((g:List Value).toArray)[Int.toNat e]?=some (vi s))/\
 if s=1 then(
 ∃ac,hat H2 d=some (vp ac)/\
 ∃af,ac=some af/\
 ∃ae,hat H2 af=some (vp ae)/\
 ∃ag,ae=some ag/\
 ∃z,hat H2 ag=some (vp z)/\
 cW.C z e H2 (λal H3=> ∃ak,al=vi ak/\
 (aa (zY (e+1)) H3/\m13 (zY (e+1)) H3<m13 e H2)))
 else
 (aa (zY (e+1)) H2/\m13 (zY (e+1)) H2<m13 e H2))
 else
 ∃xB xN xC,hat H2 (d.add 1028)=some (vs xB xN xC)/\
 ∃(ab:zk) (m34:Int->zV->Nat),ab 0 H2/\ ∀f H4,ab f H4->
 if f< (xN:Int)then(
 ∃j,xB=some j/\
 zv f xN/\
 ∃p m,aS H4 (j.add (Int.toNat f*2)) 0 [vi p,vi m]/\
 ∀b H5,b=H4.size->H5=H4.push (.cells #[vi 0,vi 0] 127)->
 (aL H5 (ad b) 0 2)/\ ∀H6,H6=aN H5 (ad b) [vi p,vi m] 0->
 ∃ai,hat H6 d=some (vp ai)/\
 ∃o,ai=some o/\
 ∃r,hat H6 o=some (vp r)/\
 ∃q,hat H6 (ad b)=some (vi q)/\
 ∃u,hat H6 ((ad b).add 1)=some (vi u)/\
 cX.C r q u H6 (λaj H7=> ∃ah,aj=vi ah/\
 (ab (zY (f+1)) H7/\m34 (zY (f+1)) H7<m34 f H4)))
 else
 ∃y,hat H4 d=some (vp y)/\
 dO.C y H4 (λ_ H8=>
 (aL H8 (d.add 1029) 0 1)/\ ∀H9,H9=aN H8 (d.add 1029) [vi 1] 0->
 R (.tuple #[]) H9))
namespace cF
theorem link(h:pt a H b):C a H b:=by
 refine T_en K0 61 func16 ?_
 intro w0 Q hQ
 unfold pt zY at h
 refine T_su [(0,vp a)]<|T_sz<|ar 0<|T_nd 1 [] [(6,vp a)]<|T_c (some 7) h ?_;clear h
 rintro v H1 ⟨x,rfl,h⟩
 refine T_pd [6] [(7,.bool x)]<|T_e ?_
 revert h;refine iO_ (λc1 h=>?_) (λc1 h=>?_)
 ·exact aI 7 c1<|ff [] [] hQ h
 refine aJ 7 (zZ c1)<|T_kt<|T_sz<|ar 1<|T_nd 1 [7] [(8,vp a)] ?_
 obtain⟨d,rfl,h⟩:=h
 refine T_n 2 [(0,vq d),(10,vq (d.add 2))] ?_
 obtain⟨g,l4,q3,h⟩:=h
 refine T_v1 11 (aP 103 (vq (d.add 2))) (.agg (g).toArray) (fR (gO (λ_=>by kernel_rfl) (λw=>by rw[l4];kernel_rfl) q3)) [10]<|T_ed 1 [] [(12,vi 0)]<|T_bz 0 ?_
 obtain⟨aa,m13,i5,i6⟩:=h
 refine db (x:=K12) (σ:=Int) (λs_=> [(0,vq d),(11,.agg (g).toArray),(12,vi s_)]) (λs_ H=>aa s_ H) (λs_ H=>m13 s_ H) (0:Int) (by kernel_rfl) i5 sk ?_
 rintro e H2 i7
 have h:=i6 e H2 i7
 refine T_su [(0,vq d),(11,.agg (g).toArray),(12,vi e)]<|ar 2<|T_ed 1 [] [(13,.bool (decide (e<1024)))]<|T_sz ?_
 revert h;refine iO_ (λc8 h=>?_) (λc8 h=>?_)
 ·refine aI 13 (zX c8)<|T_kt<|T_sz<|T_bz 1<|ar 3<|T_nd 1 [13] [(14,vi e)] ?_
  obtain⟨s,q10,h⟩:=h
  refine T_v1 15 (kq 103 (.agg (g).toArray) (vi e)) (vi s) (λw _=>ip (P:=prog) (t:=103) (elem:=3) (n:=1024) underlying103 (λ_=>by kernel_rfl) (λ_=>by kernel_rfl) q10.1.1 q10.1.2 q10.2 w) []<|T_ed 2 [14,15] [(2,vi e),(3,vi s)]<|ar 4<|T_ed 2 [3] [(17,.bool (s==1))] ?_
  revert h;refine iO_ (λc11 h=>?_) (λc11 h=>?_)
  ·refine aI 17 (zK c11)<|T_rz 5<|T_nd 3 [17] [(20,vq d)] ?_
   obtain⟨ac,q13,h⟩:=h
   refine T_l1 21 23 q13 [20] ?_
   obtain⟨af,rfl,h⟩:=h
   refine T_nd 2 [21] [(23,vq af)] ?_
   obtain⟨ae,q14,h⟩:=h
   refine T_l1 24 49 q14 [23] ?_
   obtain⟨ag,rfl,h⟩:=h
   refine T_nd 2 [24] [(26,vq ag)] ?_
   obtain⟨z,q15,h⟩:=h
   refine T_l1 27 52 q15 [26]<|T_nd 1 [2] [(28,vi e)]<|T_c (some 29) h ?_;clear h
   rintro al H3 ⟨ak,rfl,h⟩
   exact T_pd [27,28] []<|zq<|aD<|aC<|T_rz 6<|T_ed 2 [12] [(12,vi (zY (e+1)))]<|aR ((zY (e+1)):Int) sk h
  exact aJ 17 (zJ c11)<|T_k<|aD<|aC<|T_rz 6<|T_ed 2 [2,12,17] [(12,vi (zY (e+1)))]<|aR ((zY (e+1)):Int) sk h
 refine aJ 13 (zQ c8)<|zz 0<|aA<|aA<|aM<|aC<|T_sz<|ar 7<|T_nd 3 [11,12,13] [(33,vq (d.add 1028))] ?_
 obtain⟨xB,xN,xC,q16,h⟩:=h
 refine T_l1 34 104 q16 [33]<|T_ed 2 [] [(35,vi xN),(36,vi 0)]<|T_bz 2 ?_
 obtain⟨ab,m34,i17,i18⟩:=h
 refine db (x:=K33) (σ:=Int) (λs_=> [(0,vq d),(34,vs xB xN xC),(35,vi xN),(36,vi s_)]) (λs_ H=>ab s_ H) (λs_ H=>m34 s_ H) (0:Int) (by kernel_rfl) i17 sk ?_
 rintro f H4 i19
 have h:=i18 f H4 i19
 refine T_su [(0,vq d),(34,vs xB xN xC),(35,vi xN),(36,vi f)]<|ar 8<|T_ed 1 [] [(37,.bool (decide (f< (xN:Int))))]<|T_sz ?_
 revert h;refine iO_ (λc20 h=>?_) (λc20 h=>?_)
 ·refine aI 37 (zX c20)<|T_kt<|T_sz<|T_bz 3<|ar 9<|T_ud [37] [] ?_
  obtain⟨j,rfl,q22,h⟩:=h
  refine T_xd (some 38) 104 127 2 j xN xC .i64 f underlying104 q22.1 q22.2 [34] [(34,vs (some j) xN xC),(38,vq (j.add (Int.toNat f*2)))] ?_
  obtain⟨p,m,q23,h⟩:=h
  refine T_lr 39 127 q23 [38]<|T_nw (some 5) (λR=>vp (pa R)) (.cells #[vi 0,vi 0] 127) ?_
  intro R H5 e24 e25
  replace h:=h R H5 e24 e25
  refine T_pd [] [(5,vp (pa R))] ?_
  obtain⟨q27,h⟩:=h
  refine fp 127 [vi p,vi m] q27 ?_
  intro H6 e26
  replace h:=h H6 e26
  refine T_pd [39] []<|T_e ?_
  obtain⟨ai,q28,o,rfl,r,q29,q,q30,u,q31,h⟩:=h
  refine yW 10 (Code.ops K44) [(11,d,[vq o]),(11,o,[vp r]),(11,(ad R),[vi q]),(11,((ad R).add 1),[vi u])] 12 (bv 12 0) (show aH _ _ _ from⟨⟨q28,trivial⟩,⟨q29,trivial⟩,⟨q30,trivial⟩,⟨q31,trivial⟩,trivial⟩)<|T_gp 0 (some 40) (vq d) (bv 12 1) [(0,vq d),(5,vp (pa R)),(34,vs (some j) xN xC),(35,vi xN),(36,vi f),(40,vq d)]<|aF 1 41 (vq d) (bv 12 3) [40]<|aF 2 42 (vq d) (bv 12 7) [41]<|T_g1 3 43 (vq o) (bv 12 15) [42] (aP 23 (vq d)) (yV 11 zw)<|aF 4 44 (vq o) (bv 12 31) [43]<|aF 5 45 (vq o) (bv 12 63) [44]<|T_g1 6 46 (vp r) (bv 12 127) [45] (aP 49 (vq o)) (yV 11 yZ)<|aF 7 47 (vp (pa R)) (bv 12 255) []<|T_g1 8 48 (vi q) (bv 12 511) [47] (aP 3 (vp (pa R))) (yV 11 yX)<|aF 9 49 (vq ((ad R).add 1)) (bv 12 1023) [5]<|T_g1 10 50 (vi u) (bv 12 2047) [49] (aP 3 (vq ((ad R).add 1))) (yV 11 yQ)<|yY 11 (some 51) (bv 12 4095) 64 #[vp r,vi q,vi u] h ?_;clear h
  rintro aj H7 ⟨ah,rfl,h⟩
  refine⟨[(0,vq d),(34,vs (some j) xN xC),(35,vi xN),(36,vi f)],pk,(show aH _ _ _ from⟨trivial,trivial,trivial,trivial,trivial⟩),?_⟩
  refine fm [(0,vq d),(34,vs (some j) xN xC),(35,vi xN),(36,vi f)] sk ?_
  exact yq<|aD<|aC<|T_rz 11<|T_ne 2 [(0,vq d),(34,vs (some j) xN xC),(35,vi xN),(36,vi (zY (f+1)))]<|aR ((zY (f+1)):Int) sk h
 refine aJ 37 (zQ c20)<|zz 2<|aA<|aA<|aM<|aC<|ar 12<|T_n 3 [(0,vq d),(55,vq d)] ?_
 obtain⟨y,q32,h⟩:=h
 refine T_l1 56 23 q32 [55]<|T_c (some 57) h ?_;clear h
 intro v_4 H8 h
 refine T_pd [56] []<|T_e<|T_rz 13<|T_n 3 [(60,vq (d.add 1029))] ?_
 obtain⟨q34,h⟩:=h
 refine gD 3 (vi 1) q34 ?_
 intro H9 e33
 replace h:=h H9 e33
 refine⟨[],pk,?_⟩
 exact zq<|fx (fn:=f16) [] hQ (show dV _ _ _ [] _ from .nil) h
end cF
variable{H:zV}{a:zW}{b:zj}{d:Int}
/-! (*moraine/trace.Trace).Cards -/
namespace aX
def K0:=Func.code f28
end aX
def aX.pt(tv:zW)(wv:Int)(H:zV)(R:zj):Prop:=
 cG.C tv wv H (λv H1=> ∃x,v=.bool x/\
 if x=true then(
 bX.C tv wv H1 (λa H2=> ∃ra rb,a=.tuple #[vu ra,.bool rb]/\
 R (.bool rb) H2))
 else
 R vT H1)
namespace aX
theorem link(h:pt a d H b):C a d H b:=by
 refine T_en K0 18 func28 ?_
 intro w0 Q hQ
 unfold pt at h
 refine T_su [(0,vp a),(1,vu d)]<|ar 0<|T_ed 1 [] []<|T_sz<|ar 1<|T_nd 2 [] [(7,vp a),(8,vu d)]<|T_c (some 9) h ?_;clear h
 rintro v H1 ⟨x,rfl,h⟩
 refine T_pd [7,8] [(9,.bool x)]<|T_ed 1 [9] [(10,.bool (!x))] ?_
 revert h;refine iO_ (λc1 h=>?_) (λc1 h=>?_)
 ·refine aJ 10 (congrArg Bool.not (c1))<|T_kt<|ar 3<|T_n 2 [(12,vp a),(13,vu d)]<|T_c (some 14) h ?_;clear h
  rintro R H2 ⟨ra,rb,rfl,h⟩
  refine⟨[(14,.tuple #[vu ra,.bool rb])],pk,?_⟩
  exact T_ne 5 [(6,.bool rb)]<|ar 4<|T_nr 2 [4] [.bool rb] hQ h
 exact aI 10 (congrArg Bool.not (zZ c1))<|ar 2<|T_nr 1 [4] [vT] hQ h
end aX
/-! (*moraine/trace.Trace).Old -/
namespace cG
def K0:=Func.code f29
end cG
def cG.pt(tv:zW)(wv:Int)(H:zV)(R:zj):Prop:=
 dW.C wv H (λv H1=> ∃ra rb,v=.tuple #[vi ra,.bool rb]/\
 bB.C tv H1 (λf H2=> ∃x,f=.bool x/\
 if x=true then(
 R vF H2)
 else
 if rb=true then(
 dT.C wv H2 (λg H3=> ∃d,g=vi d/\
 if d=6 then(
 R vF H3)
 else
 ∃b,tv=some b/\
 ((0:Int)<=(zY (Int.tdiv ra 64))/\(zY (Int.tdiv ra 64))< (1024:Int))/\
 ∃e,hat H3 ((b.add 2).add (Int.toNat (zY (Int.tdiv ra 64))*1))=some (vi e)/\
 R (.bool (e==1)) H3))
 else
 R vF H2))
namespace cG
theorem link(h:pt a d H b):C a d H b:=by
 refine T_en K0 33 func29 ?_
 intro w0 Q hQ
 unfold pt zY at h
 refine T_su [(0,vp a),(1,vu d)]<|ar 0<|T_ed 1 [] []<|ar 1<|T_nd 1 [] [(8,vu d)]<|T_c (some 9) h ?_;clear h
 rintro v H1 ⟨ra,rb,rfl,h⟩
 refine T_pd [8] [(9,.tuple #[vi ra,.bool rb])]<|T_ed 5 [9] [(5,vi ra),(6,.bool rb)]<|ar 2<|T_nd 1 [] [(12,vp a)]<|T_c (some 13) h ?_;clear h
 rintro f H2 ⟨x,rfl,h⟩
 refine T_pd [12] [(13,.bool x)]<|T_nd 2 [13] [(15,.bool (!x))] ?_
 revert h;refine iO_ (λc1 h=>?_) (λc1 h=>?_)
 ·have b2:(!x)=false:=congrArg Bool.not (c1)
  have b22:x=true:=c1
  refine N_bd 15 (b:=(!x)) (v:=false) (by simp only[b2,b22,Bool.not_true,Bool.not_false]) ?_
  clear b2 b22
  exact T_nr 18 [4] [vF] hQ h
 have b2:(!x)=true:=congrArg Bool.not (zZ c1)
 have b22:x=false:=zZ c1
 refine N_bd 15 (b:=(!x)) (v:=true) (by simp only[b2,b22,Bool.not_true,Bool.not_false]) ?_
 clear b2 b22
 refine T_nd 3 [6,15] [(18,.bool rb)] ?_
 revert h;refine iO_ (λc3 h=>?_) (λc3 h=>?_)
 ·refine N_bd 18 c3<|T_nd 1 [1] [(19,vu d)] ?_
  refine T_c (some 20) h ?_;clear h
  rintro g H3 ⟨tv,rfl,h⟩
  refine T_pd [19] [(20,vi tv)]<|T_nd 3 [18,20] [(23,.bool (tv !=6))] ?_
  revert h;refine iO_ (λc5 h=>?_) (λc5 h=>?_)
  ·exact N_bd 23 (bne_eq_false_iff_eq.mpr c5)<|T_nr 10 [4] [vF] hQ h
  refine N_bd 23 (bne_iff_ne.mpr c5)<|T_nd 3 [0,5] [(24,vp a),(26,vi (zY (Int.tdiv ra 64)))] ?_
  obtain⟨wv,rfl,h⟩:=h
  refine T_nd 2 [24] [(28,vq (wv.add 2))] ?_
  obtain⟨q7,h⟩:=h
  refine T_v1 29 (bE 103 (vq (wv.add 2)) (vi (zY (Int.tdiv ra 64)))) (vp (some ((wv.add 2).add (Int.toNat (zY (Int.tdiv ra 64))*1)))) (λw _=>bF (P:=prog) (t:=103) (elem:=3) (sz:=1) (n:=1024) (a:=(wv.add 2)) (k:=.i64) (i:=(zY (Int.tdiv ra 64))) underlying103 (λ_=>by kernel_rfl) q7.1 q7.2 w) [26,28] ?_
  obtain⟨e,q8,h⟩:=h
  exact T_l1 30 3 q8 [29]<|T_nr 3 [4] [.bool (e==1)] hQ h
 exact N_bd 18 (zZ c3)<|T_nr 15 [4] [vF] hQ h
end cG
/-! (*moraine/trace.Trace).Weaks -/
namespace cK
def K0:=Func.code f32
def K2:=cb K0
def K4:=cb K2
def K12:=cb K4
def K14:=cb K12
def K15:=ca K14
def K16:=cb K14
def K17:=ca K15
def K18:=cb K15
def K19:=ca K18
def K20:=ca K19
def K22:=cb K20
def K24:=cb K22
def K27:=ca K24
def K29:=ca K27
def K31:=cb K29
def K33:=cb K31
def K35:=cb K33
def K36:=ca K35
def K38:=ca K16
def K41:=cb K38
def K42:=ca K41
def K43:=ca K42
def K45:=cb K43
def K47:=cb K45
def K50:=ca K47
def K52:=ca K50
def K54:=cb K52
def K55:=ca K54
end cK
def cK.pt(tv:zW)(H:zV)(R:zj):Prop:=
 bB.C tv H (λv H1=> ∃x,v=.bool x/\
 if x=true then(
 R vN H1)
 else
 ∀b H2,b=H1.size->H2=H1.push (.cells #[vN] 75)->
 ∃e,tv=some e/\
 ∃cp,hat H2 e=some (vp cp)/\
 ∃ba,cp=some ba/\
 ∃cm,hat H2 ba=some (vp cm)/\
 ∃a8,cm=some a8/\
 ∃cj,hat H2 a8=some (vp cj)/\
 ∃a9,cj=some a9/\
 ∃bg,hat H2 a9=some (vp bg)/\
 ∃b3,hat H2 (e.add 1)=some (vi b3)/\
 ∀b7 H3,b7=H2.size->H3=H2.push (.cells #[vi b3] 3)->aS H3 e 0 [vq ba]/\aS H3 ba 0 [vq a8]/\aS H3 a8 0 [vq a9]/\aS H3 a9 0 [vp bg]/\
 bW.C bg (some (ad b7)) 1 1 H3 (λcs H4=> ∃xB xN xC,cs=vs xB xN xC/\
 ∃(b5:zk) (m21:Int->zV->Nat),b5 0 H4/\ ∀o H5,b5 o H5->
 if o< (xN:Int)then(
 ∃af,xB=some af/\
 zv o xN/\
 ∃p,hat H5 (af.add (Int.toNat o*1))=some (vi p)/\
 ∃cd,hat H5 e=some (vp cd)/\
 ∃cc,cd=some cc/\
 ∃b8,hat H5 cc=some (vp b8)/\
 ∃b9,b8=some b9/\
 ∃b6,hat H5 b9=some (vp b6)/\
 ∃b4,b6=some b4/\
 ∃bw,hat H5 b4=some (vp bw)/\
 aV.C bw p H5 (λcr H6=> ∃bc az bz ap am ao an rb,cr=.tuple #[.agg #[vi bc,vi az,vi bz,vi ap,vi am,vi ao,vi an],.bool rb]/\
 ∀ai H7,ai=H6.size->H7=H6.push (.cells #[vi 0,vi 0,vi 0,vi 0,vi 0,vi 0,vi 0] 108)->
 (aL H7 (ad ai) 0 7)/\ ∀H8,H8=aN H7 (ad ai) [vi bc,vi az,vi bz,vi ap,vi am,vi ao,vi an] 0->
 ∃bm,hat H8 ((ad ai).add 1)=some (vi bm)/\
 if bm=1 then(
 zv p 1024/\
 ∃bp,hat H8 ((e.add 2).add (Int.toNat p*1))=some (vi bp)/\
 if bp=0 then(
 ∃bo,hat H8 (e.add 1026)=some (.map bo)/\
 ∃bj,hat H8 ((ad ai).add 2)=some (vi bj)/\
 ∃mr,bo=some mr/\
 ∃es cl ks,H8[mr]?=some (.map es cl)/\Ents (dc .i64) es.toList ks/\
 ∃b0,(mget ks p).getD (vi 0)=vi b0/\
 aS H8 ((ad ai).add 2) 0 [vi bj]/\aY.C p b0 bj (some (ad b)) H8 (λ_ H9=>
 (b5 (zY (o+1)) H9/\m21 (zY (o+1)) H9<m21 o H5)))
 else
 (b5 (zY (o+1)) H8/\m21 (zY (o+1)) H8<m21 o H5))
 else
 (b5 (zY (o+1)) H8/\m21 (zY (o+1)) H8<m21 o H5)))
 else
 ∃a6 d f,hat H5 (e.add 1028)=some (vs a6 d f)/\
 ∃(b1:zk) (m44:Int->zV->Nat),b1 0 H5/\ ∀g H10,b1 g H10->
 if g< (d:Int)then(
 ∃j,a6=some j/\
 zv g d/\
 ∃bk bb,aS H10 (j.add (Int.toNat g*2)) 0 [vi bk,vi bb]/\
 ∀m H11,m=H10.size->H11=H10.push (.cells #[vi 0,vi 0] 127)->
 (aL H11 (ad m) 0 2)/\ ∀bs,bs=aN H11 (ad m) [vi bk,vi bb] 0->
 ∃cg,hat bs e=some (vp cg)/\
 ∃ay,cg=some ay/\
 ∃ch,hat bs ay=some (vp ch)/\
 ∃ax,ch=some ax/\
 ∃ce,hat bs ax=some (vp ce)/\
 ∃aw,ce=some aw/\
 ∃a3,hat bs aw=some (vp a3)/\
 ∃bd,hat bs (ad m)=some (vi bd)/\
 (
 aV.C a3 bd bs (λct cn=> ∃aj ag aq r y q s a0,ct=.tuple #[.agg #[vi aj,vi ag,vi aq,vi r,vi y,vi q,vi s],.bool a0]/\
 ∀au H14,au=cn.size->H14=cn.push (.cells #[vi 0,vi 0,vi 0,vi 0,vi 0,vi 0,vi 0] 108)->
 (aL H14 (ad au) 0 7)/\ ∀br,br=aN H14 (ad au) [vi aj,vi ag,vi aq,vi r,vi y,vi q,vi s] 0->
 ∃bl,hat br ((ad au).add 1)=some (vi bl)/\
 if bl=1 then(
 ∃a1,hat br (ad m)=some (vi a1)/\
 ∃bf,hat br ((ad m).add 1)=some (vi bf)/\
 ∃a7,hat br ((ad au).add 2)=some (vi a7)/\
 ∃bh,hat br ((ad m).add 1)=some (vi bh)/\
 aY.C a1 (zY (bf*16)) (if(zY ((zY (bh+1))*16))<a7 then(zY ((zY (bh+1))*16))else a7) (some (ad b)) br (λ_ ck=>
 (b1 (zY (g+1)) ck/\m44 (zY (g+1)) ck<m44 g H10)))
 else
 (b1 (zY (g+1)) br/\m44 (zY (g+1)) br<m44 g H10)))/\(
 ∀al H17,al=bs.size->H17=bs.push (.cells #[vi 0,vi 0,vi 0,vi 0,vi 0,vi 0,vi 0] 108)->aS H17 e 0 [vq ay]/\aS H17 ay 0 [vq ax]/\aS H17 ax 0 [vq aw]/\aS H17 aw 0 [vp a3]/\aS H17 (ad m) 0 [vi bd]/\
 aV.C a3 bd H17 (λcq ci=> ∃ak ah av ae ab ac aa a2,cq=.tuple #[.agg #[vi ak,vi ah,vi av,vi ae,vi ab,vi ac,vi aa],.bool a2]/\
 (aL ci (ad al) 0 7)/\ ∀bq,bq=aN ci (ad al) [vi ak,vi ah,vi av,vi ae,vi ab,vi ac,vi aa] 0->
 ∃bn,hat bq ((ad al).add 1)=some (vi bn)/\
 if bn=1 then(
 ∃a4,hat bq (ad m)=some (vi a4)/\
 ∃be,hat bq ((ad m).add 1)=some (vi be)/\
 ∃a5,hat bq ((ad al).add 2)=some (vi a5)/\
 ∃bi,hat bq ((ad m).add 1)=some (vi bi)/\
 aY.C a4 (zY (be*16)) (if(zY ((zY (bi+1))*16))<a5 then(zY ((zY (bi+1))*16))else a5) (some (ad b)) bq (λ_ co=>
 (b1 (zY (g+1)) co/\m44 (zY (g+1)) co<m44 g H10)))
 else
 (b1 (zY (g+1)) bq/\m44 (zY (g+1)) bq<m44 g H10))))
 else
 ∃bx bu bt,hat H10 (ad b)=some (vs bx bu bt)/\
 R (vs bx bu bt) H10))
namespace cK
theorem link(h:pt a H b):C a H b:=by
 refine T_en K0 129 func32 ?_
 intro w0 Q hQ
 unfold pt zY at h
 refine T_su [(0,vp a)]<|ar 0<|T_ed 1 [] []<|T_sz<|ar 1<|T_nd 1 [] [(13,vp a)]<|T_c (some 14) h ?_;clear h
 rintro v H1 ⟨x,rfl,h⟩
 refine T_pd [13] [(14,.bool x)]<|T_e ?_
 revert h;refine iO_ (λc1 h=>?_) (λc1 h=>?_)
 ·exact aI 14 c1<|ar 2<|T_nr 1 [2] [vN] hQ h
 refine aJ 14 (zZ c1)<|T_kt<|ar 3<|T_ud [14] []<|T_nw (some 3) (λtv=>vp (pa tv)) (.cells #[vN] 75) ?_
 intro tv H2 e3 e4
 replace h:=h tv H2 e3 e4
 refine T_pd [] [(3,vp (pa tv))]<|T_e<|ar 4<|T_ed 2 [] [(4,.func (.func 74) #[] #[vp (pa tv)])]<|T_sz<|T_sz ?_
 obtain⟨e,rfl,cp,q5,ba,rfl,cm,q6,a8,rfl,cj,q7,a9,rfl,bg,q8,b3,q9,h⟩:=h
 refine yW 5 (Code.ops K17) [(18,e,[vq ba]),(18,ba,[vq a8]),(18,a8,[vq a9]),(18,a9,[vp bg]),(17,(e.add 1),[vi b3])] 21 (bv 21 0) (show aH _ _ _ from⟨⟨q5,trivial⟩,⟨q6,trivial⟩,⟨q7,trivial⟩,⟨q8,trivial⟩,⟨q9,trivial⟩,trivial⟩)<|T_gp 0 (some 16) (vq e) (bv 21 1) [(0,vq e),(3,vp (pa tv)),(4,.func (.func 74) #[] #[vp (pa tv)]),(16,vq e)]<|aF 1 17 (vq e) (bv 21 3) [16]<|aF 2 18 (vq e) (bv 21 7) [17]<|T_g1 3 19 (vq ba) (bv 21 15) [18] (aP 23 (vq e)) (yV 18 zw)<|aF 4 20 (vq ba) (bv 21 31) [19]<|aF 5 21 (vq ba) (bv 21 63) [20]<|T_g1 6 22 (vq a8) (bv 21 127) [21] (aP 49 (vq ba)) (yV 18 yZ)<|aF 7 23 (vq a8) (bv 21 255) [22]<|aF 8 24 (vq a8) (bv 21 511) [23]<|T_g1 9 25 (vq a9) (bv 21 1023) [24] (aP 52 (vq a8)) (yV 18 yX)<|aF 10 26 (vq a9) (bv 21 2047) [25]<|aF 11 27 (vq a9) (bv 21 4095) [26]<|T_g1 12 28 (vp bg) (bv 21 8191) [27] (aP 78 (vq a9)) (yV 18 yQ)<|aF 13 29 (vq e) (bv 21 16383) []<|aF 14 30 (vq e) (bv 21 32767) [29]<|aF 15 31 (vq (e.add 1)) (bv 21 65535) [30]<|T_g1 16 32 (vi b3) (bv 21 131071) [31] (aP 3 (vq (e.add 1))) (yV 17 yJ)<|aF 20 36 (vi 0) (bv 21 1179647) []<|nN 17 (some 33) (bv 21 1310719) (λtv=>vs (pa tv) 1 1) (.cells #[vi b3] 3) (by kernel_rfl) (λ_=>by kernel_rfl) (by kernel_rfl) ?_
 intro b7 H3 e14 e15
 replace h:=h b7 H3 e14 e15
 obtain⟨f10,f11,f12,f13,h⟩:=h
 refine⟨[(0,vq e),(3,vp (pa tv)),(4,.func (.func 74) #[] #[vp (pa tv)]),(28,vp bg),(33,vs (pa b7) 1 1),(36,vi 0)],pk,(show aH _ _ _ from⟨f10,f11,f12,f13,trivial,trivial⟩),?_⟩
 refine yY 18 (some 34) (bv 21 1572863) 45 #[vp bg,vs (pa b7) 1 1] h ?_;clear h
 rintro cs H4 ⟨xB,xN,xC,rfl,h⟩
 refine⟨[(0,vq e),(3,vp (pa tv)),(4,.func (.func 74) #[] #[vp (pa tv)]),(34,vs xB xN xC),(36,vi 0)],pk,(show aH _ _ _ from⟨trivial,trivial,trivial,trivial,trivial,trivial⟩),?_⟩
 refine T_g 19 (some 35) (vi xN) (bv 21 2097151) [(0,vq e),(3,vp (pa tv)),(4,.func (.func 74) #[] #[vp (pa tv)]),(34,vs xB xN xC),(35,vi xN),(36,vi 0)] (pure (.value (vi xN)):Sem Next) (λ_ _ _ _ _=>rfl)<|fm [(0,vq e),(3,vp (pa tv)),(4,.func (.func 74) #[] #[vp (pa tv)]),(34,vs xB xN xC),(35,vi xN),(36,vi 0)] sk<|yq<|aC<|T_bz 0 ?_
 obtain⟨b5,m21,i16,i17⟩:=h
 refine db (x:=K20) (σ:=Int) (λs_=> [(0,vq e),(3,vp (pa tv)),(4,.func (.func 74) #[] #[vp (pa tv)]),(34,vs xB xN xC),(35,vi xN),(36,vi s_)]) (λs_ H=>b5 s_ H) (λs_ H=>m21 s_ H) (0:Int) (by kernel_rfl) i16 sk ?_
 rintro o H5 i18
 have h:=i17 o H5 i18
 refine T_su [(0,vq e),(3,vp (pa tv)),(4,.func (.func 74) #[] #[vp (pa tv)]),(34,vs xB xN xC),(35,vi xN),(36,vi o)]<|ar 6<|T_ed 1 [] [(37,.bool (decide (o< (xN:Int))))]<|T_sz ?_
 revert h;refine iO_ (λc19 h=>?_) (λc19 h=>?_)
 ·refine aI 37 (zX c19)<|T_kt<|T_sz<|T_bz 1<|ar 7<|T_ud [37] [] ?_
  obtain⟨af,rfl,q21,h⟩:=h
  refine T_xd (some 38) 75 3 1 af xN xC .i64 o underlying75 q21.1 q21.2 [34] [(34,vs (some af) xN xC),(38,vq (af.add (Int.toNat o*1)))] ?_
  obtain⟨p,q22,h⟩:=h
  refine T_l1 39 3 q22 [38]<|T_ed 1 [39] [(6,vi p)]<|ar 8<|T_nd 3 [] [(43,vq e)] ?_
  obtain⟨cd,q23,h⟩:=h
  refine T_l1 44 23 q23 [43] ?_
  obtain⟨cc,rfl,h⟩:=h
  refine T_nd 2 [44] [(46,vq cc)] ?_
  obtain⟨b8,q24,h⟩:=h
  refine T_l1 47 49 q24 [46] ?_
  obtain⟨b9,rfl,h⟩:=h
  refine T_nd 2 [47] [(49,vq b9)] ?_
  obtain⟨b6,q25,h⟩:=h
  refine T_l1 50 52 q25 [49] ?_
  obtain⟨b4,rfl,h⟩:=h
  refine T_nd 2 [50] [(52,vq b4)] ?_
  obtain⟨bw,q26,h⟩:=h
  refine T_l1 53 78 q26 [52]<|T_nd 1 [] [(54,vi p)]<|T_c (some 55) h ?_;clear h
  rintro cr H6 ⟨bc,az,bz,ap,am,ao,an,rb,rfl,h⟩
  refine T_pd [53,54] [(55,.tuple #[.agg #[vi bc,vi az,vi bz,vi ap,vi am,vi ao,vi an],.bool rb])]<|T_nd 3 [55] [(56,.agg #[vi bc,vi az,vi bz,vi ap,vi am,vi ao,vi an]),(57,.bool rb)]<|T_nw (some 7) (λtv=>vp (pa tv)) (.cells #[vi 0,vi 0,vi 0,vi 0,vi 0,vi 0,vi 0] 108) ?_
  intro ai H7 e27 e28
  replace h:=h ai H7 e27 e28
  refine T_pd [] [(7,vp (pa ai))] ?_
  obtain⟨q30,h⟩:=h
  refine fp 108 [vi bc,vi az,vi bz,vi ap,vi am,vi ao,vi an] q30 ?_
  intro H8 e29
  replace h:=h H8 e29
  refine T_pd [56] []<|T_ed 1 [57] []<|ar 9<|T_nd 1 [] [(58,vq ((ad ai).add 1))] ?_
  obtain⟨bm,q31,h⟩:=h
  refine T_l1 59 3 q31 [58]<|T_nd 2 [59] [(61,.bool (bm==1))] ?_
  revert h;refine iO_ (λc32 h=>?_) (λc32 h=>?_)
  ·refine N_bd 61 (zK c32)<|T_nd 4 [] [(63,vi p),(65,vq (e.add 2))] ?_
   obtain⟨q34,h⟩:=h
   refine T_v1 66 (bE 103 (vq (e.add 2)) (vi p)) (vq ((e.add 2).add (Int.toNat p*1))) (λw _=>bF (P:=prog) (t:=103) (elem:=3) (sz:=1) (n:=1024) (a:=(e.add 2)) (k:=.i64) (i:=p) underlying103 (λ_=>by kernel_rfl) q34.1 q34.2 w) [63,65] ?_
   obtain⟨bp,q35,h⟩:=h
   refine T_l1 67 3 q35 [66]<|T_ed 2 [61,67] [(69,.bool (bp==0))] ?_
   revert h;refine iO_ (λc36 h=>?_) (λc36 h=>?_)
   ·refine aI 69 (zK c36) ?_
    obtain⟨bo,q38,bj,q39,h⟩:=h
    refine yW 10 (Code.ops K36) [(7,(e.add 1026),[.map bo]),(10,((ad ai).add 2),[vi bj])] 11 (bv 11 0) (show aH _ _ _ from⟨⟨q38,trivial⟩,⟨q39,trivial⟩,trivial⟩)<|T_gp 0 (some 70) (.func (.func 74) #[] #[vp (pa tv)]) (bv 11 1) [(0,vq e),(3,vp (pa tv)),(4,.func (.func 74) #[] #[vp (pa tv)]),(6,vi p),(7,vp (pa ai)),(34,vs (some af) xN xC),(35,vi xN),(36,vi o),(70,.func (.func 74) #[] #[vp (pa tv)])]<|aF 1 71 (vi p) (bv 11 3) []<|aF 2 72 (vq e) (bv 11 7) []<|aF 3 73 (vq e) (bv 11 15) [72]<|aF 4 74 (vq (e.add 1026)) (bv 11 31) [73]<|T_g1 5 75 (.map bo) (bv 11 63) [74] (aP 102 (vq (e.add 1026))) (yV 7 zw)<|aF 6 76 (vi p) (bv 11 127) [6]<|aF 8 78 (vq ((ad ai).add 2)) (bv 11 383) [7]<|T_g1 9 79 (vi bj) (bv 11 895) [78] (aP 3 (vq ((ad ai).add 2))) (yV 10 yZ) ?_
    obtain⟨mr,rfl,es,cl,ks,q41,q42,b0,e44,h⟩:=h
    refine l6 7 (some 77) (bv 11 1023) (jm 102 (.map (some mr)) (vi p) false) (λu H1=>u=vi b0/\H1=H8) (by kernel_rfl) (λ_=>by kernel_rfl) (λw hw=>⟨_,w,(ja (kk:=(dc .i64)) (z:=vi 0) underlying102 underlying3 (λ_=>by kernel_rfl) (by rw[hw];exact q41) q42 false),Same.refl w,by simp only[Bool.false_eq_true,if_false,e44],hw⟩) (by kernel_rfl) ?_
    rintro _ _ ⟨rfl,rfl⟩
    obtain⟨f40,h⟩:=h
    refine⟨[(0,vq e),(3,vp (pa tv)),(4,.func (.func 74) #[] #[vp (pa tv)]),(34,vs (some af) xN xC),(35,vi xN),(36,vi o),(70,.func (.func 74) #[] #[vp (pa tv)]),(71,vi p),(77,vi b0),(79,vi bj)],pk,(show aH _ _ _ from⟨trivial,f40,trivial⟩),?_⟩
    refine yY 10 (some 80) (bv 11 2047) 74 #[vi p,vi b0,vi bj,vp (pa tv)] h ?_;clear h
    intro v_4 H9 h
    refine⟨[(0,vq e),(3,vp (pa tv)),(4,.func (.func 74) #[] #[vp (pa tv)]),(34,vs (some af) xN xC),(35,vi xN),(36,vi o)],pk,(show aH _ _ _ from⟨trivial,trivial,trivial⟩),?_⟩
    refine fm [(0,vq e),(3,vp (pa tv)),(4,.func (.func 74) #[] #[vp (pa tv)]),(34,vs (some af) xN xC),(35,vi xN),(36,vi o)] sk ?_
    exact yq<|aD<|aC<|T_rz 11<|T_ne 2 [(0,vq e),(3,vp (pa tv)),(4,.func (.func 74) #[] #[vp (pa tv)]),(34,vs (some af) xN xC),(35,vi xN),(36,vi (zY (o+1)))]<|aR ((zY (o+1)):Int) sk h
   exact aJ 69 (zJ c36)<|T_k<|aD<|aC<|T_rz 11<|T_ed 2 [6,7,36,69] [(36,vi (zY (o+1)))]<|aR ((zY (o+1)):Int) sk h
  refine N_bd 61 (zJ c32)<|T_ed 8 [61] [(69,vF)]<|T_fz 69<|T_k ?_
  exact aD<|aC<|T_rz 11<|T_ed 2 [6,7,36,69] [(36,vi (zY (o+1)))]<|aR ((zY (o+1)):Int) sk h
 refine aJ 37 (zQ c19)<|zz 0<|aA<|aA<|aM<|aC<|T_sz<|ar 12<|T_nd 3 [34,35,36,37] [(84,vq (e.add 1028))] ?_
 obtain⟨a6,d,f,q45,h⟩:=h
 refine T_l1 85 104 q45 [84]<|T_ed 2 [] [(86,vi d),(87,vi 0)]<|T_bz 2 ?_
 obtain⟨b1,m44,i46,i47⟩:=h
 refine db (x:=K43) (σ:=Int) (λs_=> [(0,vq e),(3,vp (pa tv)),(4,.func (.func 74) #[] #[vp (pa tv)]),(85,vs a6 d f),(86,vi d),(87,vi s_)]) (λs_ H=>b1 s_ H) (λs_ H=>m44 s_ H) (0:Int) (by kernel_rfl) i46 sk ?_
 rintro g H10 i48
 have h:=i47 g H10 i48
 refine T_su [(0,vq e),(3,vp (pa tv)),(4,.func (.func 74) #[] #[vp (pa tv)]),(85,vs a6 d f),(86,vi d),(87,vi g)]<|ar 13<|T_ed 1 [] [(88,.bool (decide (g< (d:Int))))]<|T_sz ?_
 revert h;refine iO_ (λc49 h=>?_) (λc49 h=>?_)
 ·refine aI 88 (zX c49)<|T_kt<|T_sz<|T_bz 3<|ar 14<|T_ud [88] [] ?_
  obtain⟨j,rfl,q51,h⟩:=h
  refine T_xd (some 89) 104 127 2 j d f .i64 g underlying104 q51.1 q51.2 [85] [(85,vs (some j) d f),(89,vq (j.add (Int.toNat g*2)))] ?_
  obtain⟨bk,bb,q52,h⟩:=h
  refine T_lr 90 127 q52 [89]<|T_nw (some 10) (λtv=>vp (pa tv)) (.cells #[vi 0,vi 0] 127) ?_
  intro m H11 e53 e54
  replace h:=h m H11 e53 e54
  refine T_pd [] [(10,vp (pa m))] ?_
  obtain⟨q56,h⟩:=h
  refine fp 127 [vi bk,vi bb] q56 ?_
  intro bs e55
  replace h:=h bs e55
  refine T_pd [90] []<|T_e<|T_sz ?_
  obtain⟨cg,q57,ay,rfl,ch,q58,ax,rfl,ce,q59,aw,rfl,a3,q60,bd,q61,h⟩:=h
  refine yW 15 (Code.ops K55) [(15,e,[vq ay]),(15,ay,[vq ax]),(15,ax,[vq aw]),(15,aw,[vp a3]),(15,(ad m),[vi bd])] 22 (bv 22 0) (show aH _ _ _ from⟨⟨q57,trivial⟩,⟨q58,trivial⟩,⟨q59,trivial⟩,⟨q60,trivial⟩,⟨q61,trivial⟩,trivial⟩)<|T_gp 0 (some 92) (vq e) (bv 22 1) [(0,vq e),(3,vp (pa tv)),(4,.func (.func 74) #[] #[vp (pa tv)]),(10,vp (pa m)),(85,vs (some j) d f),(86,vi d),(87,vi g),(92,vq e)]<|aF 1 93 (vq e) (bv 22 3) [92]<|aF 2 94 (vq e) (bv 22 7) [93]<|T_g1 3 95 (vq ay) (bv 22 15) [94] (aP 23 (vq e)) (yV 15 zw)<|aF 4 96 (vq ay) (bv 22 31) [95]<|aF 5 97 (vq ay) (bv 22 63) [96]<|T_g1 6 98 (vq ax) (bv 22 127) [97] (aP 49 (vq ay)) (yV 15 yZ)<|aF 7 99 (vq ax) (bv 22 255) [98]<|aF 8 100 (vq ax) (bv 22 511) [99]<|T_g1 9 101 (vq aw) (bv 22 1023) [100] (aP 52 (vq ax)) (yV 15 yX)<|aF 10 102 (vq aw) (bv 22 2047) [101]<|aF 11 103 (vq aw) (bv 22 4095) [102]<|T_g1 12 104 (vp a3) (bv 22 8191) [103] (aP 78 (vq aw)) (yV 15 yQ)<|aF 13 105 (vp (pa m)) (bv 22 16383) []<|T_g1 14 106 (vi bd) (bv 22 32767) [105] (aP 3 (vp (pa m))) (yV 15 yJ) ?_
  refine qv 15 19 (by kernel_rfl) ?fa1 ?fb1
  case' fa1=>
   replace h:=h.1
   refine qw 15 (some 107) (bv 22 65535) 47 #[vp a3,vi bd] (by kernel_rfl) (λ_=>by kernel_rfl) h (by kernel_rfl) ?_;clear h
   rintro ct cn ⟨aj,ag,aq,r,y,q,s,a0,rfl,h⟩
   refine⟨[(0,vq e),(3,vp (pa tv)),(4,.func (.func 74) #[] #[vp (pa tv)]),(10,vp (pa m)),(85,vs (some j) d f),(86,vi d),(87,vi g),(107,.tuple #[.agg #[vi aj,vi ag,vi aq,vi r,vi y,vi q,vi s],.bool a0])],pk,(show aH _ _ _ from⟨trivial,trivial,trivial,trivial,trivial,trivial⟩),?_⟩
   refine T_g 16 (some 91) (.tuple #[.agg #[vi aj,vi ag,vi aq,vi r,vi y,vi q,vi s],.bool a0]) (bv 22 131071) [(0,vq e),(3,vp (pa tv)),(4,.func (.func 74) #[] #[vp (pa tv)]),(10,vp (pa m)),(85,vs (some j) d f),(86,vi d),(87,vi g),(91,.tuple #[.agg #[vi aj,vi ag,vi aq,vi r,vi y,vi q,vi s],.bool a0])] (pure (.value (.tuple #[.agg #[vi aj,vi ag,vi aq,vi r,vi y,vi q,vi s],.bool a0])):Sem Next) (λ_ _ _ _ _=>rfl)<|T_g1 17 108 (.agg #[vi aj,vi ag,vi aq,vi r,vi y,vi q,vi s]) (bv 22 262143) [] (pure (.value (.agg #[vi aj,vi ag,vi aq,vi r,vi y,vi q,vi s])):Sem Next) (λ_ _ _ _ _=>rfl)<|T_g1 18 109 (.bool a0) (bv 22 524287) [91] (pure (.value (.bool a0)):Sem Next) (λ_ _ _ _ _=>rfl)<|nN 19 (some 11) (bv 22 1048575) (λtv=>vp (pa tv)) (.cells #[vi 0,vi 0,vi 0,vi 0,vi 0,vi 0,vi 0] 108) (by kernel_rfl) (λ_=>by kernel_rfl) (by kernel_rfl) ?_
   intro au H14 e62 e63
   replace h:=h au H14 e62 e63
   refine⟨[(0,vq e),(3,vp (pa tv)),(4,.func (.func 74) #[] #[vp (pa tv)]),(10,vp (pa m)),(11,vp (pa au)),(85,vs (some j) d f),(86,vi d),(87,vi g),(108,.agg #[vi aj,vi ag,vi aq,vi r,vi y,vi q,vi s]),(109,.bool a0)],pk,(show aH _ _ _ from⟨trivial,trivial,trivial,trivial,trivial,trivial⟩),?_⟩
  case' fb1=>
   replace h:=h.2
   refine qU 19 (some 11) (bv 22 557055) (λtv=>vp (pa tv)) (.cells #[vi 0,vi 0,vi 0,vi 0,vi 0,vi 0,vi 0] 108) (by kernel_rfl) (λ_=>by kernel_rfl) (by kernel_rfl) ?_
   intro au H17 e78 e79
   replace h:=h au H17 e78 e79
   obtain⟨f73,f74,f75,f76,f77,h⟩:=h
   refine⟨[(0,vq e),(3,vp (pa tv)),(4,.func (.func 74) #[] #[vp (pa tv)]),(10,vp (pa m)),(11,vp (pa au)),(85,vs (some j) d f),(86,vi d),(87,vi g),(104,vp a3),(106,vi bd)],pk,(show aH _ _ _ from⟨f73,f74,f75,f76,f77,trivial⟩),?_⟩
   refine yY 15 (some 107) (bv 22 589823) 47 #[vp a3,vi bd] h ?_;clear h
   rintro cq H14 ⟨aj,ag,aq,r,y,q,s,a0,rfl,h⟩
   refine⟨[(0,vq e),(3,vp (pa tv)),(4,.func (.func 74) #[] #[vp (pa tv)]),(10,vp (pa m)),(11,vp (pa au)),(85,vs (some j) d f),(86,vi d),(87,vi g),(107,.tuple #[.agg #[vi aj,vi ag,vi aq,vi r,vi y,vi q,vi s],.bool a0])],pk,(show aH _ _ _ from⟨trivial,trivial,trivial,trivial,trivial,trivial⟩),?_⟩
   refine T_g 16 (some 91) (.tuple #[.agg #[vi aj,vi ag,vi aq,vi r,vi y,vi q,vi s],.bool a0]) (bv 22 655359) [(0,vq e),(3,vp (pa tv)),(4,.func (.func 74) #[] #[vp (pa tv)]),(10,vp (pa m)),(11,vp (pa au)),(85,vs (some j) d f),(86,vi d),(87,vi g),(91,.tuple #[.agg #[vi aj,vi ag,vi aq,vi r,vi y,vi q,vi s],.bool a0])] (pure (.value (.tuple #[.agg #[vi aj,vi ag,vi aq,vi r,vi y,vi q,vi s],.bool a0])):Sem Next) (λ_ _ _ _ _=>rfl)<|T_g1 17 108 (.agg #[vi aj,vi ag,vi aq,vi r,vi y,vi q,vi s]) (bv 22 786431) [] (pure (.value (.agg #[vi aj,vi ag,vi aq,vi r,vi y,vi q,vi s])):Sem Next) (λ_ _ _ _ _=>rfl)<|T_g1 18 109 (.bool a0) (bv 22 1048575) [91] (pure (.value (.bool a0)):Sem Next) (λ_ _ _ _ _=>rfl) ?_
  all_goals
   obtain⟨q65,h⟩:=h
   refine fQ 20 none (bv 22 2097151) (gQ 108 (vp (pa au)) (.agg #[vi aj,vi ag,vi aq,vi r,vi y,vi q,vi s])) (λHz=>Hz=aN H14 (ad au) [vi aj,vi ag,vi aq,vi r,vi y,vi q,vi s] 0) (by kernel_rfl) (λ_=>by kernel_rfl) (gR [vi aj,vi ag,vi aq,vi r,vi y,vi q,vi s] 7 (by kernel_rfl) (by kernel_rfl) (λ_=>by kernel_rfl) (by kernel_rfl) q65) (by kernel_rfl) ?_
   intro br e64
   replace h:=h br e64
   refine⟨[(0,vq e),(3,vp (pa tv)),(4,.func (.func 74) #[] #[vp (pa tv)]),(10,vp (pa m)),(11,vp (pa au)),(85,vs (some j) d f),(86,vi d),(87,vi g),(109,.bool a0)],pk,(show aH _ _ _ from⟨trivial,trivial,trivial,trivial,trivial,trivial⟩),?_⟩
   refine T_g 21 (some 12) (.bool a0) (bv 22 4194303) [(0,vq e),(3,vp (pa tv)),(4,.func (.func 74) #[] #[vp (pa tv)]),(10,vp (pa m)),(11,vp (pa au)),(85,vs (some j) d f),(86,vi d),(87,vi g)] (pure (.value (.bool a0)):Sem Next) (λ_ _ _ _ _=>rfl)<|fm [(0,vq e),(3,vp (pa tv)),(4,.func (.func 74) #[] #[vp (pa tv)]),(10,vp (pa m)),(11,vp (pa au)),(85,vs (some j) d f),(86,vi d),(87,vi g)] sk<|yq<|aC<|ar 16<|T_n 1 [(0,vq e),(3,vp (pa tv)),(4,.func (.func 74) #[] #[vp (pa tv)]),(10,vp (pa m)),(11,vp (pa au)),(85,vs (some j) d f),(86,vi d),(87,vi g),(110,vq ((ad au).add 1))] ?_
   obtain⟨bl,q66,h⟩:=h
   refine T_l1 111 3 q66 [110]<|T_ed 1 [111] [(112,.bool (bl==1))] ?_
   revert h;refine iO_ (λc67 h=>?_) (λc67 h=>?_)
   ·refine aI 112 (zK c67)<|T_rz 17<|T_nd 2 [112] [(113,.func (.func 74) #[] #[vp (pa tv)]),(114,vp (pa m))] ?_
    obtain⟨a1,q69,h⟩:=h
    refine T_l1 115 3 q69 [114]<|T_nd 1 [] [(116,vq ((ad m).add 1))] ?_
    obtain⟨bf,q70,h⟩:=h
    refine T_l1 117 3 q70 [116]<|T_nd 2 [11,117] [(118,vi (zY (bf*16))),(119,vq ((ad au).add 2))] ?_
    obtain⟨a7,q71,h⟩:=h
    refine T_l1 120 3 q71 [119]<|T_nd 1 [10] [(121,vq ((ad m).add 1))] ?_
    obtain⟨bh,q72,h⟩:=h
    refine T_l1 122 3 q72 [121]<|T_nd 3 [120,122] [(125,vi (if(zY ((zY (bh+1))*16))<a7 then(zY ((zY (bh+1))*16))else a7))]<|T_c (some 126) h ?_;clear h
    intro v_6 ck h
    exact T_pd [113,115,118,125] []<|zq<|aD<|aC<|T_rz 18<|T_ed 2 [87] [(87,vi (zY (g+1)))]<|aR ((zY (g+1)):Int) sk h
   exact aJ 112 (zJ c67)<|T_k<|aD<|aC<|T_rz 18<|T_ed 2 [10,11,87,112] [(87,vi (zY (g+1)))]<|aR ((zY (g+1)):Int) sk h
 refine aJ 88 (zQ c49)<|zz 2<|aA<|aA<|aM<|aC<|ar 19<|T_nu [(3,vp (pa tv))] ?_
 obtain⟨bx,bu,bt,q89,h⟩:=h
 exact T_l1 128 75 q89 [3]<|T_nr 1 [2] [vs bx bu bt] hQ h
end cK
/-! (*moraine/trace.Trace).moved -/
namespace bX
def K0:=Func.code f50
end bX
def bX.pt(tv:zW)(wv:Int)(H:zV)(R:zj):Prop:=
 dW.C wv H (λv H1=> ∃ra rb,v=.tuple #[vi ra,.bool rb]/\
 ∃m,tv=some m/\
 ∃x,hat H1 m=some (vp x)/\
 ∃xA,x=some xA/\
 ∃o,hat H1 xA=some (vp o)/\
 ∃n,o=some n/\
 ∃p,hat H1 n=some (vp p)/\
 ∃k,p=some k/\
 ∃i,hat H1 k=some (vp i)/\
 bN.C i ra H1 (λu H2=> ∃b e,u=.tuple #[vu b,vi e]/\
 dW.C b H2 (λt H3=> ∃a d,t=.tuple #[vi a,.bool d]/\
 if e=0 then(
 if d=true then(
 dT.C b H3 (λs H4=> ∃g,s=vi g/\
 if g=6 then(
 dT.C wv H4 (λr H5=> ∃j,r=vi j/\
 fD.C j a H5 (λy H6=> ∃f q,y=.tuple #[vu f,vi q]/\
 R (.tuple #[vu f,vT]) H6)))
 else
 R (.tuple #[vu wv,vF]) H4))
 else
 R (.tuple #[vu wv,vF]) H3)
 else
 R (.tuple #[vu wv,vF]) H3)))
namespace bX
theorem link(h:pt a d H b):C a d H b:=by
 refine T_en K0 62 func50 ?_
 intro w0 Q hQ
 unfold pt at h
 refine T_su [(0,vp a),(1,vu d)]<|ar 0<|T_ed 2 [] []<|ar 1<|T_nd 1 [] [(15,vu d)]<|T_c (some 16) h ?_;clear h
 rintro v H1 ⟨ra,rb,rfl,h⟩
 refine T_pd [15] [(16,.tuple #[vi ra,.bool rb])]<|T_ed 5 [16] [(6,vi ra)]<|ar 2<|T_nd 1 [0] [(20,vp a)] ?_
 obtain⟨m,rfl,h⟩:=h
 refine T_nd 2 [20] [(22,vq m)] ?_
 obtain⟨x,q1,h⟩:=h
 refine T_l1 23 23 q1 [22] ?_
 obtain⟨xA,rfl,h⟩:=h
 refine T_nd 2 [23] [(25,vq xA)] ?_
 obtain⟨o,q2,h⟩:=h
 refine T_l1 26 49 q2 [25] ?_
 obtain⟨n,rfl,h⟩:=h
 refine T_nd 2 [26] [(28,vq n)] ?_
 obtain⟨p,q3,h⟩:=h
 refine T_l1 29 52 q3 [28] ?_
 obtain⟨k,rfl,h⟩:=h
 refine T_nd 2 [29] [(31,vq k)] ?_
 obtain⟨i,q4,h⟩:=h
 refine T_l1 32 78 q4 [31]<|T_nd 1 [6] [(33,vi ra)]<|T_c (some 34) h ?_;clear h
 rintro u H2 ⟨wv,e,rfl,h⟩
 refine T_pd [32,33] [(34,.tuple #[vu wv,vi e])]<|T_ed 5 [34] [(8,vu wv),(9,vi e)]<|ar 3<|T_nd 1 [] [(38,vu wv)]<|T_c (some 39) h ?_;clear h
 rintro t H3 ⟨R,tv,rfl,h⟩
 refine T_pd [38] [(39,.tuple #[vi R,.bool tv])]<|T_ed 5 [39] [(10,vi R),(11,.bool tv)]<|T_sz<|ar 4<|T_nd 3 [9] [(44,.bool (e !=0))] ?_
 revert h;refine iO_ (λc5 h=>?_) (λc5 h=>?_)
 ·refine N_bd 44 (bne_eq_false_iff_eq.mpr c5)<|T_nd 4 [11,44] [(48,.bool (!tv))] ?_
  revert h;refine iO_ (λc7 h=>?_) (λc7 h=>?_)
  ·have b8:(!tv)=false:=congrArg Bool.not (c7)
   have b82:tv=true:=c7
   refine N_bd 48 (b:=(!tv)) (v:=false) (by simp only[b8,b82,Bool.not_true,Bool.not_false]) ?_
   clear b8 b82
   refine T_nd 1 [8] [(49,vu wv)]<|T_c (some 50) h ?_;clear h
   rintro s H4 ⟨g,rfl,h⟩
   refine T_pd [49] [(50,vi g)]<|T_ed 2 [48,50] [(52,.bool (g !=6))] ?_
   revert h;refine iO_ (λc9 h=>?_) (λc9 h=>?_)
   ·refine aJ 52 (bne_eq_false_iff_eq.mpr c9)<|T_kt<|ar 6<|T_nd 1 [1,52] [(55,vu d)]<|T_c (some 56) h ?_;clear h
    rintro r H5 ⟨j,rfl,h⟩
    refine T_pd [55] [(56,vi j)]<|T_nd 1 [10] [(57,vi R)]<|T_c (some 58) h ?_;clear h
    rintro y H6 ⟨f,q,rfl,h⟩
    refine⟨[(58,.tuple #[vu f,vi q])],pk,?_⟩
    exact T_ne 5 [(12,vu f)]<|ar 7<|T_nr 3 [4,5] [vu f,vT] hQ h
   exact aI 52 (bne_iff_ne.mpr c9)<|ar 5<|T_nr 3 [4,5] [vu d,vF] hQ h
  have b8:(!tv)=true:=congrArg Bool.not (zZ c7)
  have b82:tv=false:=zZ c7
  refine N_bd 48 (b:=(!tv)) (v:=true) (by simp only[b8,b82,Bool.not_true,Bool.not_false]) ?_
  clear b8 b82
  exact T_ed 4 [8,48] [(52,vT)]<|T_tz 52<|ar 5<|T_nr 3 [4,5] [vu d,vF] hQ h
 exact N_bd 44 (bne_iff_ne.mpr c5)<|T_ed 8 [8,11,44] [(52,vT)]<|T_tz 52<|ar 5<|T_nr 3 [4,5] [vu d,vF] hQ h
end bX
/-! (*moraine/trace.Trace).none -/
namespace bB
def K0:=Func.code f57
end bB
def bB.pt(tv:zW)(H:zV)(R:zj):Prop:=
 eK tv (
 R vT H) (λa=>
 ∃x,hat H a=some (vp x)/\
 eK x (
 R vT H) (λxA=>
 ∃b,hat H (a.add 1029)=some (vi b)/\
 R (.bool (b==1)) H))
namespace bB
theorem link(h:pt a H b):C a H b:=by
 refine T_en K0 19 func57 ?_
 intro w0 Q hQ
 unfold pt at h
 refine T_su [(0,vp a)]<|ar 0<|T_ed 1 [] []<|ar 1<|T_nd 1 [] [(3,vp a)] ?_
 rcases a with _ | R
 ·rw[onPtr_none]at h
  exact T_nr 16 [2] [vT] hQ h
 rw[onPtr_some]at h
 refine T_n 5 [(0,vq R),(5,vF),(8,vq R)] ?_
 obtain⟨x,q1,h⟩:=h
 refine T_l1 9 23 q1 [8] ?_
 rcases x with _ | xA
 ·rw[onPtr_none]at h
  exact T_nr 10 [2] [vT] hQ h
 rw[onPtr_some]at h
 refine T_n 6 [(12,vF),(15,vq (R.add 1029))] ?_
 obtain⟨tv,q2,h⟩:=h
 exact T_l1 16 3 q2 [15]<|T_nr 3 [2] [.bool (tv==1)] hQ h
end bB
variable{H:zV}{a:zW}{b:zj}{d g:Int}
/-! (*moraine/trace.Trace).round -/
namespace cM
def K0:=Func.code f58
def K2:=cb K0
def K4:=cb K2
def K5:=ca K4
def K7:=ca K5
def K8:=cb K5
def K9:=ca K8
def K10:=ca K9
def K12:=cb K10
def K14:=cb K12
def K17:=ca K14
def K19:=ca K17
def K21:=cb K19
def K23:=cb K21
def K29:=cb K23
def K30:=ca K29
def K31:=ca K30
def K33:=cb K31
def K38:=ca K33
def K40:=ca K38
def K42:=cb K40
def K43:=ca K42
end cM
def cM.pt(tv:zW)(H:zV)(R:zj):Prop:=
 ∃d,tv=some d/\
 ∃x,hat H d=some (vp x)/\
 ∃xA,x=some xA/\
 ∃b0,hat H xA=some (vp b0)/\
 ∃an,b0=some an/\
 ∃bz,hat H an=some (vp bz)/\
 ∃am,bz=some am/\
 ∃au,hat H am=some (vp au)/\
 ∃bb,hat H (d.add 1)=some (vi bb)/\
 ∀b H1,b=H.size->H1=H.push (.cells #[vi bb] 3)->aS H1 d 0 [vq xA]/\aS H1 xA 0 [vq an]/\aS H1 an 0 [vq am]/\aS H1 am 0 [vp au]/\
 bW.C au (some (ad b)) 1 1 H1 (λv H2=> ∃xB xN xC,v=vs xB xN xC/\
 ∃(bk:Bool->zk) (m11:Bool->Int->zV->Nat),bk false 0 H2/\ ∀g s29 H3,bk g s29 H3->
 if s29< (xN:Int)then(
 ∃f,xB=some f/\
 zv s29 xN/\
 ∃e,hat H3 (f.add (Int.toNat s29*1))=some (vi e)/\
 zv e 1024/\
 ∃a5,hat H3 ((d.add 2).add (Int.toNat e*1))=some (vi a5)/\
 if a5=1 then(
 (bk g (zY (s29+1)) H3/\m11 g (zY (s29+1)) H3<m11 g s29 H3))
 else
 ∃bs,hat H3 d=some (vp bs)/\
 ∃br,bs=some br/\
 ∃bn,hat H3 br=some (vp bn)/\
 ∃bp,bn=some bp/\
 ∃bj,hat H3 bp=some (vp bj)/\
 ∃be,bj=some be/\
 ∃a2,hat H3 be=some (vp a2)/\
 aV.C a2 e H3 (λb2 H4=> ∃ap ak a4 aa r y u rb,b2=.tuple #[.agg #[vi ap,vi ak,vi a4,vi aa,vi r,vi y,vi u],.bool rb]/\
 ∀a0 H5,a0=H4.size->H5=H4.push (.cells #[vi 0,vi 0,vi 0,vi 0,vi 0,vi 0,vi 0] 108)->
 (aL H5 (ad a0) 0 7)/\ ∀H6,H6=aN H5 (ad a0) [vi ap,vi ak,vi a4,vi aa,vi r,vi y,vi u] 0->
 ∃(bq:Bool->zW->zV->Prop) (m32:Bool->zW->zV->Nat),bq g (some (ad a0)) H6/\ ∀j s H7,bq j s H7->
 ∃a7,hat H7 (d.add 1027)=some (.map a7)/\
 ∃mr,a7=some mr/\
 ∃es cl ks,H7[mr]?=some (.map es cl)/\Ents (dc .i64) es.toList ks/\
 ∃al,(mget ks e).getD (vi 0)=vi al/\
 ∃sA,s=some sA/\
 ∃aq,hat H7 (sA.add 2)=some (vi aq)/\
 if al<aq then(
 ∃a6,hat H7 (d.add 1027)=some (.map a6)/\
 ∃bm,a6=some bm/\
 ∃bw cl_2 ks_2,H7[bm]?=some (.map bw cl_2)/\Ents (dc .i64) bw.toList ks_2/\
 ∃ac,(mget ks_2 e).getD (vi 0)=vi ac/\
 ∃aw,hat H7 (d.add 1027)=some (.map aw)/\
 ∃az,hat H7 (sA.add 2)=some (vi az)/\
 ∃a9,aw=some a9/\
 ∃bu cl_3 ks_3,H7[a9]?=some (.map bu cl_3)/\Ents (dc .i64) bu.toList ks_3/\
 ∀bl cl_4 H8,H8=bH H7 a9 (.map bl cl_4)->Ents (dc .i64) bl.toList (mput ks_3 e (vi az))->
 ∃a1,hat H8 (sA.add 2)=some (vi a1)/\
 ∃a8,hat H8 (sA.add 1)=some (vi a8)/\
 cY.C (some d) e ac a1 a8 H8 (λ_ H9=>
 ∃ax ao ay af ae ag ah,aS H9 sA 0 [vi ax,vi ao,vi ay,vi af,vi ae,vi ag,vi ah]/\
 ∀ab H10,ab=H9.size->H10=H9.push (.cells #[vi 0,vi 0,vi 0,vi 0,vi 0,vi 0,vi 0] 108)->
 (aL H10 (ad ab) 0 7)/\ ∀ba,ba=aN H10 (ad ab) [vi ax,vi ao,vi ay,vi af,vi ae,vi ag,vi ah] 0->
 ∃bf,hat ba d=some (vp bf)/\
 ∃bd,bf=some bd/\
 ∃bg,hat ba bd=some (vp bg)/\
 ∃bi,bg=some bi/\
 ∃bc,hat ba bi=some (vp bc)/\
 ∃bh,bc=some bh/\
 ∃a3,hat ba bh=some (vp a3)/\
 aV.C a3 e ba (λb1 bx=> ∃aj ai av o q m p bt,b1=.tuple #[.agg #[vi aj,vi ai,vi av,vi o,vi q,vi m,vi p],.bool bt]/\
 (aL bx (ad ab) 0 7)/\ ∀bo,bo=aN bx (ad ab) [vi aj,vi ai,vi av,vi o,vi q,vi m,vi p] 0->
 (bq true (some (ad ab)) bo/\m32 true (some (ad ab)) bo<m32 j s H7))))
 else
 (bk j (zY (s29+1)) H7/\m11 j (zY (s29+1)) H7<m11 g s29 H3)))
 else
 R (.bool g) H3)
namespace cM
theorem link(h:pt a H b):C a H b:=by
 refine T_en K0 109 func58 ?_
 intro w0 Q hQ
 unfold pt zY at h
 refine T_su [(0,vp a)]<|ar 0<|T_ed 1 [] []<|ar 1<|T_ed 1 [] [(3,vF)]<|T_sz<|T_sz ?_
 obtain⟨d,rfl,x,q1,xA,rfl,b0,q2,an,rfl,bz,q3,am,rfl,au,q4,bb,q5,h⟩:=h
 refine yW 2 (Code.ops K7) [(18,d,[vq xA]),(18,xA,[vq an]),(18,an,[vq am]),(18,am,[vp au]),(17,(d.add 1),[vi bb])] 21 (bv 21 0) (show aH _ _ _ from⟨⟨q1,trivial⟩,⟨q2,trivial⟩,⟨q3,trivial⟩,⟨q4,trivial⟩,⟨q5,trivial⟩,trivial⟩)<|T_gp 0 (some 9) (vq d) (bv 21 1) [(0,vq d),(3,vF),(9,vq d)]<|aF 1 10 (vq d) (bv 21 3) [9]<|aF 2 11 (vq d) (bv 21 7) [10]<|T_g1 3 12 (vq xA) (bv 21 15) [11] (aP 23 (vq d)) (yV 18 zw)<|aF 4 13 (vq xA) (bv 21 31) [12]<|aF 5 14 (vq xA) (bv 21 63) [13]<|T_g1 6 15 (vq an) (bv 21 127) [14] (aP 49 (vq xA)) (yV 18 yZ)<|aF 7 16 (vq an) (bv 21 255) [15]<|aF 8 17 (vq an) (bv 21 511) [16]<|T_g1 9 18 (vq am) (bv 21 1023) [17] (aP 52 (vq an)) (yV 18 yX)<|aF 10 19 (vq am) (bv 21 2047) [18]<|aF 11 20 (vq am) (bv 21 4095) [19]<|T_g1 12 21 (vp au) (bv 21 8191) [20] (aP 78 (vq am)) (yV 18 yQ)<|aF 13 22 (vq d) (bv 21 16383) []<|aF 14 23 (vq d) (bv 21 32767) [22]<|aF 15 24 (vq (d.add 1)) (bv 21 65535) [23]<|T_g1 16 25 (vi bb) (bv 21 131071) [24] (aP 3 (vq (d.add 1))) (yV 17 yJ)<|aF 20 29 (vi 0) (bv 21 1179647) []<|nN 17 (some 26) (bv 21 1310719) (λtv=>vs (pa tv) 1 1) (.cells #[vi bb] 3) (by kernel_rfl) (λ_=>by kernel_rfl) (by kernel_rfl) ?_
 intro tv H1 e10 e11
 replace h:=h tv H1 e10 e11
 obtain⟨f6,f7,f8,f9,h⟩:=h
 refine⟨[(0,vq d),(3,vF),(21,vp au),(26,vs (pa tv) 1 1),(29,vi 0)],pk,(show aH _ _ _ from⟨f6,f7,f8,f9,trivial,trivial⟩),?_⟩
 refine yY 18 (some 27) (bv 21 1572863) 45 #[vp au,vs (pa tv) 1 1] h ?_;clear h
 rintro v H2 ⟨xB,xN,xC,rfl,h⟩
 refine⟨[(0,vq d),(3,vF),(27,vs xB xN xC),(29,vi 0)],pk,(show aH _ _ _ from⟨trivial,trivial,trivial,trivial,trivial,trivial⟩),?_⟩
 refine T_g 19 (some 28) (vi xN) (bv 21 2097151) [(0,vq d),(3,vF),(27,vs xB xN xC),(28,vi xN),(29,vi 0)] (pure (.value (vi xN)):Sem Next) (λ_ _ _ _ _=>rfl)<|fm [(0,vq d),(3,vF),(27,vs xB xN xC),(28,vi xN),(29,vi 0)] sk<|yq<|aC<|T_bz 0 ?_
 obtain⟨bk,m11,i12,i13⟩:=h
 refine db (x:=K10) (σ:=Bool×Int) (λs_=> [(0,vq d),(3,.bool s_.1),(27,vs xB xN xC),(28,vi xN),(29,vi s_.2)]) (λs_ H=>bk s_.1 s_.2 H) (λs_ H=>m11 s_.1 s_.2 H) ((false,0):Bool×Int) (by kernel_rfl) i12 sk ?_
 rintro⟨g,s29⟩ H3 i14
 have h:=i13 g s29 H3 i14
 refine T_su [(0,vq d),(3,.bool g),(27,vs xB xN xC),(28,vi xN),(29,vi s29)]<|ar 3<|T_ed 1 [] [(30,.bool (decide (s29< (xN:Int))))]<|T_sz ?_
 revert h;refine iO_ (λc15 h=>?_) (λc15 h=>?_)
 ·refine aI 30 (zX c15)<|T_kt<|T_sz<|T_bz 1<|ar 4<|T_ud [30] [] ?_
  obtain⟨f,rfl,q17,h⟩:=h
  refine T_xd (some 31) 75 3 1 f xN xC .i64 s29 underlying75 q17.1 q17.2 [27] [(27,vs (some f) xN xC),(31,vq (f.add (Int.toNat s29*1)))] ?_
  obtain⟨e,q18,h⟩:=h
  refine T_l1 32 3 q18 [31]<|T_ed 1 [32] [(5,vi e)]<|T_sz<|ar 5<|T_nd 4 [] [(34,vi e),(36,vq (d.add 2))] ?_
  obtain⟨q19,h⟩:=h
  refine T_v1 37 (bE 103 (vq (d.add 2)) (vi e)) (vq ((d.add 2).add (Int.toNat e*1))) (λw _=>bF (P:=prog) (t:=103) (elem:=3) (sz:=1) (n:=1024) (a:=(d.add 2)) (k:=.i64) (i:=e) underlying103 (λ_=>by kernel_rfl) q19.1 q19.2 w) [34,36] ?_
  obtain⟨a5,q20,h⟩:=h
  refine T_l1 38 3 q20 [37]<|T_ed 1 [38] [(39,.bool (a5==1))] ?_
  revert h;refine iO_ (λc21 h=>?_) (λc21 h=>?_)
  ·exact aI 39 (zK c21)<|zz 1<|aA<|aM<|aC<|T_rz 15<|T_ed 2 [5,29,39] [(29,vi (zY (s29+1)))]<|aR ((g,(zY (s29+1))):Bool×Int) sk h
  refine aJ 39 (zJ c21)<|T_kt<|ar 6<|T_nd 3 [39] [(43,vq d)] ?_
  obtain⟨bs,q23,h⟩:=h
  refine T_l1 44 23 q23 [43] ?_
  obtain⟨br,rfl,h⟩:=h
  refine T_nd 2 [44] [(46,vq br)] ?_
  obtain⟨bn,q24,h⟩:=h
  refine T_l1 47 49 q24 [46] ?_
  obtain⟨bp,rfl,h⟩:=h
  refine T_nd 2 [47] [(49,vq bp)] ?_
  obtain⟨bj,q25,h⟩:=h
  refine T_l1 50 52 q25 [49] ?_
  obtain⟨be,rfl,h⟩:=h
  refine T_nd 2 [50] [(52,vq be)] ?_
  obtain⟨a2,q26,h⟩:=h
  refine T_l1 53 78 q26 [52]<|T_nd 1 [] [(54,vi e)]<|T_c (some 55) h ?_;clear h
  rintro b2 H4 ⟨ap,ak,a4,aa,r,y,u,rb,rfl,h⟩
  refine T_pd [53,54] [(55,.tuple #[.agg #[vi ap,vi ak,vi a4,vi aa,vi r,vi y,vi u],.bool rb])]<|T_nd 3 [55] [(56,.agg #[vi ap,vi ak,vi a4,vi aa,vi r,vi y,vi u]),(57,.bool rb)]<|T_nw (some 6) (λtv=>vp (pa tv)) (.cells #[vi 0,vi 0,vi 0,vi 0,vi 0,vi 0,vi 0] 108) ?_
  intro a0 H5 e27 e28
  replace h:=h a0 H5 e27 e28
  refine T_pd [] [(6,vp (pa a0))] ?_
  obtain⟨q30,h⟩:=h
  refine fp 108 [vi ap,vi ak,vi a4,vi aa,vi r,vi y,vi u] q30 ?_
  intro H6 e29
  replace h:=h H6 e29
  refine T_pd [56] []<|T_ed 1 [57] []<|T_bz 2 ?_
  obtain⟨bq,m32,i31,i32⟩:=h
  refine db (x:=K31) (σ:=Bool×zW) (λs_=> [(0,vq d),(3,.bool s_.1),(5,vi e),(6,vp s_.2),(27,vs (some f) xN xC),(28,vi xN),(29,vi s29)]) (λs_ H=>bq s_.1 s_.2 H) (λs_ H=>m32 s_.1 s_.2 H) ((g,(pa a0)):Bool×zW) (by kernel_rfl) i31 sk ?_
  rintro⟨j,s⟩ H7 i33
  have h:=i32 j s H7 i33
  refine T_su [(0,vq d),(3,.bool j),(5,vi e),(6,vp s),(27,vs (some f) xN xC),(28,vi xN),(29,vi s29)]<|T_sz<|T_sz<|nT 7<|T_q1 58 (vq d) []<|T_q1 59 (vq d) [58]<|T_q1 60 (vq (d.add 1027)) [59] ?_
  obtain⟨a7,q34,h⟩:=h
  refine kw (some 61) 102 q34 [60] [(61,.map a7)]<|T_q (some 62) (vi e) [(0,vq d),(3,.bool j),(5,vi e),(6,vp s),(27,vs (some f) xN xC),(28,vi xN),(29,vi s29),(61,.map a7),(62,vi e)] ?_
  obtain⟨mr,rfl,es,cl,ks,q35,q36,al,e67,h⟩:=h
  refine Q_op (some 63) (jm 102 (.map (some mr)) (vi e) false) (vi al) (λ_=>by kernel_rfl) (λw hw=>(ja (kk:=(dc .i64)) (z:=vi 0) underlying102 underlying3 (λ_=>by kernel_rfl) (by rw[hw];exact q35) q36 false).trans (by simp only[if_true,Bool.false_eq_true,if_false,e67])) [(0,vp (some d)),(3,.bool j),(5,vi e),(6,vp s),(27,vs (some f) xN xC),(28,vi xN),(29,vi s29),(63,vi al)] pk ?_
  obtain⟨sA,rfl,h⟩:=h
  refine T_q (some 64) (vq (sA.add 2)) [(0,vq d),(3,.bool j),(5,vi e),(6,vq sA),(27,vs (some f) xN xC),(28,vi xN),(29,vi s29),(63,vi al),(64,vq (sA.add 2))] ?_
  obtain⟨aq,q38,h⟩:=h
  refine kw (some 65) 3 q38 [64] [(65,vi aq)]<|T_q1 66 (.bool (decide (al<aq))) [63,65]<|jM [(0,vq d),(3,.bool j),(5,vi e),(6,vq sA),(27,vs (some f) xN xC),(28,vi xN),(29,vi s29),(66,.bool (decide (al<aq)))] sk<|T_qe ?_
  revert h;refine iO_ (λc39 h=>?_) (λc39 h=>?_)
  ·refine aI 66 (zX c39)<|T_kt<|T_sz<|T_bz 3<|ar 9<|T_n 3 [(0,vq d),(5,vi e),(6,vq sA),(27,vs (some f) xN xC),(28,vi xN),(29,vi s29),(87,vq (d.add 1027))] ?_
   obtain⟨a6,q41,h⟩:=h
   refine T_l1 88 102 q41 [87]<|T_nd 1 [] [(89,vi e)] ?_
   obtain⟨bm,rfl,bw,cl_2,ks_2,q42,q43,ac,e65,h⟩:=h
   refine T_v1 90 (jm 102 (.map (some bm)) (vi e) false) (vi ac) (λw hw=>(ja (kk:=(dc .i64)) (z:=vi 0) underlying102 underlying3 (λ_=>by kernel_rfl) (by rw[hw];exact q42) q43 false).trans (by simp only[if_true,Bool.false_eq_true,if_false,e65])) [88,89]<|T_ed 1 [90] [(8,vi ac)]<|T_sz ?_
   obtain⟨aw,q45,az,q46,h⟩:=h
   refine yW 10 (Code.ops K43) [(7,(d.add 1027),[.map aw]),(7,(sA.add 2),[vi az])] 8 (bv 8 0) (show aH _ _ _ from⟨⟨q45,trivial⟩,⟨q46,trivial⟩,trivial⟩)<|T_gp 0 (some 91) (vq d) (bv 8 1) [(0,vq d),(5,vi e),(6,vq sA),(8,vi ac),(27,vs (some f) xN xC),(28,vi xN),(29,vi s29),(91,vq d)]<|aF 1 92 (vq d) (bv 8 3) [91]<|aF 2 93 (vq (d.add 1027)) (bv 8 7) [92]<|T_g1 3 94 (.map aw) (bv 8 15) [93] (aP 102 (vq (d.add 1027))) (yV 7 zw)<|aF 4 95 (vi e) (bv 8 31) []<|aF 5 96 (vq (sA.add 2)) (bv 8 63) []<|T_g1 6 97 (vi az) (bv 8 127) [96] (aP 3 (vq (sA.add 2))) (yV 7 yZ) ?_
   obtain⟨a9,rfl,bu,cl_3,ks_3,q47,q48,h⟩:=h
   refine fQ 7 none (bv 8 255) (j8 102 (.map (some a9)) (vi e) (vi az)) (λHz=> ∃es2 cl2,Hz=bH H7 a9 (.map es2 cl2)/\Ents (dc .i64) es2.toList (mput ks_3 e (vi az))) (by kernel_rfl) (λ_=>by kernel_rfl) (λw hw=>by obtain⟨es2,cl2,q1,q2⟩:=m8 (kk:=(dc .i64)) (P:=prog) (w:=w) (k:=e) (v:=vi az) underlying102 underlying3 (by rw[hw];exact q47) q48;exact⟨_,q1,⟨rfl,rfl,rfl,Nat.le_refl _⟩,es2,cl2,by rw[<-hw],q2⟩) (by kernel_rfl) ?_
   rintro H8 ⟨bl,cl_4,e50,e51⟩
   replace h:=h bl cl_4 H8 e50 e51
   refine⟨[(0,vq d),(5,vi e),(6,vq sA),(8,vi ac),(27,vs (some f) xN xC),(28,vi xN),(29,vi s29)],pk,(show aH _ _ _ from⟨trivial,trivial,trivial⟩),?_⟩
   refine fm [(0,vq d),(5,vi e),(6,vq sA),(8,vi ac),(27,vs (some f) xN xC),(28,vi xN),(29,vi s29)] sk ?_
   refine yq<|aC<|ar 11<|T_n 4 [(0,vq d),(5,vi e),(6,vq sA),(27,vs (some f) xN xC),(28,vi xN),(29,vi s29),(98,vq d),(99,vi e),(100,vi ac),(101,vq (sA.add 2))] ?_
   obtain⟨a1,q52,h⟩:=h
   refine T_l1 102 3 q52 [101]<|T_nd 1 [] [(103,vq (sA.add 1))] ?_
   obtain⟨a8,q53,h⟩:=h
   refine T_l1 104 3 q53 [103]<|T_c (some 105) h ?_;clear h
   intro v_3 H9 h
   refine T_pd [98,99,100,102,104] []<|T_e<|T_rz 12<|T_nd 1 [] [(3,vT)]<|zq<|aD<|aC<|T_sz<|ar 13 ?_
   obtain⟨ax,ao,ay,af,ae,ag,ah,q54,h⟩:=h
   refine T_lr 106 108 q54 [6]<|T_e<|T_rz 14<|T_nw (some 6) (λtv=>vp (pa tv)) (.cells #[vi 0,vi 0,vi 0,vi 0,vi 0,vi 0,vi 0] 108) ?_
   intro ab H10 e55 e56
   replace h:=h ab H10 e55 e56
   refine T_pd [] [(6,vp (pa ab))] ?_
   obtain⟨q58,h⟩:=h
   refine fp 108 [vi ax,vi ao,vi ay,vi af,vi ae,vi ag,vi ah] q58 ?_
   intro ba e57
   replace h:=h ba e57
   refine T_pd [106] []<|T_e<|T_rz 8<|T_nd 3 [] [(70,vq d)] ?_
   obtain⟨bf,q59,h⟩:=h
   refine T_l1 71 23 q59 [70] ?_
   obtain⟨bd,rfl,h⟩:=h
   refine T_nd 2 [71] [(73,vq bd)] ?_
   obtain⟨bg,q60,h⟩:=h
   refine T_l1 74 49 q60 [73] ?_
   obtain⟨bi,rfl,h⟩:=h
   refine T_nd 2 [74] [(76,vq bi)] ?_
   obtain⟨bc,q61,h⟩:=h
   refine T_l1 77 52 q61 [76] ?_
   obtain⟨bh,rfl,h⟩:=h
   refine T_nd 2 [77] [(79,vq bh)] ?_
   obtain⟨a3,q62,h⟩:=h
   refine T_l1 80 78 q62 [79]<|T_nd 1 [] [(81,vi e)]<|T_c (some 82) h ?_;clear h
   rintro b1 bx ⟨aj,ai,av,o,q,m,p,bt,rfl,h⟩
   refine T_pd [80,81] [(82,.tuple #[.agg #[vi aj,vi ai,vi av,vi o,vi q,vi m,vi p],.bool bt])]<|T_nd 3 [82] [(83,.agg #[vi aj,vi ai,vi av,vi o,vi q,vi m,vi p])] ?_
   obtain⟨q64,h⟩:=h
   refine fp 108 [vi aj,vi ai,vi av,vi o,vi q,vi m,vi p] q64 ?_
   intro bo e63
   replace h:=h bo e63
   exact T_pd [83] []<|T_e<|aR ((true,(pa ab)):Bool×zW) sk h
  exact aJ 66 (zQ c39)<|zz 2<|aA<|aA<|aM<|aD<|aC<|T_rz 15<|T_ne 2 [(0,vq d),(3,.bool j),(27,vs (some f) xN xC),(28,vi xN),(29,vi (zY (s29+1)))]<|aR ((j,(zY (s29+1))):Bool×Int) sk h
 exact aJ 30 (zQ c15)<|zz 0<|aA<|aA<|aM<|aC<|ar 16<|T_nr 2 [2] [.bool g] hQ h
end cM
/-! (*moraine/trace.Trace).look -/
namespace cY
def K0:=Func.code f72
def K2:=cb K0
def K4:=cb K2
def K6:=cb K4
def K7:=ca K6
def K8:=ca K7
end cY
def cY.pt(tv:zW)(d e to a:Int)(H:zV)(R:zj):Prop:=
 ∀b H1,b=H.size->H1=H.push (.cells #[vp tv] 37)->
 ∃(I9:zk) (m9:Int->zV->Nat),I9 e H1/\ ∀i H2,I9 i H2->
 if((decide (i<to)) && (a !=3))=true then(
 if((a !=1) || ((Int.tmod i 2)==1))=true then(
 cD.C (zY ((zY (d*64))+i)) (some (ad b)) H2 (λ_ H3=>
 (I9 (zY (i+1)) H3/\m9 (zY (i+1)) H3<m9 i H2)))
 else
 (I9 (zY (i+1)) H2/\m9 (zY (i+1)) H2<m9 i H2))
 else
 R (.tuple #[]) H2
namespace cY
theorem link{to R:Int}(h:pt a d g to R H b):C a d g to R H b:=by
 refine T_en K0 36 func72 ?_
 intro w0 Q hQ
 unfold pt zY at h
 refine T_su [(0,vp a),(1,vi d),(2,vi g),(3,vi to),(4,vi R)]<|ar 0<|T_nw (some 5) (λe=>vp (pa e)) (.cells #[vp a] 37) ?_
 intro e H1 e1 e2
 replace h:=h e H1 e1 e2
 refine T_pd [0] [(5,vp (pa e))]<|T_e<|ar 1<|T_ed 2 [5] [(10,.func (.func 112) #[] #[vp (pa e)])]<|ar 2<|T_ed 2 [2] [(11,vi g)]<|T_bz 0 ?_
 obtain⟨I9,m9,i3,i4⟩:=h
 refine db (x:=K8) (σ:=Int) (λs_=> [(1,vi d),(3,vi to),(4,vi R),(10,.func (.func 112) #[] #[vp (pa e)]),(11,vi s_)]) (λs_ H=>I9 s_ H) (λs_ H=>m9 s_ H) (g:Int) (by kernel_rfl) i3 sk ?_
 rintro i H2 i5
 have h:=i4 i H2 i5
 refine T_su [(1,vi d),(3,vi to),(4,vi R),(10,.func (.func 112) #[] #[vp (pa e)]),(11,vi i)]<|T_sz<|ar 3 ?_
 refine fe [(1,vi d),(3,vi to),(4,vi R),(10,.func (.func 112) #[] #[vp (pa e)]),(11,vi i),(20,.bool ((decide (i<to)) && (R !=3)))] ?_ ?_
 ·refine aC ?_
  revert h;refine iO_ (λc8 h=>?_) (λc8 h=>?_)
  ·refine aI 20 c8<|T_kt<|T_sz<|T_bz 1<|ar 5 ?_
   refine fe [(1,vi d),(3,vi to),(4,vi R),(10,.func (.func 112) #[] #[vp (pa e)]),(11,vi i),(29,.bool ((R !=1) || ((Int.tmod i 2)==1)))] ?_ ?_
   ·refine aC ?_
    revert h;refine iO_ (λc12 h=>?_) (λc12 h=>?_)
    ·refine aI 29 c12<|T_rz 6<|T_n 5 [(1,vi d),(3,vi to),(4,vi R),(10,.func (.func 112) #[] #[vp (pa e)]),(11,vi i),(30,.func (.func 112) #[] #[vp (pa e)]),(34,vi (zY ((zY (d*64))+i)))]<|T_c (some 35) h ?_;clear h
     intro v H3 h
     exact T_pd [30,34] []<|zq<|aD<|aC<|T_rz 4<|T_ed 3 [11] [(11,vi (zY (i+1)))]<|aR ((zY (i+1)):Int) sk h
    exact aJ 29 (zZ c12)<|T_k<|aD<|aC<|T_rz 4<|T_ne 3 [(1,vi d),(3,vi to),(4,vi R),(10,.func (.func 112) #[] #[vp (pa e)]),(11,vi (zY (i+1)))]<|aR ((zY (i+1)):Int) sk h
   intro hk
   refine T_n 3 [(1,vi d),(3,vi to),(4,vi R),(10,.func (.func 112) #[] #[vp (pa e)]),(11,vi i),(25,.bool (R !=1))] ?_
   by_cases c10:R=1
   ·have b11:(R !=1)=false:=bne_eq_false_iff_eq.mpr c10
    refine bI [(1,vi d),(3,vi to),(4,vi R),(10,.func (.func 112) #[] #[vp (pa e)]),(11,vi i),(25,vF)] (by rw[b11]) ?_
    refine T_nd 4 [25] [(29,.bool ((Int.tmod i 2)==1))]<|zq<|S_bd 29 (b:=((Int.tmod i 2)==1)) (v:=((R !=1) || ((Int.tmod i 2)==1))) (by simp only[b11,BL]) ?_
    exact hk
   have b11:(R !=1)=true:=bne_iff_ne.mpr c10
   refine bI [(1,vi d),(3,vi to),(4,vi R),(10,.func (.func 112) #[] #[vp (pa e)]),(11,vi i),(25,vT)] (by rw[b11]) ?_
   refine T_nd 4 [25] [(29,vT)]<|zq<|S_bd 29 (b:=true) (v:=((R !=1) || ((Int.tmod i 2)==1))) (by simp only[b11,BL]) ?_
   exact hk
  exact aJ 20 (zZ c8)<|zz 0<|aA<|aA<|aM<|fx (fn:=f72) [] hQ (show dV _ _ _ [] _ from .nil) h
 intro hk
 refine T_n 4 [(1,vi d),(3,vi to),(4,vi R),(10,.func (.func 112) #[] #[vp (pa e)]),(11,vi i),(17,.bool (decide (i<to)))] ?_
 by_cases c6:i<to
 ·have b7:(decide (i<to))=true:=zX c6
  refine bI [(1,vi d),(3,vi to),(4,vi R),(10,.func (.func 112) #[] #[vp (pa e)]),(11,vi i),(17,vT)] (by rw[b7]) ?_
  refine T_nd 3 [17] [(20,.bool (R !=3))]<|zq<|S_bd 20 (b:=(R !=3)) (v:=((decide (i<to)) && (R !=3))) (by simp only[b7,BL]) ?_
  exact hk
 have b7:(decide (i<to))=false:=zQ c6
 refine bI [(1,vi d),(3,vi to),(4,vi R),(10,.func (.func 112) #[] #[vp (pa e)]),(11,vi i),(17,vF)] (by rw[b7]) ?_
 refine T_nd 3 [17] [(20,vF)]<|zq<|S_bd 20 (b:=false) (v:=((decide (i<to)) && (R !=3))) (by simp only[b7,BL]) ?_
 exact hk
end cY
/-! (*moraine/trace.Trace).Weaks.1 -/
namespace aY
def K0:=Func.code f74
def K2:=cb K0
def K3:=ca K2
def K4:=ca K3
end aY
def aY.pt(d f to:Int)(e:zW)(H:zV)(R:zj):Prop:=
 ∃(I5:zk) (m5:Int->zV->Nat),I5 f H/\ ∀i H1,I5 i H1->
 if i<to then(
 ∃a,e=some a/\
 ∃xB xN xC,hat H1 a=some (vs xB xN xC)/\
 ∀b H2,b=H1.size->H2=H1.push (.cells #[vi (zY ((zY (d*64))+i))] 3)->
 fO 1 3 8 [vi 0] xB xN xC (some (ad b)) 1 H2 (λap g H3=>
 (aL H3 a 0 1)/\ ∀H4,H4=aN H3 a [vs ap (xN+1) g] 0->
 (I5 (zY (i+2)) H4/\m5 (zY (i+2)) H4<m5 i H1)))
 else
 R (.tuple #[]) H1
namespace aY
theorem link{to:Int}(h:pt d g to a H b):C d g to a H b:=by
 refine T_en K0 21 func74 ?_
 intro w0 Q hQ
 unfold pt zY at h
 refine T_su [(0,vi d),(1,vi g),(2,vi to),(3,vp a)]<|ar 0<|T_ed 2 [1] [(7,vi g)]<|T_bz 0 ?_
 obtain⟨I5,m5,i1,i2⟩:=h
 refine db (x:=K4) (σ:=Int) (λs_=> [(0,vi d),(2,vi to),(3,vp a),(7,vi s_)]) (λs_ H=>I5 s_ H) (λs_ H=>m5 s_ H) (g:Int) (by kernel_rfl) i1 sk ?_
 rintro i H1 i3
 have h:=i2 i H1 i3
 refine T_su [(0,vi d),(2,vi to),(3,vp a),(7,vi i)]<|T_sz<|ar 1<|T_ed 3 [] [(11,.bool (decide (i<to)))] ?_
 revert h;refine iO_ (λc4 h=>?_) (λc4 h=>?_)
 ·refine aI 11 (zX c4)<|T_kt<|T_sz<|T_bz 1<|T_rz 3<|T_ud [11] [] ?_
  obtain⟨R,rfl,xB,xN,xC,q6,h⟩:=h
  refine T_ld (some 14) 75 q6 [3] [(3,vq R),(14,vs xB xN xC)]<|T_nd 4 [] [(18,vi (zY ((zY (d*64))+i)))]<|T_nw (some 19) (λe=>vs (pa e) 1 1) (.cells #[vi (zY ((zY (d*64))+i))] 3) ?_
  intro e H2 e7 e8
  replace h:=h e H2 e7 e8
  refine T_pd [18] [(19,vs (pa e) 1 1)]<|N_op (some 20) (fy #[75,75] 75 #[vs xB xN xC,vs (pa e) 1 1]) _ (λ_=>by kernel_rfl) (fB (T:=3) (sz:=1) (bytes:=8) (zero:=(vi 0:Value)) underlying75 underlying75 rfl (show prog.info? 3=some t3 from by kernel_rfl) (by kernel_rfl) (by kernel_rfl) (by decide) (by kernel_rfl) (by first | exact h | (simpa only[Value.cells,List.toList_toArray]using h))) ?_;clear h
  rintro _ H3 ⟨ap,f,rfl,h⟩
  refine T_pd [14,19] [(20,vs ap (xN+1) f)] ?_
  obtain⟨q10,h⟩:=h
  refine gD 75 (vs ap (xN+1) f) q10 ?_
  intro H4 e9
  replace h:=h H4 e9
  exact T_pd [20] []<|zq<|aD<|aC<|T_rz 2<|T_ed 3 [7] [(7,vi (zY (i+2)))]<|aR ((zY (i+2)):Int) sk h
 exact aJ 11 (zQ c4)<|zz 0<|aA<|aA<|aM<|fx (fn:=f74) [] hQ (show dV _ _ _ [] _ from .nil) h
end aY
/-! (*moraine/trace.Trace).Ended -/
namespace cO
def K0:=Func.code f100
end cO
def cO.pt(tv:zW)(H:zV)(R:zj):Prop:=
 bB.C tv H (λv H1=> ∃x,v=.bool x/\
 R (.bool x) H1)
namespace cO
theorem link(h:pt a H b):C a H b:=by
 refine T_en K0 5 func100 ?_
 intro w0 Q hQ
 unfold pt at h
 refine T_su [(0,vp a)]<|ar 0<|T_ed 1 [] []<|ar 1<|T_n 1 [(3,vp a)]<|T_c (some 4) h ?_;clear h
 rintro v H1 ⟨x,rfl,h⟩
 refine⟨[(4,.bool x)],pk,?_⟩
 exact T_nr 1 [2] [.bool x] hQ h
end cO
/-! (*moraine/trace.Trace).Put -/
namespace dp
def K0:=Func.code f102
def K2:=cb K0
def K4:=cb K2
def K11:=ca K4
end dp
def dp.pt(tv:zW)(d b:Int)(H:zV)(R:zj):Prop:=
 bB.C tv H (λv H1=> ∃x,v=.bool x/\
 if x=true then(
 R (vu 20) H1)
 else
 ∃a,tv=some a/\
 ∃af,hat H1 a=some (vp af)/\
 ∃f,af=some f/\
 ∃ag,hat H1 f=some (vp ag)/\
 ∃e,ag=some e/\
 ∃g,hat H1 e=some (vp g)/\
 ∃m,hat H1 (a.add 1)=some (vi m)/\
 bO.C g m 0 2 H1 (λal H2=> ∃ra rb,al=.tuple #[vi ra,vi rb]/\
 if rb=0 then(
 ∃z,hat H2 a=some (vp z)/\
 ∃u,z=some u/\
 ∃y,hat H2 u=some (vp y)/\
 ∃t,y=some t/\
 ∃ab,hat H2 t=some (vp ab)/\
 ∃aa,ab=some aa/\
 ∃o,hat H2 aa=some (vp o)/\
 bG.C o ra d H2 (λak H3=> ∃ah,ak=vi ah/\
 ∃r,hat H3 a=some (vp r)/\
 ∃q,r=some q/\
 ∃p,hat H3 q=some (vp p)/\
 ∃k,p=some k/\
 ∃n,hat H3 k=some (vp n)/\
 ∃s,n=some s/\
 ∃i,hat H3 s=some (vp i)/\
 bG.C i (zY (ra+1)) b H3 (λaj H4=> ∃ae,aj=vi ae/\
 fD.C 1 ra H4 (λai H5=> ∃j ac,ai=.tuple #[vu j,vi ac]/\
 R (vu j) H5))))
 else
 R (vu 20) H2))
namespace dp
theorem link(h:pt a d g H b):C a d g H b:=by
 refine T_en K0 72 func102 ?_
 intro w0 Q hQ
 unfold pt zY at h
 refine T_su [(0,vp a),(1,vu d),(2,vu g)]<|ar 0<|T_ed 1 [] []<|T_sz<|ar 1<|T_nd 1 [] [(11,vp a)]<|T_c (some 12) h ?_;clear h
 rintro v H1 ⟨x,rfl,h⟩
 refine T_pd [11] [(12,.bool x)]<|T_e ?_
 revert h;refine iO_ (λc1 h=>?_) (λc1 h=>?_)
 ·exact aI 12 c1<|ar 2<|T_nr 1 [6] [vu 20] hQ h
 refine aJ 12 (zZ c1)<|T_kt<|T_sz ?_
 obtain⟨R,rfl,af,q3,f,rfl,ag,q4,e,rfl,tv,q5,m,q6,h⟩:=h
 refine yW 3 (Code.ops K11) [(14,R,[vq f]),(14,f,[vq e]),(14,e,[vp tv]),(14,(R.add 1),[vi m])] 20 (bv 20 0) (show aH _ _ _ from⟨⟨q3,trivial⟩,⟨q4,trivial⟩,⟨q5,trivial⟩,⟨q6,trivial⟩,trivial⟩)<|T_gp 0 (some 14) (vq R) (bv 20 1) [(0,vq R),(1,vu d),(2,vu g),(14,vq R)]<|aF 1 15 (vq R) (bv 20 3) [14]<|aF 2 16 (vq R) (bv 20 7) [15]<|T_g1 3 17 (vq f) (bv 20 15) [16] (aP 23 (vq R)) (yV 14 zw)<|aF 4 18 (vq f) (bv 20 31) [17]<|aF 5 19 (vq f) (bv 20 63) [18]<|T_g1 6 20 (vq e) (bv 20 127) [19] (aP 49 (vq f)) (yV 14 yZ)<|aF 7 21 (vq e) (bv 20 255) [20]<|aF 8 22 (vq e) (bv 20 511) [21]<|T_g1 9 23 (vp tv) (bv 20 1023) [22] (aP 52 (vq e)) (yV 14 yX)<|aF 10 24 (vq R) (bv 20 2047) []<|aF 11 25 (vq R) (bv 20 4095) [24]<|aF 12 26 (vq (R.add 1)) (bv 20 8191) [25]<|T_g1 13 27 (vi m) (bv 20 16383) [26] (aP 3 (vq (R.add 1))) (yV 14 yQ)<|yY 14 (some 28) (bv 20 32767) 53 #[vp tv,vi m,vi 0,vi 2] h ?_;clear h
 rintro al H2 ⟨ra,rb,rfl,h⟩
 refine⟨[(0,vq R),(1,vu d),(2,vu g),(28,.tuple #[vi ra,vi rb])],pk,(show aH _ _ _ from⟨trivial,trivial,trivial,trivial,trivial⟩),?_⟩
 refine T_g 15 (some 13) (.tuple #[vi ra,vi rb]) (bv 20 65535) [(0,vq R),(1,vu d),(2,vu g),(13,.tuple #[vi ra,vi rb])] (pure (.value (.tuple #[vi ra,vi rb])):Sem Next) (λ_ _ _ _ _=>rfl)<|T_g1 16 29 (vi ra) (bv 20 131071) [] (pure (.value (vi ra)):Sem Next) (λ_ _ _ _ _=>rfl)<|T_g1 17 30 (vi rb) (bv 20 262143) [13] (pure (.value (vi rb)):Sem Next) (λ_ _ _ _ _=>rfl)<|T_g1 18 7 (vi ra) (bv 20 524287) [29] (pure (.value (vi ra)):Sem Next) (λ_ _ _ _ _=>rfl)<|T_g1 19 8 (vi rb) (bv 20 1048575) [30] (pure (.value (vi rb)):Sem Next) (λ_ _ _ _ _=>rfl)<|fm [(0,vq R),(1,vu d),(2,vu g),(7,vi ra),(8,vi rb)] sk<|yq<|aC<|T_sz<|ar 4<|T_ne 2 [(0,vq R),(1,vu d),(2,vu g),(7,vi ra),(32,.bool (rb !=0))] ?_
 revert h;refine iO_ (λc7 h=>?_) (λc7 h=>?_)
 ·refine aJ 32 (bne_eq_false_iff_eq.mpr c7)<|T_kt<|ar 6<|T_nd 3 [32] [(35,vq R)] ?_
  obtain⟨z,q9,h⟩:=h
  refine T_l1 36 23 q9 [35] ?_
  obtain⟨u,rfl,h⟩:=h
  refine T_nd 2 [36] [(38,vq u)] ?_
  obtain⟨y,q10,h⟩:=h
  refine T_l1 39 49 q10 [38] ?_
  obtain⟨t,rfl,h⟩:=h
  refine T_nd 2 [39] [(41,vq t)] ?_
  obtain⟨ab,q11,h⟩:=h
  refine T_l1 42 52 q11 [41] ?_
  obtain⟨aa,rfl,h⟩:=h
  refine T_nd 2 [42] [(44,vq aa)] ?_
  obtain⟨o,q12,h⟩:=h
  refine T_l1 45 78 q12 [44]<|T_nd 2 [1] [(46,vi ra),(47,vu d)]<|T_c (some 48) h ?_;clear h
  rintro ak H3 ⟨ah,rfl,h⟩
  refine T_pd [45,46,47] []<|T_e<|ar 7<|T_nd 3 [0] [(51,vq R)] ?_
  obtain⟨r,q13,h⟩:=h
  refine T_l1 52 23 q13 [51] ?_
  obtain⟨q,rfl,h⟩:=h
  refine T_nd 2 [52] [(54,vq q)] ?_
  obtain⟨p,q14,h⟩:=h
  refine T_l1 55 49 q14 [54] ?_
  obtain⟨k,rfl,h⟩:=h
  refine T_nd 2 [55] [(57,vq k)] ?_
  obtain⟨n,q15,h⟩:=h
  refine T_l1 58 52 q15 [57] ?_
  obtain⟨s,rfl,h⟩:=h
  refine T_nd 2 [58] [(60,vq s)] ?_
  obtain⟨i,q16,h⟩:=h
  refine T_l1 61 78 q16 [60]<|T_nd 3 [2] [(63,vi (zY (ra+1))),(64,vu g)]<|T_c (some 65) h ?_;clear h
  rintro aj H4 ⟨ae,rfl,h⟩
  refine⟨[(7,vi ra)],pk,?_⟩
  refine T_e<|ar 8<|T_n 1 [(67,vi ra)]<|T_c (some 68) h ?_;clear h
  rintro ai H5 ⟨j,ac,rfl,h⟩
  refine⟨[(68,.tuple #[vu j,vi ac])],pk,?_⟩
  exact T_ne 5 [(9,vu j)]<|ar 9<|T_nr 2 [6] [vu j] hQ h
 exact aI 32 (bne_iff_ne.mpr c7)<|ar 5<|T_nr 1 [6] [vu 20] hQ h
end dp
/-! (*moraine/trace.Trace).look.1 -/
namespace cD
def K0:=Func.code f112
def K2:=cb K0
end cD
def cD.pt(b:Int)(n:zW)(H:zV)(R:zj):Prop:=
 ∃a,n=some a/\
 ∃x,hat H a=some (vp x)/\
 ∃xA,x=some xA/\
 ∃s,hat H xA=some (vp s)/\
 ∃r,s=some r/\
 ∃t,hat H r=some (vp t)/\
 ∃o,t=some o/\
 ∃p,hat H o=some (vp p)/\
 ∃q,p=some q/\
 ∃k,hat H q=some (vp k)/\
 bN.C k b H (λv H1=> ∃ra rb,v=.tuple #[vu ra,vi rb]/\
 ∃aa,hat H1 a=some (vp aa)/\
 ∃g,aa=some g/\
 ∃z,hat H1 g=some (vp z)/\
 ∃e,z=some e/\
 ∃ab,hat H1 e=some (vp ab)/\
 ∃i,ab=some i/\
 ∃y,hat H1 i=some (vp y)/\
 ∃f,y=some f/\
 ∃d,hat H1 f=some (vp d)/\
 ∃j,hat H1 a=some (vp j)/\
 aQ.C j ra H1 (λae H2=> ∃m,ae=vu m/\aS H2 a 0 [vq g]/\aS H2 g 0 [vq e]/\aS H2 e 0 [vq i]/\aS H2 i 0 [vq f]/\aS H2 f 0 [vp d]/\
 bG.C d b m H2 (λac H3=> ∃u,ac=vi u/\
 R (.tuple #[]) H3)))
namespace cD
theorem link(h:pt d a H b):C d a H b:=by
 refine T_en K0 41 func112 ?_
 intro w0 Q hQ
 unfold pt at h
 refine T_su [(0,vi d),(1,vp a)]<|ar 0 ?_
 obtain⟨R,rfl,x,q1,h⟩:=h
 refine T_ld (some 6) 37 q1 [1] [(1,vq R),(6,vp x)] ?_
 obtain⟨xA,rfl,h⟩:=h
 refine T_nd 2 [6] [(8,vq xA)] ?_
 obtain⟨s,q2,h⟩:=h
 refine T_l1 9 23 q2 [8] ?_
 obtain⟨r,rfl,h⟩:=h
 refine T_nd 2 [9] [(11,vq r)] ?_
 obtain⟨t,q3,h⟩:=h
 refine T_l1 12 49 q3 [11] ?_
 obtain⟨o,rfl,h⟩:=h
 refine T_nd 2 [12] [(14,vq o)] ?_
 obtain⟨p,q4,h⟩:=h
 refine T_l1 15 52 q4 [14] ?_
 obtain⟨q,rfl,h⟩:=h
 refine T_nd 2 [15] [(17,vq q)] ?_
 obtain⟨k,q5,h⟩:=h
 refine T_l1 18 78 q5 [17]<|T_nd 1 [] [(19,vi d)]<|T_c (some 20) h ?_;clear h
 rintro v H1 ⟨ra,rb,rfl,h⟩
 refine T_pd [18,19] [(20,.tuple #[vu ra,vi rb])]<|T_ed 5 [20] [(3,vu ra)] ?_
 obtain⟨aa,q6,g,rfl,z,q7,e,rfl,ab,q8,i,rfl,y,q9,f,rfl,n,q10,j,q11,h⟩:=h
 refine yW 1 (Code.ops K2) [(17,R,[vq g]),(17,g,[vq e]),(17,e,[vq i]),(17,i,[vq f]),(17,f,[vp n]),(16,R,[vp j])] 18 (bv 18 0) (show aH _ _ _ from⟨⟨q6,trivial⟩,⟨q7,trivial⟩,⟨q8,trivial⟩,⟨q9,trivial⟩,⟨q10,trivial⟩,⟨q11,trivial⟩,trivial⟩)<|T_g 0 (some 23) (vq g) (bv 18 1) [(0,vi d),(1,vq R),(3,vu ra),(23,vq g)] (aP 37 (vq R)) (yV 17 zw)<|aF 1 24 (vq g) (bv 18 3) [23]<|aF 2 25 (vq g) (bv 18 7) [24]<|T_g1 3 26 (vq e) (bv 18 15) [25] (aP 23 (vq g)) (yV 17 yZ)<|aF 4 27 (vq e) (bv 18 31) [26]<|aF 5 28 (vq e) (bv 18 63) [27]<|T_g1 6 29 (vq i) (bv 18 127) [28] (aP 49 (vq e)) (yV 17 yX)<|aF 7 30 (vq i) (bv 18 255) [29]<|aF 8 31 (vq i) (bv 18 511) [30]<|T_g1 9 32 (vq f) (bv 18 1023) [31] (aP 52 (vq i)) (yV 17 yQ)<|aF 10 33 (vq f) (bv 18 2047) [32]<|aF 11 34 (vq f) (bv 18 4095) [33]<|T_g1 12 35 (vp n) (bv 18 8191) [34] (aP 78 (vq f)) (yV 17 yJ)<|aF 13 36 (vi d) (bv 18 16383) [0]<|T_g1 14 37 (vp j) (bv 18 32767) [1] (aP 37 (vq R)) (yV 16 yK)<|aF 15 38 (vu ra) (bv 18 65535) [3]<|yY 16 (some 39) (bv 18 131071) 13 #[vp j,vu ra] h ?_;clear h
 rintro ae H2 ⟨m,rfl,f12,f13,f14,f15,f16,h⟩
 refine⟨[(35,vp n),(36,vi d),(39,vu m)],pk,(show aH _ _ _ from⟨f12,f13,f14,f15,f16,trivial,trivial⟩),?_⟩
 refine yY 17 (some 40) (bv 18 262143) 54 #[vp n,vi d,vu m] h ?_;clear h
 rintro ac H3 ⟨u,rfl,h⟩
 refine⟨[],pk,(show aH _ _ _ from⟨trivial,trivial,trivial,trivial,trivial,trivial,trivial⟩),?_⟩
 refine fm [] sk ?_
 exact yq<|fx (fn:=f112) [] hQ (show dV _ _ _ [] _ from .nil) h
end cD
variable{a:zj}{b g:Int}{H:zV}{d:zW}
/-! (*moraine/seg.Mem).Read -/
namespace bN
def K0:=Func.code f33
end bN
def bN.pt(m:zW)(a:Int)(H:zV)(R:zj):Prop:=
 dP.C m a H (λv H1=> ∃x,v=vp x/\
 eK x (
 R (.tuple #[vu 0,vi 18]) H1) (λxA=>
 ∃b,hat H1 xA=some (vu b)/\
 R (.tuple #[vu b,vi 0]) H1))
namespace bN
theorem link(h:pt d b H a):C d b H a:=by
 refine T_en K0 15 func33 ?_
 intro w0 Q hQ
 unfold pt at h
 refine T_su [(0,vp d),(1,vi b)]<|ar 0<|T_ed 2 [] []<|T_sz<|ar 1<|T_n 2 [(7,vp d),(8,vi b)]<|T_c (some 9) h ?_;clear h
 rintro v H1 ⟨x,rfl,h⟩
 refine⟨[(9,vp x)],pk,?_⟩
 refine T_ne 1 [(6,vp x)]<|ar 2<|T_nd 1 [] [(10,vp x)] ?_
 rcases x with _ | xA
 ·rw[onPtr_none]at h
  exact T_ne 1 [(6,vp none),(11,vF)]<|T_fz 11<|T_kt<|ar 4<|T_nr 2 [4,5] [vu 0,vi 18] hQ h
 rw[onPtr_some]at h
 refine T_ne 1 [(6,vq xA),(11,vT)]<|T_tz 11<|ar 3<|T_n 2 [(13,vq xA)] ?_
 obtain⟨R,q1,h⟩:=h
 exact T_l1 14 28 q1 [13]<|T_nr 2 [4,5] [vu R,vi 0] hQ h
end bN
/-! (*moraine/seg.Mem).Seg -/
namespace aV
def K0:=Func.code f47
end aV
def aV.pt(m:zW)(y:Int)(H:zV)(R:zj):Prop:=
 ∀b H1,b=H.size->H1=H.push (.cells #[vi 0,vi 0,vi 0,vi 0,vi 0,vi 0,vi 0] 108)->
 dJ.C m y H1 (λv H2=> ∃x,v=vp x/\
 eK x (
 (aL H2 (ad b) 0 7)/\ ∀H3,H3=aN H2 (ad b) [vi 0,vi 0,vi 0,vi 0,vi 0,vi 0,vi 0] 0->
 ∃aa z rN p q r o,aS H3 (ad b) 0 [vi aa,vi z,vi rN,vi p,vi q,vi r,vi o]/\
 R (.tuple #[.agg #[vi aa,vi z,vi rN,vi p,vi q,vi r,vi o],vF]) H3) (λxA=>
 ∃s n xN a e f d,aS H2 xA 0 [vi s,vi n,vi xN,vi a,vi e,vi f,vi d]/\
 (aL H2 (ad b) 0 7)/\ ∀H4,H4=aN H2 (ad b) [vi s,vi n,vi xN,vi a,vi e,vi f,vi d] 0->
 ∃u t ab g j i k,aS H4 (ad b) 0 [vi u,vi t,vi ab,vi g,vi j,vi i,vi k]/\
 R (.tuple #[.agg #[vi u,vi t,vi ab,vi g,vi j,vi i,vi k],vT]) H4))
namespace aV
theorem link(h:pt d b H a):C d b H a:=by
 refine T_en K0 17 func47 ?_
 intro w0 Q hQ
 unfold pt at h
 refine T_su [(0,vp d),(1,vi b)]<|ar 0<|T_nw (some 4) (λy=>vp (pa y)) (.cells #[vi 0,vi 0,vi 0,vi 0,vi 0,vi 0,vi 0] 108) ?_
 intro y H1 e1 e2
 replace h:=h y H1 e1 e2
 refine T_pd [] [(4,vp (pa y))]<|T_ed 1 [] []<|ar 1<|T_nd 2 [0,1] [(7,vp d),(8,vi b)]<|T_c (some 9) h ?_;clear h
 rintro v H2 ⟨x,rfl,h⟩
 refine T_pd [7,8] [(9,vp x)]<|T_ed 1 [9] [(6,vp x)]<|T_sz<|ar 2<|T_nd 1 [] [(10,vp x)] ?_
 rcases x with _ | xA
 ·rw[onPtr_none]at h
  refine T_ed 1 [6,10] [(6,vp none),(11,vT)]<|T_tz 11<|ar 3<|T_nd 1 [6,11] [(12,.agg #[vi 0,vi 0,vi 0,vi 0,vi 0,vi 0,vi 0])] ?_
  obtain⟨q4,h⟩:=h
  refine fp 108 [vi 0,vi 0,vi 0,vi 0,vi 0,vi 0,vi 0] q4 ?_
  intro H3 e3
  replace h:=h H3 e3
  refine T_pd [12] []<|T_ed 1 [] [(5,vF)]<|nI (by kernel_rfl) ?_
  show At _ _ _ _ _ (Q .ret)
  obtain⟨aa,z,rN,p,q,r,o,q5,h⟩:=h
  exact m4 (fn:=f47) [.agg #[vi aa,vi z,vi rN,vi p,vi q,vi r,vi o],vF] hQ (show dV _ _ _ [.cell 4 108,.tmp 5] _ from .cell (by kernel_rfl) (gO (λ_=>by kernel_rfl) (λ_=>by kernel_rfl) q5) (.tmp (by kernel_rfl) (.nil))) h
 rw[onPtr_some]at h
 refine T_ed 1 [6,10] [(6,vq xA),(11,vF)]<|T_fz 11<|T_kt<|ar 4<|T_nd 3 [6,11] [(15,vq xA)] ?_
 obtain⟨s,n,xN,R,e,f,m,q6,h⟩:=h
 refine T_lr 16 108 q6 [15] ?_
 obtain⟨q8,h⟩:=h
 refine fp 108 [vi s,vi n,vi xN,vi R,vi e,vi f,vi m] q8 ?_
 intro H4 e7
 replace h:=h H4 e7
 refine T_pd [16] []<|T_ed 1 [] [(5,vT)]<|nI (by kernel_rfl) ?_
 show At _ _ _ _ _ (Q .ret)
 obtain⟨u,t,ab,g,j,i,k,q9,h⟩:=h
 exact m4 (fn:=f47) [.agg #[vi u,vi t,vi ab,vi g,vi j,vi i,vi k],vT] hQ (show dV _ _ _ [.cell 4 108,.tmp 5] _ from .cell (by kernel_rfl) (gO (λ_=>by kernel_rfl) (λ_=>by kernel_rfl) q9) (.tmp (by kernel_rfl) (.nil))) h
end aV
/-! (*moraine/seg.Mem).Write -/
namespace bG
def K0:=Func.code f54
end bG
def bG.pt(m:zW)(a wv:Int)(H:zV)(R:zj):Prop:=
 dP.C m a H (λv H1=> ∃x,v=vp x/\
 eK x (
 R (vi 18) H1) (λxA=>
 (aL H1 xA 0 1)/\ ∀H2,H2=aN H1 xA [vu wv] 0->
 R (vi 0) H2))
namespace bG
theorem link(h:pt d b g H a):C d b g H a:=by
 refine T_en K0 16 func54 ?_
 intro w0 Q hQ
 unfold pt at h
 refine T_su [(0,vp d),(1,vi b),(2,vu g)]<|ar 0<|T_ed 1 [] []<|ar 1<|T_nd 2 [0,1] [(8,vp d),(9,vi b)]<|T_c (some 10) h ?_;clear h
 rintro v H1 ⟨x,rfl,h⟩
 refine T_pd [8,9] [(10,vp x)]<|T_ed 1 [10] [(7,vp x)]<|T_sz<|ar 2<|T_nd 1 [] [(11,vp x)] ?_
 rcases x with _ | xA
 ·rw[onPtr_none]at h
  exact T_ed 1 [7,11] [(7,vp none),(12,vT)]<|T_tz 12<|ar 3<|T_nr 1 [6] [vi 18] hQ h
 rw[onPtr_some]at h
 refine T_ed 1 [7,11] [(7,vq xA),(12,vF)]<|T_fz 12<|T_kt<|ar 4<|T_n 3 [(14,vu g),(15,vq xA)] ?_
 obtain⟨q2,h⟩:=h
 refine gD 28 (vu g) q2 ?_
 intro H2 e1
 replace h:=h H2 e1
 refine⟨[],pk,?_⟩
 exact T_e<|ar 5<|T_nr 1 [6] [vi 0] hQ h
end bG
/-! (*moraine/seg.Mem).word -/
namespace dP
def K0:=Func.code f75
end dP
def dP.pt(m:zW)(b:Int)(H:zV)(R:zj):Prop:=
 if b<0 then(
 R (vp none) H)
 else
 dJ.C m (zY (Int.tdiv b 64)) H (λv H1=> ∃x,v=vp x/\
 eK x (
 R (vp none) H1) (λxA=>
 ∃d,hat H1 (xA.add 2)=some (vi d)/\
 if(Int.tmod b 64)>=d then(
 R (vp none) H1)
 else
 ((0:Int)<=(Int.tmod b 64)/\(Int.tmod b 64)< (64:Int))/\
 R (vq ((xA.add 8).add (Int.toNat (Int.tmod b 64)*1))) H1))
namespace dP
theorem link(h:pt d b H a):C d b H a:=by
 refine T_en K0 30 func75 ?_
 intro w0 Q hQ
 unfold pt zY at h
 refine T_su [(0,vp d),(1,vi b)]<|ar 0<|T_ed 1 [] []<|T_sz<|ar 1<|T_ed 2 [] [(7,.bool (decide (b<0)))] ?_
 revert h;refine iO_ (λc1 h=>?_) (λc1 h=>?_)
 ·exact aI 7 (zX c1)<|ar 2<|T_nr 1 [4] [vp none] hQ h
 refine aJ 7 (zQ c1)<|T_kt<|ar 3<|T_nd 3 [0,7] [(8,vp d),(10,vi (zY (Int.tdiv b 64)))]<|T_c (some 11) h ?_;clear h
 rintro v H1 ⟨x,rfl,h⟩
 refine T_pd [8,10] [(11,vp x)]<|T_ed 1 [11] [(5,vp x)]<|T_sz<|ar 4<|T_nd 1 [] [(12,vp x)] ?_
 rcases x with _ | xA
 ·rw[onPtr_none]at h
  exact T_ed 11 [5,12] [(5,vp none),(23,vT)]<|T_tz 23<|ar 5<|T_nr 1 [4] [vp none] hQ h
 rw[onPtr_some]at h
 refine T_nd 8 [5,12] [(5,vq xA),(14,vF),(16,vi (Int.tmod b 64)),(20,vq (xA.add 2))] ?_
 obtain⟨m,q3,h⟩:=h
 refine T_l1 21 3 q3 [20]<|T_ed 2 [14,16,21] [(23,.bool (decide ((Int.tmod b 64)>=m)))] ?_
 revert h;refine iO_ (λc4 h=>?_) (λc4 h=>?_)
 ·exact aI 23 (zX c4)<|ar 5<|T_nr 1 [4] [vp none] hQ h
 refine aJ 23 (zQ c4)<|T_kt<|ar 6<|T_n 5 [(26,vi (Int.tmod b 64)),(28,vq (xA.add 8))] ?_
 obtain⟨q6,h⟩:=h
 exact T_v1 29 (bE 159 (vq (xA.add 8)) (vi (Int.tmod b 64))) (vq ((xA.add 8).add (Int.toNat (Int.tmod b 64)*1))) (λw _=>bF (P:=prog) (t:=159) (elem:=28) (sz:=1) (n:=64) (a:=(xA.add 8)) (k:=.i64) (i:=(Int.tmod b 64)) underlying159 (λ_=>by kernel_rfl) q6.1 q6.2 w) [26,28]<|T_nr 1 [4] [vq ((xA.add 8).add (Int.toNat (Int.tmod b 64)*1))] hQ h
end dP
/-! (*moraine/seg.Mem).at -/
namespace dJ
def K0:=Func.code f91
end dJ
def dJ.pt(m:zW)(b:Int)(H:zV)(R:zj):Prop:=
 eK m (
 R (vp none) H) (λmA=>
 if b<0 then(
 R (vp none) H)
 else
 ∃xB xN xC,hat H mA=some (vs xB xN xC)/\
 if b>=(xN:Int)then(
 R (vp none) H)
 else
 ∃p g n,hat H mA=some (vs p g n)/\
 ∃d,p=some d/\
 zv b g/\
 ∃x,hat H ((d.add (Int.toNat b*72)).add 7)=some (vi x)/\
 if x=0 then(
 R (vp none) H)
 else
 ∃o f j,hat H mA=some (vs o f j)/\
 ∃e,o=some e/\
 zv b f/\
 R (vq (e.add (Int.toNat b*72))) H)
namespace dJ
theorem link(h:pt d b H a):C d b H a:=by
 refine T_en K0 37 func91 ?_
 intro w0 Q hQ
 unfold pt at h
 refine T_su [(0,vp d),(1,vi b)]<|ar 0<|T_ed 1 [] []<|T_sz<|ar 1<|T_nd 1 [] [(5,vp d)] ?_
 rcases d with _ | mA
 ·rw[onPtr_none]at h
  exact T_ed 25 [0,5] [(0,vp none),(30,vT)]<|T_tz 30<|ar 2<|T_nr 1 [4] [vp none] hQ h
 rw[onPtr_some]at h
 refine T_nd 6 [0,5] [(0,vq mA),(11,.bool (decide (b<0)))] ?_
 revert h;refine iO_ (λc1 h=>?_) (λc1 h=>?_)
 ·exact N_bd 11 (zX c1)<|T_ed 19 [11] [(30,vT)]<|T_tz 30<|ar 2<|T_nr 1 [4] [vp none] hQ h
 refine N_bd 11 (zQ c1)<|T_nd 4 [] [(12,vi b),(15,vq mA)] ?_
 obtain⟨xB,xN,xC,q3,h⟩:=h
 refine T_l1 16 155 q3 [15]<|T_nd 4 [11,12,16] [(20,.bool (decide (b>=(xN:Int))))] ?_
 revert h;refine iO_ (λc4 h=>?_) (λc4 h=>?_)
 ·exact N_bd 20 (zX c4)<|T_ed 10 [20] [(30,vT)]<|T_tz 30<|ar 2<|T_nr 1 [4] [vp none] hQ h
 refine N_bd 20 (zQ c4)<|T_nd 3 [] [(23,vq mA)] ?_
 obtain⟨p,g,n,q6,h⟩:=h
 refine T_l1 24 155 q6 [23]<|T_nd 1 [] [(25,vi b)] ?_
 obtain⟨R,rfl,q7,h⟩:=h
 refine T_xd (some 26) 155 161 72 R g n .i64 b underlying155 q7.1 q7.2 [24,25] [(26,vq (R.add (Int.toNat b*72)))]<|T_nd 1 [26] [(27,vq ((R.add (Int.toNat b*72)).add 7))] ?_
 obtain⟨x,q8,h⟩:=h
 refine T_l1 28 3 q8 [27]<|T_ed 2 [20,28] [(30,.bool (x==0))] ?_
 revert h;refine iO_ (λc9 h=>?_) (λc9 h=>?_)
 ·exact aI 30 (zK c9)<|ar 2<|T_nr 1 [4] [vp none] hQ h
 refine aJ 30 (zJ c9)<|T_kt<|ar 3<|T_nd 3 [0,30] [(33,vq mA)] ?_
 obtain⟨o,f,j,q11,h⟩:=h
 refine T_l1 34 155 q11 [33]<|T_nd 1 [1] [(35,vi b)] ?_
 obtain⟨e,rfl,q12,h⟩:=h
 exact T_ix (some 36) 155 161 72 e f j .i64 b underlying155 q12.1 q12.2 [(36,vq (e.add (Int.toNat b*72)))]<|T_nr 1 [4] [vq (e.add (Int.toNat b*72))] hQ h
end dJ
/-! (*moraine/seg.Mem).Bump -/
namespace dR
def K0:=Func.code f98
end dR
def dR.pt(m:zW)(a nv:Int)(H:zV)(R:zj):Prop:=
 dJ.C m a H (λv H1=> ∃x,v=vp x/\
 eK x (
 R (.tuple #[vi 0,vi 19]) H1) (λxA=>
 if nv<1 then(
 R (.tuple #[vi 0,vi 1]) H1)
 else
 ∃d,hat H1 (xA.add 2)=some (vi d)/\
 if nv>(zY (64-d))then(
 R (.tuple #[vi 0,vi 2]) H1)
 else
 ∃b,hat H1 (xA.add 2)=some (vi b)/\
 (aL H1 (xA.add 2) 0 1)/\ ∀H2,H2=aN H1 (xA.add 2) [vi (zY (b+nv))] 0->
 ∃e,hat H2 (xA.add 2)=some (vi e)/\
 R (.tuple #[vi (zY ((zY ((zY (a*64))+e))-nv)),vi 0]) H2))
namespace dR
theorem link(h:pt d b g H a):C d b g H a:=by
 refine T_en K0 47 func98 ?_
 intro w0 Q hQ
 unfold pt zY at h
 refine T_su [(0,vp d),(1,vi b),(2,vi g)]<|ar 0<|T_ed 2 [] []<|ar 1<|T_nd 2 [0] [(9,vp d),(10,vi b)]<|T_c (some 11) h ?_;clear h
 rintro v H1 ⟨x,rfl,h⟩
 refine T_pd [9,10] [(11,vp x)]<|T_ed 1 [11] [(8,vp x)]<|T_sz<|T_bz 0<|ar 2<|T_nd 1 [] [(13,vp x)] ?_
 rcases x with _ | xA
 ·rw[onPtr_none]at h
  exact T_ed 2 [8,13] [(8,vp none),(12,vT)]<|T_tz 12<|ar 3<|T_nr 2 [6,7] [vi 0,vi 19] hQ h
 rw[onPtr_some]at h
 refine T_ed 2 [8,13] [(8,vq xA),(12,vF)]<|T_fz 12<|ar 4<|T_ed 3 [12] [(15,.bool (decide (g<1)))] ?_
 revert h;refine iO_ (λc1 h=>?_) (λc1 h=>?_)
 ·exact aI 15 (zX c1)<|ar 5<|T_nr 2 [6,7] [vi 0,vi 1] hQ h
 refine aJ 15 (zQ c1)<|ar 6<|T_nd 5 [15] [(19,vi g),(23,vq (xA.add 2))] ?_
 obtain⟨nv,q3,h⟩:=h
 refine T_l1 24 3 q3 [23]<|T_ed 3 [19,24] [(18,.bool (decide (g>(zY (64-nv)))))] ?_
 revert h;refine iO_ (λc4 h=>?_) (λc4 h=>?_)
 ·exact aI 18 (zX c4)<|ar 7<|T_nr 2 [6,7] [vi 0,vi 2] hQ h
 refine aJ 18 (zQ c4)<|T_k<|aD<|aC<|ar 8<|T_nd 4 [18] [(27,vq xA),(30,vq (xA.add 2))] ?_
 obtain⟨R,q6,h⟩:=h
 refine T_l1 31 3 q6 [30]<|T_nd 5 [27,31] [(33,vi (zY (R+g))),(36,vq (xA.add 2))] ?_
 obtain⟨q8,h⟩:=h
 refine gD 3 (vi (zY (R+g))) q8 ?_
 intro H2 e7
 replace h:=h H2 e7
 refine T_pd [33,36] []<|T_e<|ar 9<|T_nd 6 [1,8] [(38,vi (zY (b*64))),(42,vq (xA.add 2))] ?_
 obtain⟨e,q9,h⟩:=h
 exact T_l1 43 3 q9 [42]<|T_nr 5 [6,7] [vi (zY ((zY ((zY (b*64))+e))-g)),vi 0] hQ h
end dR
/-! (*moraine/seg.Mem).Take -/
namespace eh
def K0:=Func.code f99
def K2:=cb K0
def K4:=cb K2
def K19:=cb K4
def K20:=ca K19
def K21:=cb K19
def K22:=ca K20
def K23:=ca K22
def K32:=cb K21
def K34:=cb K32
def K35:=ca K34
end eh
def eh.pt(m:zW)(d b:Int)(H:zV)(R:zj):Prop:=
 eK m (
 R (.tuple #[vi 0,vi 1]) H) (λmA=>
 if d<0 then(
 R (.tuple #[vi 0,vi 1]) H)
 else
 if d>4 then(
 R (.tuple #[vi 0,vi 1]) H)
 else
 if b<0 then(
 R (.tuple #[vi 0,vi 1]) H)
 else
 if b>3 then(
 R (.tuple #[vi 0,vi 1]) H)
 else
 ∃xB xN xC,hat H mA=some (vs xB xN xC)/\
 if(xN:Int)=0 then(
 R (.tuple #[vi 0,vi 1]) H)
 else
 ∃x,hat H (mA.add 2)=some (vi x)/\
 if x=0 then(
 R (.tuple #[vi 0,vi 2]) H)
 else
 ∃(y:zk) (m24:Int->zV->Nat),y 0 H/\ ∀k H1,y k H1->
 ∃u o p,hat H1 mA=some (vs u o p)/\
 ∃n,u=some n/\
 zv k o/\
 ∃r,hat H1 ((n.add (Int.toNat k*72)).add 7)=some (vi r)/\
 if r>0 then(
 (y (zY (k+1)) H1/\m24 (zY (k+1)) H1<m24 k H1))
 else
 ∃s,hat H1 (mA.add 1)=some (vi s)/\
 (aL H1 (mA.add 1) 0 1)/\ ∀H2,H2=aN H1 (mA.add 1) [vi (zY (s+1))] 0->
 ∃q,hat H2 (mA.add 2)=some (vi q)/\
 (aL H2 (mA.add 2) 0 1)/\ ∀H3,H3=aN H2 (mA.add 2) [vi (zY (q-1))] 0->
 ∃z f g,hat H3 mA=some (vs z f g)/\
 ∃j,hat H3 (mA.add 1)=some (vi j)/\
 ∃e,z=some e/\
 zv k f/\
 (aL H3 (e.add (Int.toNat k*72)) 0 72)/\ ∀H4,H4=aN H3 (e.add (Int.toNat k*72)) ([vi d,vi b,vi 0,vi 5,vi 5,vi 5,vi 5,vi j]++List.replicate 64 (vu 0):List Value) 0->
 R (.tuple #[vi k,vi 0]) H4)
namespace eh
theorem link{H:zV}(h:pt d b g H a):C d b g H a:=by
 refine T_en K0 83 func99 ?_
 intro w0 Q hQ
 unfold pt zY at h
 refine T_su [(0,vp d),(1,vi b),(2,vi g)]<|ar 0<|T_ed 2 [] []<|T_sz<|T_bz 0<|ar 1<|T_nd 1 [] [(10,vp d)] ?_
 rcases d with _ | mA
 ·rw[onPtr_none]at h
  exact T_ed 26 [0,10] [(0,vp none),(9,vT)]<|T_tz 9<|ar 2<|T_nr 2 [6,7] [vi 0,vi 1] hQ h
 rw[onPtr_some]at h
 refine T_nd 6 [0,10] [(0,vq mA),(16,.bool (decide (b<0)))] ?_
 revert h;refine iO_ (λc1 h=>?_) (λc1 h=>?_)
 ·exact N_bd 16 (zX c1)<|T_ed 20 [16] [(9,vT)]<|T_tz 9<|ar 2<|T_nr 2 [6,7] [vi 0,vi 1] hQ h
 refine N_bd 16 (zQ c1)<|T_nd 4 [16] [(20,.bool (decide (b>4)))] ?_
 revert h;refine iO_ (λc3 h=>?_) (λc3 h=>?_)
 ·exact N_bd 20 (zX c3)<|T_ed 16 [20] [(9,vT)]<|T_tz 9<|ar 2<|T_nr 2 [6,7] [vi 0,vi 1] hQ h
 refine N_bd 20 (zQ c3)<|T_nd 4 [20] [(24,.bool (decide (g<0)))] ?_
 revert h;refine iO_ (λc5 h=>?_) (λc5 h=>?_)
 ·exact N_bd 24 (zX c5)<|T_ed 12 [24] [(9,vT)]<|T_tz 9<|ar 2<|T_nr 2 [6,7] [vi 0,vi 1] hQ h
 refine N_bd 24 (zQ c5)<|T_nd 4 [24] [(28,.bool (decide (g>3)))] ?_
 revert h;refine iO_ (λc7 h=>?_) (λc7 h=>?_)
 ·exact N_bd 28 (zX c7)<|T_ed 8 [28] [(9,vT)]<|T_tz 9<|ar 2<|T_nr 2 [6,7] [vi 0,vi 1] hQ h
 refine N_bd 28 (zQ c7)<|T_nd 3 [] [(31,vq mA)] ?_
 obtain⟨xB,xN,xC,q9,h⟩:=h
 refine T_l1 32 155 q9 [31]<|T_ed 4 [28,32] [(9,.bool ((xN:Int)==0))] ?_
 revert h;refine iO_ (λc10 h=>?_) (λc10 h=>?_)
 ·exact aI 9 (zK c10)<|ar 2<|T_nr 2 [6,7] [vi 0,vi 1] hQ h
 refine aJ 9 (zJ c10)<|ar 3<|T_nd 3 [9] [(39,vq (mA.add 2))] ?_
 obtain⟨x,q12,h⟩:=h
 refine T_l1 40 3 q12 [39]<|T_ed 2 [40] [(36,.bool (x==0))] ?_
 revert h;refine iO_ (λc13 h=>?_) (λc13 h=>?_)
 ·exact aI 36 (zK c13)<|ar 4<|T_nr 2 [6,7] [vi 0,vi 2] hQ h
 refine aJ 36 (zJ c13)<|T_k<|aD<|aC<|ar 5<|T_ed 1 [36] [(8,vi 0)]<|T_sz<|T_bz 1 ?_
 obtain⟨y,m24,i15,i16⟩:=h
 refine db (x:=K23) (σ:=Int) (λs_=> [(0,vq mA),(1,vi b),(2,vi g),(8,vi s_)]) (λs_ H=>y s_ H) (λs_ H=>m24 s_ H) (0:Int) (by kernel_rfl) i15 sk ?_
 rintro k H1 i17
 have h:=i16 k H1 i17
 refine T_su [(0,vq mA),(1,vi b),(2,vi g),(8,vi k)]<|T_sz<|ar 6<|T_nd 3 [] [(44,vq mA)] ?_
 obtain⟨u,o,p,q18,h⟩:=h
 refine T_l1 45 155 q18 [44]<|T_nd 1 [] [(46,vi k)] ?_
 obtain⟨n,rfl,q19,h⟩:=h
 refine T_xd (some 47) 155 161 72 n o p .i64 k underlying155 q19.1 q19.2 [45,46] [(47,vq (n.add (Int.toNat k*72)))]<|T_nd 1 [47] [(48,vq ((n.add (Int.toNat k*72)).add 7))] ?_
 obtain⟨r,q20,h⟩:=h
 refine T_l1 49 3 q20 [48]<|T_ed 1 [49] [(50,.bool (decide (r>0)))] ?_
 revert h;refine iO_ (λc21 h=>?_) (λc21 h=>?_)
 ·exact aI 50 (zX c21)<|T_kt<|T_bz 2<|T_rz 7<|T_nd 3 [8,50] [(8,vi (zY (k+1)))]<|zq<|aD<|aC<|aR ((zY (k+1)):Int) sk h
 refine aJ 50 (zQ c21)<|zz 1<|aA<|aA<|aM<|aC<|ar 8<|T_nd 3 [50] [(53,vq mA),(55,vq (mA.add 1))] ?_
 obtain⟨s,q23,h⟩:=h
 refine T_l1 56 3 q23 [55]<|T_nd 3 [53,56] [(57,vi (zY (s+1))),(59,vq (mA.add 1))] ?_
 obtain⟨q25,h⟩:=h
 refine gD 3 (vi (zY (s+1))) q25 ?_
 intro H2 e24
 replace h:=h H2 e24
 refine T_pd [57,59] []<|T_e<|ar 9<|T_nd 3 [] [(60,vq mA),(62,vq (mA.add 2))] ?_
 obtain⟨q,q26,h⟩:=h
 refine T_l1 63 3 q26 [62]<|T_nd 3 [60,63] [(64,vi (zY (q-1))),(66,vq (mA.add 2))] ?_
 obtain⟨q28,h⟩:=h
 refine gD 3 (vi (zY (q-1))) q28 ?_
 intro H3 e27
 replace h:=h H3 e27
 refine T_pd [64,66] []<|T_e<|T_sz ?_
 obtain⟨z,f,m,q29,j,q30,e,rfl,q31,h⟩:=h
 refine yW 10 (Code.ops K35) [(15,mA,[vs (some e) f m]),(15,(mA.add 1),[vi j])] 16 (bv 16 0) (show aH _ _ _ from⟨⟨q29,trivial⟩,⟨q30,trivial⟩,trivial⟩)<|T_gp 0 (some 67) (vp (some mA)) (bv 16 1) [(0,vp (some mA)),(1,vi b),(2,vi g),(8,vi k),(67,vp (some mA))]<|aF 1 68 (vp (some mA)) (bv 16 3) [67]<|aF 2 69 (vp (some mA)) (bv 16 7) [68]<|T_g1 3 70 (vs (some e) f m) (bv 16 15) [69] (aP 155 (vp (some mA))) (yV 15 zw)<|aF 4 71 (vi k) (bv 16 31) []<|aF 5 72 (vi b) (bv 16 63) [1]<|aF 6 73 (vi g) (bv 16 127) [2]<|aF 7 74 (.agg #[vi 5,vi 5,vi 5,vi 5]) (bv 16 255) []<|aF 8 75 (.agg #[vi b,vi g,vi 0,vi 5,vi 5,vi 5,vi 5]) (bv 16 511) [72,73,74]<|aF 9 76 (vp (some mA)) (bv 16 1023) [0]<|aF 10 77 (vp (some mA)) (bv 16 2047) [76]<|aF 11 78 (vp (some (mA.add 1))) (bv 16 4095) [77]<|T_g1 12 79 (vi j) (bv 16 8191) [78] (aP 3 (vp (some (mA.add 1)))) (yV 15 yZ)<|aF 13 80 (.agg ([vi b,vi g,vi 0,vi 5,vi 5,vi 5,vi 5,vi j]++List.replicate 64 (vu 0):List Value).toArray) (bv 16 16383) [75,79]<|T_g1 14 81 (vp (some (e.add (Int.toNat k*72)))) (bv 16 32767) [70,71] (bE 155 (vs (some e) f m) (vi k)) (λ_ w _ _ _=>eW (P:=prog) (t:=155) (elem:=161) (sz:=72) (a:=e) (len:=f) (cap:=m) (k:=.i64) (i:=k) underlying155 (λ_=>by kernel_rfl) q31.1 q31.2 w) ?_
 obtain⟨q33,h⟩:=h
 refine fQ 15 none (bv 16 65535) (gQ 161 (vq (e.add (Int.toNat k*72))) (.agg ([vi b,vi g,vi 0,vi 5,vi 5,vi 5,vi 5,vi j]++List.replicate 64 (vu 0):List Value).toArray)) (λHz=>Hz=aN H3 (e.add (Int.toNat k*72)) ([vi b,vi g,vi 0,vi 5,vi 5,vi 5,vi 5,vi j]++List.replicate 64 (vu 0):List Value) 0) (by kernel_rfl) (λ_=>by kernel_rfl) (by intro w hw;obtain⟨w1,g1,g2,g3⟩:=gR (P:=prog) (H:=H3) (t:=161) (a:=(e.add (Int.toNat k*72))) (v:=(.agg ([vi b,vi g,vi 0,vi 5,vi 5,vi 5,vi 5,vi j]++List.replicate 64 (vu 0):List Value).toArray)) ([vi b,vi g,vi 0,vi 5,vi 5,vi 5,vi 5,vi j]++List.replicate 64 (vu 0):List Value) 72 (by kernel_rfl) (by kernel_rfl) (λ_=>by kernel_rfl) (by kernel_rfl) q33 w hw;exact⟨w1,g1,g2,g3⟩) (by kernel_rfl) ?_
 intro H4 e32
 replace h:=h H4 e32
 refine⟨[(8,vi k)],pk,(show aH _ _ _ from⟨trivial,trivial,trivial⟩),?_⟩
 refine fm [(8,vi k)] sk ?_
 exact yq<|aC<|ar 11<|T_nr 3 [6,7] [vi k,vi 0] hQ h
end eh
/-! (*moraine/seg.Mem).Mark -/
namespace dS
def K0:=Func.code f108
end dS
def dS.pt(m:zW)(e b d:Int)(H:zV)(R:zj):Prop:=
 dJ.C m e H (λv H1=> ∃x,v=vp x/\
 eK x (
 R (vi 19) H1) (λxA=>
 if((((decide (b<0)) || (decide (b>=4))) || (decide (d<0))) || (decide (d>5)))=true then(
 R (vi 1) H1)
 else
 zv b 4/\
 (aL H1 ((xA.add 3).add (Int.toNat b*1)) 0 1)/\ ∀H2,H2=aN H1 ((xA.add 3).add (Int.toNat b*1)) [vi d] 0->
 R (vi 0) H2))
namespace dS
theorem link{e b m:Int}(h:pt d e b m H a):C d e b m H a:=by
 refine T_en K0 38 func108 ?_
 intro w0 Q hQ
 unfold pt at h
 refine T_su [(0,vp d),(1,vi e),(2,vi b),(3,vi m)]<|ar 0<|T_ed 1 [] []<|ar 1<|T_nd 2 [0,1] [(10,vp d),(11,vi e)]<|T_c (some 12) h ?_;clear h
 rintro v H1 ⟨x,rfl,h⟩
 refine T_pd [10,11] [(12,vp x)]<|T_ed 1 [12] [(9,vp x)]<|T_sz<|T_bz 0<|ar 2<|T_nd 1 [] [(14,vp x)] ?_
 rcases x with _ | xA
 ·rw[onPtr_none]at h
  exact T_ed 2 [9,14] [(9,vp none),(13,vT)]<|T_tz 13<|ar 3<|T_nr 1 [8] [vi 19] hQ h
 rw[onPtr_some]at h
 refine T_ed 2 [9,14] [(9,vq xA),(13,vF)]<|T_fz 13<|ar 4 ?_
 refine fe [(2,vi b),(3,vi m),(9,vq xA),(16,.bool ((((decide (b<0)) || (decide (b>=4))) || (decide (m<0))) || (decide (m>5))))] ?_ ?_
 ·refine aC ?_
  revert h;refine iO_ (λc7 h=>?_) (λc7 h=>?_)
  ·exact aI 16 c7<|ar 5<|T_nr 1 [8] [vi 1] hQ h
  refine aJ 16 (zZ c7)<|T_k<|aD<|aC<|ar 6<|T_n 6 [(32,vi b),(33,vi m),(36,vq (xA.add 3))] ?_
  obtain⟨q9,h⟩:=h
  refine T_v1 37 (bE 79 (vq (xA.add 3)) (vi b)) (vq ((xA.add 3).add (Int.toNat b*1))) (λw _=>bF (P:=prog) (t:=79) (elem:=3) (sz:=1) (n:=4) (a:=(xA.add 3)) (k:=.i64) (i:=b) underlying79 (λ_=>by kernel_rfl) q9.1 q9.2 w) [32,36] ?_
  obtain⟨q11,h⟩:=h
  refine gD 3 (vi m) q11 ?_
  intro H2 e10
  replace h:=h H2 e10
  refine⟨[],pk,?_⟩
  exact T_e<|ar 7<|T_nr 1 [8] [vi 0] hQ h
 intro hk
 refine T_n 3 [(2,vi b),(3,vi m),(9,vq xA),(19,.bool (decide (b<0)))] ?_
 by_cases c1:b<0
 ·have b2:(decide (b<0))=true:=zX c1
  refine bI [(2,vi b),(3,vi m),(9,vq xA),(19,vT)] (by rw[b2]) ?_
  refine T_nd 12 [19] [(16,vT)]<|zq<|S_bd 16 (b:=true) (v:=((((decide (b<0)) || (decide (b>=4))) || (decide (m<0))) || (decide (m>5)))) (by simp only[b2,BL]) ?_
  exact hk
 have b2:(decide (b<0))=false:=zQ c1
 refine bI [(2,vi b),(3,vi m),(9,vq xA),(19,vF)] (by rw[b2]) ?_
 refine T_nd 4 [19] [(23,.bool (decide (b>=4)))] ?_
 by_cases c3:b>=4
 ·have b4:(decide (b>=4))=true:=zX c3
  refine N_bd 23 b4<|T_nd 8 [23] [(16,vT)] ?_
  refine zq<|S_bd 16 (b:=true) (v:=((((decide (b<0)) || (decide (b>=4))) || (decide (m<0))) || (decide (m>5)))) (by simp only[b2,b4,BL]) ?_
  exact hk
 have b4:(decide (b>=4))=false:=zQ c3
 refine N_bd 23 b4<|T_nd 4 [23] [(27,.bool (decide (m<0)))] ?_
 by_cases c5:m<0
 ·have b6:(decide (m<0))=true:=zX c5
  refine N_bd 27 b6<|T_nd 4 [27] [(16,vT)] ?_
  refine zq<|S_bd 16 (b:=true) (v:=((((decide (b<0)) || (decide (b>=4))) || (decide (m<0))) || (decide (m>5)))) (by simp only[b2,b4,b6,BL]) ?_
  exact hk
 have b6:(decide (m<0))=false:=zQ c5
 refine N_bd 27 b6<|T_nd 4 [27] [(16,.bool (decide (m>5)))] ?_
 refine zq<|S_bd 16 (b:=(decide (m>5))) (v:=((((decide (b<0)) || (decide (b>=4))) || (decide (m<0))) || (decide (m>5)))) (by simp only[b2,b4,b6,BL]) ?_
 exact hk
end dS
/-! moraine/seg.New -/
namespace gJ
def K0:=Func.code f125
end gJ
def gJ.pt(a:Int)(H:zV)(R:zj):Prop:=
 if((decide (a<8)) || (decide (a>1024)))=true then(
 R (.tuple #[vp none,vi 1]) H)
 else
 0<=a/\a<=a/\576*a<=2 ^ 48/\a<=9223372036854775807/\
 ∀b H1,b=H.size->H1=H.push (.cells (Builtin.zeroCells (List.replicate 8 (vi 0)++List.replicate 64 (vu 0):List Value).toArray (Int.toNat a)) 161)->
 ∀d H2,d=H1.size->H2=H1.push (.cells #[vs (some (ad b)) (Int.toNat a) (Int.toNat a),vi 0,vi a] 157)->
 R (.tuple #[vq (ad d),vi 0]) H2
namespace gJ
theorem link(h:pt b H a):C b H a:=by
 refine T_en K0 15 func125 ?_
 intro w0 Q hQ
 unfold pt at h
 refine T_su [(0,vi b)]<|ar 0<|T_ed 2 [] []<|T_sz<|ar 1 ?_
 refine fe [(0,vi b),(9,.bool ((decide (b<8)) || (decide (b>1024))))] ?_ ?_
 ·refine aC ?_
  revert h;refine iO_ (λc3 h=>?_) (λc3 h=>?_)
  ·exact aI 9 c3<|ar 2<|T_nr 2 [2,3] [vp none,vi 1] hQ h
  refine aJ 9 (zZ c3)<|T_kt<|ar 3<|T_n 1 [(0,vi b),(10,vi b)] ?_
  obtain⟨q5,q6,q7,q8,h⟩:=h
  refine N_op (some 11) (iq 155 (vi b) (vi b)) (λv Hz=>v=Value.slice (some (Addr.mk H.size 0 none)) (Int.toNat b) (Int.toNat b)/\Hz=H.push (.cells (Builtin.zeroCells (List.replicate 8 (vi 0)++List.replicate 64 (vu 0):List Value).toArray (Int.toNat b)) 161)) (λ_=>by kernel_rfl) (nP (T:=161) (zero:=.agg (List.replicate 8 (vi 0)++List.replicate 64 (vu 0):List Value).toArray) underlying155 (show prog.info? 161=some t161 from by kernel_rfl) (by kernel_rfl) q5 q6 q7 q8 (by kernel_rfl) (by decide)) ?_
  rintro _ H1 ⟨rfl,e10⟩
  obtain⟨R,e9⟩: ∃R,R=H.size:=⟨_,rfl⟩
  replace h:=h R H1 e9 e10
  rw[<-e9]
  refine T_pd [10] [(11,vs (pa R) (Int.toNat b) (Int.toNat b))]<|T_n 2 [(13,.agg #[vs (pa R) (Int.toNat b) (Int.toNat b),vi 0,vi b])]<|T_nw (some 14) (λR=>vp (pa R)) (.cells #[vs (pa R) (Int.toNat b) (Int.toNat b),vi 0,vi b] 157) ?_
  intro d H2 e11 e12
  replace h:=h d H2 e11 e12
  refine⟨[(14,vp (pa d))],pk,?_⟩
  exact T_nr 2 [2,3] [vp (pa d),vi 0] hQ h
 intro hk
 refine T_n 3 [(0,vi b),(6,.bool (decide (b<8)))] ?_
 by_cases c1:b<8
 ·have b2:(decide (b<8))=true:=zX c1
  refine bI [(0,vi b),(6,vT)] (by rw[b2]) ?_
  refine T_nd 3 [6] [(9,vT)]<|zq<|S_bd 9 (b:=true) (v:=((decide (b<8)) || (decide (b>1024)))) (by simp only[b2,BL]) ?_
  exact hk
 have b2:(decide (b<8))=false:=zQ c1
 refine bI [(0,vi b),(6,vF)] (by rw[b2]) ?_
 refine T_nd 3 [6] [(9,.bool (decide (b>1024)))]<|zq<|S_bd 9 (b:=(decide (b>1024))) (v:=((decide (b<8)) || (decide (b>1024)))) (by simp only[b2,BL]) ?_
 exact hk
end gJ
variable{H:zV}{a:zj}{b:Int}
/-! moraine/word.Header -/
namespace eI
def K0:=Func.code f42
end eI
def eI.pt(a nv b:Int)(H:zV)(R:zj):Prop:=
 if(((((decide (a<1)) || (decide (a>13))) || (decide (nv<0))) || (decide (nv>62))) || (decide (b>=281474976710656)))=true then(
 R (.tuple #[vu 0,vi 1]) H)
 else
 R (.tuple #[vu (ior .u64 (ior .u64 (ior .u64 (ishl .u64 b 16) (ishl .u64 (IntKind.wrap .u64 nv) 8)) (ishl .u64 (IntKind.wrap .u64 a) 3)) 5),vi 0]) H
namespace eI
theorem link{R nv b:Int}(h:pt R nv b H a):C R nv b H a:=by
 refine T_en K0 37 func42 ?_
 intro w0 Q hQ
 unfold pt at h
 refine T_su [(0,vi R),(1,vi nv),(2,vu b)]<|ar 0<|T_ed 2 [] []<|T_sz<|ar 1 ?_
 refine fe [(0,vi R),(1,vi nv),(2,vu b),(25,.bool (((((decide (R<1)) || (decide (R>13))) || (decide (nv<0))) || (decide (nv>62))) || (decide (b>=281474976710656))))] ?_ ?_
 ·refine aC ?_
  revert h;refine iO_ (λc9 h=>?_) (λc9 h=>?_)
  ·exact aI 25 c9<|ar 2<|T_nr 2 [6,7] [vu 0,vi 1] hQ h
  exact aJ 25 (zZ c9)<|T_kt<|ar 3<|T_nr 13 [6,7] [vu (ior .u64 (ior .u64 (ior .u64 (ishl .u64 b 16) (ishl .u64 (IntKind.wrap .u64 nv) 8)) (ishl .u64 (IntKind.wrap .u64 R) 3)) 5),vi 0] hQ h
 intro hk
 refine T_n 3 [(0,vi R),(1,vi nv),(2,vu b),(10,.bool (decide (R<1)))] ?_
 by_cases c1:R<1
 ·have b2:(decide (R<1))=true:=zX c1
  refine bI [(0,vi R),(1,vi nv),(2,vu b),(10,vT)] (by rw[b2]) ?_
  refine T_nd 15 [10] [(25,vT)]<|zq<|S_bd 25 (b:=true) (v:=(((((decide (R<1)) || (decide (R>13))) || (decide (nv<0))) || (decide (nv>62))) || (decide (b>=281474976710656)))) (by simp only[b2,BL]) ?_
  exact hk
 have b2:(decide (R<1))=false:=zQ c1
 refine bI [(0,vi R),(1,vi nv),(2,vu b),(10,vF)] (by rw[b2]) ?_
 refine T_nd 4 [10] [(14,.bool (decide (R>13)))] ?_
 by_cases c3:R>13
 ·have b4:(decide (R>13))=true:=zX c3
  refine N_bd 14 b4<|T_nd 11 [14] [(25,vT)] ?_
  refine zq<|S_bd 25 (b:=true) (v:=(((((decide (R<1)) || (decide (R>13))) || (decide (nv<0))) || (decide (nv>62))) || (decide (b>=281474976710656)))) (by simp only[b2,b4,BL]) ?_
  exact hk
 have b4:(decide (R>13))=false:=zQ c3
 refine N_bd 14 b4<|T_nd 4 [14] [(18,.bool (decide (nv<0)))] ?_
 by_cases c5:nv<0
 ·have b6:(decide (nv<0))=true:=zX c5
  refine N_bd 18 b6<|T_nd 7 [18] [(25,vT)] ?_
  refine zq<|S_bd 25 (b:=true) (v:=(((((decide (R<1)) || (decide (R>13))) || (decide (nv<0))) || (decide (nv>62))) || (decide (b>=281474976710656)))) (by simp only[b2,b4,b6,BL]) ?_
  exact hk
 have b6:(decide (nv<0))=false:=zQ c5
 refine N_bd 18 b6<|T_nd 4 [18] [(22,.bool (decide (nv>62)))] ?_
 by_cases c7:nv>62
 ·have b8:(decide (nv>62))=true:=zX c7
  refine N_bd 22 b8<|T_nd 3 [22] [(25,vT)] ?_
  refine zq<|S_bd 25 (b:=true) (v:=(((((decide (R<1)) || (decide (R>13))) || (decide (nv<0))) || (decide (nv>62))) || (decide (b>=281474976710656)))) (by simp only[b2,b4,b6,b8,BL]) ?_
  exact hk
 have b8:(decide (nv>62))=false:=zQ c7
 refine N_bd 22 b8<|T_nd 3 [22] [(25,.bool (decide (b>=281474976710656)))] ?_
 refine zq<|S_bd 25 (b:=(decide (b>=281474976710656))) (v:=(((((decide (R<1)) || (decide (R>13))) || (decide (nv<0))) || (decide (nv>62))) || (decide (b>=281474976710656)))) (by simp only[b2,b4,b6,b8,BL]) ?_
 exact hk
end eI
/-! moraine/word.Addr -/
namespace dW
def K0:=Func.code f52
end dW
def dW.pt(wv:Int)(H:zV)(R:zj):Prop:=
 dT.C wv H (λv H1=> ∃x,v=vi x/\
 eZ.C x H1 (λd H2=> ∃b,d=.bool b/\
 if b=true then(
 fL.C wv H2 (λe H3=> ∃a,e=.bool a/\
 if a=true then(
 R (.tuple #[vi (zY (ishr .u64 wv 3)),vT]) H3)
 else
 R (.tuple #[vi 0,vF]) H3))
 else
 R (.tuple #[vi 0,vF]) H2))
namespace dW
theorem link(h:pt b H a):C b H a:=by
 refine T_en K0 16 func52 ?_
 intro w0 Q hQ
 unfold pt zY at h
 refine T_su [(0,vu b)]<|ar 0<|T_ed 2 [] []<|T_sz<|ar 1<|T_nd 1 [] [(4,vu b)]<|T_c (some 5) h ?_;clear h
 rintro v H1 ⟨x,rfl,h⟩
 refine T_pd [4] [(5,vi x)]<|T_c (some 6) h ?_;clear h
 rintro d H2 ⟨wv,rfl,h⟩
 refine T_pd [5] [(6,.bool wv)]<|T_nd 2 [6] [(8,.bool (!wv))] ?_
 revert h;refine iO_ (λc1 h=>?_) (λc1 h=>?_)
 ·have b2:(!wv)=false:=congrArg Bool.not (c1)
  have b22:wv=true:=c1
  refine N_bd 8 (b:=(!wv)) (v:=false) (by simp only[b2,b22,Bool.not_true,Bool.not_false]) ?_
  clear b2 b22
  refine T_nd 1 [] [(9,vu b)]<|T_c (some 10) h ?_;clear h
  rintro e H3 ⟨R,rfl,h⟩
  refine T_pd [9] [(10,.bool R)]<|T_ed 2 [8,10] [(12,.bool (!R))] ?_
  revert h;refine iO_ (λc3 h=>?_) (λc3 h=>?_)
  ·exact aJ 12 (congrArg Bool.not (c3))<|T_kt<|ar 3<|T_nr 5 [2,3] [vi (zY (ishr .u64 b 3)),vT] hQ h
  exact aI 12 (congrArg Bool.not (zZ c3))<|ar 2<|T_nr 2 [2,3] [vi 0,vF] hQ h
 have b2:(!wv)=true:=congrArg Bool.not (zZ c1)
 have b22:wv=false:=zZ c1
 refine N_bd 8 (b:=(!wv)) (v:=true) (by simp only[b2,b22,Bool.not_true,Bool.not_false]) ?_
 clear b2 b22
 exact T_ed 4 [8] [(12,vT)]<|T_tz 12<|ar 2<|T_nr 2 [2,3] [vi 0,vF] hQ h
end dW
/-! moraine/word.At -/
namespace fD
def K0:=Func.code f55
end fD
def fD.pt(b a:Int)(H:zV)(R:zj):Prop:=
 eZ.C b H (λv H1=> ∃x,v=.bool x/\
 if x=true then(
 if((decide (a<0)) || (decide (a>=65536)))=true then(
 R (.tuple #[vu 0,vi 18]) H1)
 else
 R (.tuple #[vu (ior .u64 (ishl .u64 (IntKind.wrap .u64 a) 3) (IntKind.wrap .u64 b)),vi 0]) H1)
 else
 R (.tuple #[vu 0,vi 1]) H1)
namespace fD
theorem link{b R:Int}(h:pt b R H a):C b R H a:=by
 refine T_en K0 23 func55 ?_
 intro w0 Q hQ
 unfold pt at h
 refine T_su [(0,vi b),(1,vi R)]<|ar 0<|T_ed 2 [] []<|T_sz<|T_bz 0<|ar 1<|T_nd 1 [] [(7,vi b)]<|T_c (some 8) h ?_;clear h
 rintro v H1 ⟨x,rfl,h⟩
 refine T_pd [7] [(8,.bool x)]<|T_ed 2 [8] [(6,.bool (!x))] ?_
 revert h;refine iO_ (λc1 h=>?_) (λc1 h=>?_)
 ·refine aJ 6 (congrArg Bool.not (c1))<|ar 3 ?_
  refine fe [(0,vi b),(1,vi R),(10,.bool ((decide (R<0)) || (decide (R>=65536))))] ?_ ?_
  ·refine aC ?_
   revert h;refine iO_ (λc5 h=>?_) (λc5 h=>?_)
   ·exact aI 10 c5<|ar 4<|T_nr 2 [4,5] [vu 0,vi 18] hQ h
   exact aJ 10 (zZ c5)<|T_k<|aD<|aC<|ar 5<|T_nr 8 [4,5] [vu (ior .u64 (ishl .u64 (IntKind.wrap .u64 R) 3) (IntKind.wrap .u64 b)),vi 0] hQ h
  intro hk
  refine T_n 3 [(0,vi b),(1,vi R),(13,.bool (decide (R<0)))] ?_
  by_cases c3:R<0
  ·have b4:(decide (R<0))=true:=zX c3
   refine bI [(0,vi b),(1,vi R),(13,vT)] (by rw[b4]) ?_
   refine T_nd 4 [13] [(10,vT)]<|zq<|S_bd 10 (b:=true) (v:=((decide (R<0)) || (decide (R>=65536)))) (by simp only[b4,BL]) ?_
   exact hk
  have b4:(decide (R<0))=false:=zQ c3
  refine bI [(0,vi b),(1,vi R),(13,vF)] (by rw[b4]) ?_
  refine T_nd 4 [13] [(10,.bool (decide (R>=65536)))]<|zq<|S_bd 10 (b:=(decide (R>=65536))) (v:=((decide (R<0)) || (decide (R>=65536)))) (by simp only[b4,BL]) ?_
  exact hk
 exact aI 6 (congrArg Bool.not (zZ c1))<|ar 2<|T_nr 2 [4,5] [vu 0,vi 1] hQ h
end fD
/-! moraine/word.Tag -/
namespace dT
def K0:=Func.code f56
end dT
def dT.pt(wv:Int)(H:zV)(R:zj):Prop:=
 R (vi (zY (iand .u64 wv 7))) H
namespace dT
theorem link(h:pt b H a):C b H a:=by
 refine T_en K0 6 func56 ?_
 intro w0 Q hQ
 unfold pt zY at h
 exact T_su [(0,vu b)]<|ar 0<|T_ed 1 [] []<|ar 1<|T_nr 4 [2] [vi (zY (iand .u64 b 7))] hQ h
end dT
/-! moraine/word.place -/
namespace eZ
def K0:=Func.code f94
end eZ
def eZ.pt(a:Int)(H:zV)(R:zj):Prop:=
 R (.bool (((decide (a>=1)) && (decide (a<=3))) || (a==6))) H
namespace eZ
theorem link(h:pt b H a):C b H a:=by
 refine T_en K0 13 func94 ?_
 intro w0 Q hQ
 unfold pt at h
 refine T_su [(0,vi b)]<|ar 0<|T_ed 1 [] []<|ar 1 ?_
 refine fe [(2,.bool (((decide (b>=1)) && (decide (b<=3))) || (b==6)))] ?_ ?_
 ·exact aC<|ff [2] [.bool (((decide (b>=1)) && (decide (b<=3))) || (b==6))] hQ h
 intro hk
 refine T_n 3 [(0,vi b),(5,.bool (decide (b>=1)))] ?_
 by_cases c1:b>=1
 ·have b2:(decide (b>=1))=true:=zX c1
  refine bI [(0,vi b),(5,vT)] (by rw[b2]) ?_
  refine T_nd 4 [5] [(9,.bool (decide (b<=3)))] ?_
  by_cases c3:b<=3
  ·have b4:(decide (b<=3))=true:=zX c3
   refine N_bd 9 b4<|T_n 4 [(2,vT)] ?_
   refine zq<|eJ [(2,.bool (((decide (b>=1)) && (decide (b<=3))) || (b==6)))] (by simp only[b2,b4,BL]) ?_
   exact hk
  have b4:(decide (b<=3))=false:=zQ c3
  refine N_bd 9 b4<|T_n 4 [(2,.bool (b==6))] ?_
  refine zq<|eJ [(2,.bool (((decide (b>=1)) && (decide (b<=3))) || (b==6)))] (by simp only[b2,b4,BL]) ?_
  exact hk
 have b2:(decide (b>=1))=false:=zQ c1
 refine bI [(0,vi b),(5,vF)] (by rw[b2]) ?_
 refine T_n 8 [(2,.bool (b==6))]<|zq<|eJ [(2,.bool (((decide (b>=1)) && (decide (b<=3))) || (b==6)))] (by simp only[b2,BL]) ?_
 exact hk
end eZ
/-! moraine/word.May -/
namespace fL
def K0:=Func.code f95
end fL
def fL.pt(wv:Int)(H:zV)(R:zj):Prop:=
 eQ.C wv H (λv H1=> ∃ra rb rc,v=.tuple #[vi ra,vi rb,vu rc]/\
 dT.C wv H1 (λb H2=> ∃x,b=vi x/\
 if x=0 then(
 R vT H2)
 else
 if x=1 then(
 R (.bool (decide ((ishr .u64 wv 3)<65536))) H2)
 else
 if x=2 then(
 R (.bool (decide ((ishr .u64 wv 3)<65536))) H2)
 else
 if x=3 then(
 R (.bool (decide ((ishr .u64 wv 3)<65536))) H2)
 else
 if x=6 then(
 R (.bool (decide ((ishr .u64 wv 3)<65536))) H2)
 else
 if x=4 then(
 if ra=7 then(
 eX.C (ishr .u64 wv 8) H2 (λd H3=> ∃a,d=.bool a/\
 R (.bool a) H3))
 else
 R (.bool (decide ((ishr .u64 wv 3)<=6))) H2)
 else
 if x=5 then(
 R (.bool (((decide (ra>=1)) && (decide (ra<=13))) && (decide (rb<=62)))) H2)
 else
 R vF H2))
namespace fL
theorem link(h:pt b H a):C b H a:=by
 refine T_en K0 49 func95 ?_
 intro w0 Q hQ
 unfold pt at h
 refine T_su [(0,vu b)]<|ar 0<|T_ed 1 [] []<|ar 1<|T_nd 1 [] [(7,vu b)]<|T_c (some 8) h ?_;clear h
 rintro v H1 ⟨ra,rb,rc,rfl,h⟩
 refine T_pd [7] [(8,.tuple #[vi ra,vi rb,vu rc])]<|T_ed 7 [8] [(3,vi ra),(4,vi rb)]<|T_sz<|ar 2<|T_nd 1 [] [(12,vu b)]<|T_c (some 13) h ?_;clear h
 rintro wv H2 ⟨x,rfl,h⟩
 refine T_pd [12] [(13,vi x)]<|T_e<|T_bz 0<|T_sz<|T_bz 7<|T_sz<|T_bz 6<|T_sz<|T_bz 5<|T_bz 4<|T_bz 3<|T_bz 2<|T_sz<|T_bz 1<|T_sz<|T_sz<|ar 3<|T_ed 2 [] [(14,.bool (x==0))] ?_
 revert h;refine iO_ (λc1 h=>?_) (λc1 h=>?_)
 ·exact aI 14 (zK c1)<|zz 1<|aA<|aA<|aM<|aC<|T_sz<|ar 10<|T_nr 1 [2] [vT] hQ h
 refine aJ 14 (zJ c1)<|T_kt<|T_sz<|ar 4<|T_ed 2 [14] [(16,.bool (x==1))] ?_
 revert h;refine iO_ (λc3 h=>?_) (λc3 h=>?_)
 ·exact aI 16 (zK c3)<|zz 2<|aA<|aA<|zx<|aA<|aM<|aD<|aD<|aD<|aC<|T_sz<|ar 11<|T_nr 4 [2] [.bool (decide ((ishr .u64 b 3)<65536))] hQ h
 refine aJ 16 (zJ c3)<|T_kt<|T_sz<|ar 5<|T_ed 2 [16] [(18,.bool (x==2))] ?_
 revert h;refine iO_ (λc5 h=>?_) (λc5 h=>?_)
 ·exact aI 18 (zK c5)<|zz 3<|aA<|aA<|zx<|aA<|zx<|aM<|aD<|aD<|aC<|T_sz<|ar 11<|T_nr 4 [2] [.bool (decide ((ishr .u64 b 3)<65536))] hQ h
 refine aJ 18 (zJ c5)<|T_kt<|T_sz<|ar 6<|T_ed 2 [18] [(20,.bool (x==3))] ?_
 revert h;refine iO_ (λc7 h=>?_) (λc7 h=>?_)
 ·exact aI 20 (zK c7)<|zz 4<|aA<|aA<|zx<|aA<|zx<|zx<|aM<|aD<|aC<|T_sz<|ar 11<|T_nr 4 [2] [.bool (decide ((ishr .u64 b 3)<65536))] hQ h
 refine aJ 20 (zJ c7)<|T_kt<|T_sz<|ar 7<|T_ed 2 [20] [(22,.bool (x==6))] ?_
 revert h;refine iO_ (λc9 h=>?_) (λc9 h=>?_)
 ·exact aI 22 (zK c9)<|zz 5<|aA<|aA<|zx<|aA<|zx<|zx<|zx<|aM<|aC<|T_sz<|ar 11<|T_nr 4 [2] [.bool (decide ((ishr .u64 b 3)<65536))] hQ h
 refine aJ 22 (zJ c9)<|T_kt<|T_sz<|ar 8<|T_ed 2 [22] [(24,.bool (x==4))] ?_
 revert h;refine iO_ (λc11 h=>?_) (λc11 h=>?_)
 ·refine aI 24 (zK c11)<|zz 6<|aA<|aA<|zx<|aA<|zx<|zx<|zx<|zx<|aA<|aM<|aC<|T_sz<|T_sz<|ar 12<|T_ne 2 [(0,vu b),(32,.bool (ra==7))] ?_
  revert h;refine iO_ (λc13 h=>?_) (λc13 h=>?_)
  ·refine aI 32 (zK c13)<|ar 13<|T_n 2 [(34,vu (ishr .u64 b 8))]<|T_c (some 35) h ?_;clear h
   rintro d H3 ⟨R,rfl,h⟩
   refine⟨[(35,.bool R)],pk,?_⟩
   exact T_nr 1 [2] [.bool R] hQ h
  exact aJ 32 (zJ c13)<|T_kt<|ar 14<|T_nr 4 [2] [.bool (decide ((ishr .u64 b 3)<=6))] hQ h
 refine aJ 24 (zJ c11)<|T_kt<|ar 9<|T_ed 2 [0,13,24] [(26,.bool (x==5))] ?_
 revert h;refine iO_ (λc15 h=>?_) (λc15 h=>?_)
 ·refine aI 26 (zK c15)<|zz 7<|aA<|zx<|aA<|zx<|zx<|zx<|zx<|aA<|zx<|aA<|aM<|aC<|T_sz<|ar 15 ?_
  refine fe [(2,.bool (((decide (ra>=1)) && (decide (ra<=13))) && (decide (rb<=62))))] ?_ ?_
  ·exact aC<|ff [2] [.bool (((decide (ra>=1)) && (decide (ra<=13))) && (decide (rb<=62)))] hQ h
  intro hk
  refine T_n 3 [(3,vi ra),(4,vi rb),(41,.bool (decide (ra>=1)))] ?_
  by_cases c17:ra>=1
  ·have b18:(decide (ra>=1))=true:=zX c17
   refine bI [(3,vi ra),(4,vi rb),(41,vT)] (by rw[b18]) ?_
   refine T_nd 4 [3,41] [(45,.bool (decide (ra<=13)))] ?_
   by_cases c19:ra<=13
   ·have b20:(decide (ra<=13))=true:=zX c19
    refine N_bd 45 b20<|T_n 4 [(2,.bool (decide (rb<=62)))] ?_
    refine zq<|eJ [(2,.bool (((decide (ra>=1)) && (decide (ra<=13))) && (decide (rb<=62))))] (by simp only[b18,b20,BL]) ?_
    exact hk
   have b20:(decide (ra<=13))=false:=zQ c19
   refine N_bd 45 b20<|T_n 4 [(2,vF)] ?_
   refine zq<|eJ [(2,.bool (((decide (ra>=1)) && (decide (ra<=13))) && (decide (rb<=62))))] (by simp only[b18,b20,BL]) ?_
   exact hk
  have b18:(decide (ra>=1))=false:=zQ c17
  refine bI [(3,vi ra),(4,vi rb),(41,vF)] (by rw[b18]) ?_
  refine T_n 8 [(2,vF)]<|zq<|eJ [(2,.bool (((decide (ra>=1)) && (decide (ra<=13))) && (decide (rb<=62))))] (by simp only[b18,BL]) ?_
  exact hk
 exact aJ 26 (zJ c15)<|T_kt<|zz 0<|zx<|aA<|zx<|zx<|zx<|zx<|aA<|zx<|aA<|zx<|aA<|aM<|aC<|ar 16<|T_nr 1 [2] [vF] hQ h
end fL
/-! moraine/word.Head -/
namespace fH
def K0:=Func.code f114
end fH
def fH.pt(wv:Int)(H:zV)(R:zj):Prop:=
 dT.C wv H (λv H1=> ∃x,v=vi x/\
 if x=5 then(
 fL.C wv H1 (λb H2=> ∃a,b=.bool a/\
 if a=true then(
 eQ.C wv H2 (λd H3=> ∃ra rb rc,d=.tuple #[vi ra,vi rb,vu rc]/\
 R (.tuple #[vi ra,vi rb,vu rc,vT]) H3))
 else
 R (.tuple #[vi 0,vi 0,vu 0,vF]) H2))
 else
 R (.tuple #[vi 0,vi 0,vu 0,vF]) H1)
namespace fH
theorem link(h:pt b H a):C b H a:=by
 refine T_en K0 23 func114 ?_
 intro w0 Q hQ
 unfold pt at h
 refine T_su [(0,vu b)]<|ar 0<|T_ed 4 [] []<|T_sz<|ar 1<|T_nd 1 [] [(6,vu b)]<|T_c (some 7) h ?_;clear h
 rintro v H1 ⟨x,rfl,h⟩
 refine T_pd [6] [(7,vi x)]<|T_nd 2 [7] [(9,.bool (x !=5))] ?_
 revert h;refine iO_ (λc1 h=>?_) (λc1 h=>?_)
 ·refine N_bd 9 (bne_eq_false_iff_eq.mpr c1)<|T_nd 1 [] [(10,vu b)] ?_
  refine T_c (some 11) h ?_;clear h
  rintro wv H2 ⟨R,rfl,h⟩
  refine T_pd [10] [(11,.bool R)]<|T_ed 2 [9,11] [(13,.bool (!R))] ?_
  revert h;refine iO_ (λc3 h=>?_) (λc3 h=>?_)
  ·refine aJ 13 (congrArg Bool.not (c3))<|T_kt<|ar 3<|T_n 1 [(15,vu b)]<|T_c (some 16) h ?_;clear h
   rintro d H3 ⟨ra,rb,rc,rfl,h⟩
   refine⟨[(16,.tuple #[vi ra,vi rb,vu rc])],pk,?_⟩
   exact T_ne 7 [(2,vi ra),(3,vi rb),(4,vu rc)]<|ar 4<|T_nr 7 [2,3,4,5] [vi ra,vi rb,vu rc,vT] hQ h
  exact aI 13 (congrArg Bool.not (zZ c3))<|ar 2<|T_nr 4 [2,3,4,5] [vi 0,vi 0,vu 0,vF] hQ h
 exact N_bd 9 (bne_iff_ne.mpr c1)<|T_ed 4 [9] [(13,vT)]<|T_tz 13<|ar 2<|T_nr 4 [2,3,4,5] [vi 0,vi 0,vu 0,vF] hQ h
end fH
/-! moraine/word.parts -/
namespace eQ
def K0:=Func.code f130
end eQ
def eQ.pt(wv:Int)(H:zV)(R:zj):Prop:=
 ∀b H1,b=H.size->H1=H.push (.cells #[vu wv] 28)->
 dH.C 3 5 (some (ad b)) H1 (λv H2=> ∃x,v=vu x/\
 dH.C 8 8 (some (ad b)) H2 (λe H3=> ∃a,e=vu a/\
 dH.C 16 48 (some (ad b)) H3 (λf H4=> ∃d,f=vu d/\
 R (.tuple #[vi (zY x),vi (zY a),vu d]) H4)))
namespace eQ
theorem link(h:pt b H a):C b H a:=by
 refine T_en K0 15 func130 ?_
 intro w0 Q hQ
 unfold pt zY at h
 refine T_su [(0,vu b)]<|ar 0<|T_nw (some 1) (λwv=>vp (pa wv)) (.cells #[vu b] 28) ?_
 intro wv H1 e1 e2
 replace h:=h wv H1 e1 e2
 refine⟨[(1,vp (pa wv))],pk,?_⟩
 refine T_ed 3 [] []<|ar 1<|T_ne 2 [(5,.func (.func 150) #[] #[vp (pa wv)])]<|ar 2<|T_nd 1 [] [(7,.func (.func 150) #[] #[vp (pa wv)])]<|T_c (some 8) h ?_;clear h
 rintro v H2 ⟨x,rfl,h⟩
 refine T_pd [7] [(8,vu x)]<|T_nd 2 [8] [(9,vi (zY x)),(10,.func (.func 150) #[] #[vp (pa wv)])]<|T_c (some 11) h ?_;clear h
 rintro e H3 ⟨R,rfl,h⟩
 refine T_pd [10] [(11,vu R)]<|T_nd 2 [5,11] [(12,vi (zY R)),(13,.func (.func 150) #[] #[vp (pa wv)])]<|T_c (some 14) h ?_;clear h
 rintro f H4 ⟨d,rfl,h⟩
 exact T_pd [13] [(14,vu d)]<|T_nr 3 [2,3,4] [vi (zY x),vi (zY R),vu d] hQ h
end eQ
/-! moraine/word.letter -/
namespace eX
def K0:=Func.code f131
end eX
def eX.pt(c:Int)(H:zV)(R:zj):Prop:=
 R (.bool ((decide (c<=1114111)) && ((decide (c<55296)) || (decide (c>57343))))) H
namespace eX
theorem link(h:pt b H a):C b H a:=by
 refine T_en K0 13 func131 ?_
 intro w0 Q hQ
 unfold pt at h
 refine T_su [(0,vu b)]<|ar 0<|T_ed 1 [] []<|ar 1 ?_
 refine fe [(2,.bool ((decide (b<=1114111)) && ((decide (b<55296)) || (decide (b>57343)))))] ?_ ?_
 ·exact aC<|ff [2] [.bool ((decide (b<=1114111)) && ((decide (b<55296)) || (decide (b>57343))))] hQ h
 intro hk
 refine T_n 3 [(0,vu b),(5,.bool (decide (b<=1114111)))] ?_
 by_cases c1:b<=1114111
 ·have b2:(decide (b<=1114111))=true:=zX c1
  refine bI [(0,vu b),(5,vT)] (by rw[b2]) ?_
  refine T_nd 3 [] [(8,.bool (decide (b<55296)))] ?_
  by_cases c3:b<55296
  ·have b4:(decide (b<55296))=true:=zX c3
   refine N_bd 8 b4<|T_n 5 [(2,vT)] ?_
   refine zq<|eJ [(2,.bool ((decide (b<=1114111)) && ((decide (b<55296)) || (decide (b>57343)))))] (by simp only[b2,b4,BL]) ?_
   exact hk
  have b4:(decide (b<55296))=false:=zQ c3
  refine N_bd 8 b4<|T_n 5 [(2,.bool (decide (b>57343)))] ?_
  refine zq<|eJ [(2,.bool ((decide (b<=1114111)) && ((decide (b<55296)) || (decide (b>57343)))))] (by simp only[b2,b4,BL]) ?_
  exact hk
 have b2:(decide (b<=1114111))=false:=zQ c1
 refine bI [(0,vu b),(5,vF)] (by rw[b2]) ?_
 refine T_n 8 [(2,vF)]<|zq<|eJ [(2,.bool ((decide (b<=1114111)) && ((decide (b<55296)) || (decide (b>57343)))))] (by simp only[b2,BL]) ?_
 exact hk
end eX
/-! moraine/word.parts.1 -/
namespace dH
def K0:=Func.code f150
end dH
def dH.pt(a b:Int)(d:zW)(H:zV)(R:zj):Prop:=
 ∃e,d=some e/\
 ∃x,hat H e=some (vu x)/\
 (0<=a)/\
 (0<=b)/\
 R (vu (iand .u64 (ishr .u64 x a) (IntKind.wrap .u64 ((ishl .u64 1 b)-1)))) H
namespace dH
theorem link{R:Int}{d:zW}(h:pt b R d H a):C b R d H a:=by
 refine T_en K0 13 func150 ?_
 intro w0 Q hQ
 unfold pt at h
 refine T_su [(0,vi b),(1,vi R),(2,vp d)]<|ar 0<|T_ed 1 [] []<|T_sz<|nT 1 ?_
 obtain⟨e,rfl,x,q1,h⟩:=h
 refine kw (some 6) 28 q1 [2] [(6,vu x)]<|T_q1 7 (vi b) [0] ?_
 obtain⟨q2,h⟩:=h
 refine Q_op (some 8) (binN .shr 22 (vu x) (vi b)) (vu (ishr .u64 x b)) (λ_=>by kernel_rfl) (λw _=>pH (P:=prog) (t:=22) (k:=.u64) (k':=.i64) (x:=x) (y:=b) q2 w) [(1,vi R),(8,vu (ishr .u64 x b))] pk ?_
 refine T_q (some 9) (vi R) [(8,vu (ishr .u64 x b)),(9,vi R)] ?_
 obtain⟨q3,h⟩:=h
 refine Q_op (some 10) (binN .shl 22 (vu 1) (vi R)) (vu (ishl .u64 1 R)) (λ_=>by kernel_rfl) (λw _=>pG (P:=prog) (t:=22) (k:=.u64) (k':=.i64) (x:=1) (y:=R) q3 w) [(8,vu (ishr .u64 x b)),(10,vu (ishl .u64 1 R))] pk ?_
 exact T_q (some 11) (vu (IntKind.wrap .u64 ((ishl .u64 1 R)-1))) [(8,vu (ishr .u64 x b)),(11,vu (IntKind.wrap .u64 ((ishl .u64 1 R)-1)))]<|T_q1 12 (vu (iand .u64 (ishr .u64 x b) (IntKind.wrap .u64 ((ishl .u64 1 R)-1)))) [8,11]<|T_q1 5 (vu (iand .u64 (ishr .u64 x b) (IntKind.wrap .u64 ((ishl .u64 1 R)-1)))) [12]<|jM [(5,vu (iand .u64 (ishr .u64 x b) (IntKind.wrap .u64 ((ishl .u64 1 R)-1))))] sk<|T_qe<|ff [5] [vu (iand .u64 (ishr .u64 x b) (IntKind.wrap .u64 ((ishl .u64 1 R)-1)))] hQ h
end dH
