/- Printed: what each function asks, and that it is sound. -/
import Derived.Test.YtmlhlkbpglcccaaGreatFnsC
set_option linter.unusedSimpArgs false
set_option linter.unusedVariables false
set_option maxRecDepth 100000
set_option maxHeartbeats 1000000
noncomputable section
namespace Go.Proofs.YtmlhlkbpglcccaaGreat
open Go
/-! moraine/trace.Start -/
namespace ew
def K0:=Func.code Tryz.f11
def K2:=cb K0
def K4:=cb K2
def K12:=cb K4
def K13:=ca K12
def K14:=cb K12
def K16:=cb K13
def K17:=ca K16
def K18:=ca K17
def K31:=cb K14
def K33:=cb K31
def K41:=cb K33
def K42:=ca K41
def K43:=cb K41
def K45:=cb K42
def K46:=ca K45
def K47:=ca K46
def K59:=ca K43
def K62:=cb K59
def K63:=ca K62
def K64:=ca K63
def K66:=cb K64
def K68:=cb K66
def K71:=ca K68
def K73:=ca K71
def K75:=cb K73
def K77:=cb K75
end ew
def ew.pt(hv:zW)(g d m:Int)(H:zV)(R:zj):Prop:=
 ei hv (
 R (.tuple #[.pointer none,.int .i64 1]) H) (λf=>
 ∃x:zW,hat H f=some (.pointer x)/\
 ei x (
 R (.tuple #[.pointer none,.int .i64 1]) H) (λxA=>
 if(((((decide (g<0)) || (decide (g>=4))) || (decide (d<g))) || (decide (d>(zY (g+1))))) || (decide (m<0)))=true then(
 R (.tuple #[.pointer none,.int .i64 1]) H)
 else
 ∃(b4:zW->Nat->Nat->zk) (m19:zW->Nat->Nat->Int->zV->Nat),b4 none 0 0 0 H/\ ∀(e:zW) (gensN:Nat) (gensC:Nat) (s54:Int) (H1:zV),b4 e gensN gensC s54 H1->
 if s54< (zY (g+1))then(
 ∀(b:Nat) (H2:zV),b=H1.size->H2=H1.push (.cells #[.int .i64 s54] 3)->
 fc 1 3 8 [.int .i64 0] e gensN gensC (some (ad b)) 1 H2 (λap bc H3=>
 (b4 ap (gensN+1) bc (zY (s54+1)) H3/\m19 ap (gensN+1) bc (zY (s54+1)) H3<m19 e gensN gensC s54 H1)))
 else
 ∃bz:zW,hat H1 f=some (.pointer bz)/\
 ∃bx:Addr,bz=some bx/\
 ∃bq:zW,hat H1 bx=some (.pointer bq)/\
 ∃bs:Addr,bq=some bs/\
 ∃bk:zW,hat H1 bs=some (.pointer bk)/\
 cz.C bk e gensN gensC H1 (λv H4=> ∃(xB:zW) (xN xC:Nat),v=.slice xB xN xC/\
 ∃b1:zW,hat H4 f=some (.pointer b1)/\
 ∃br:Addr,b1=some br/\
 ∃bw:zW,hat H4 br=some (.pointer bw)/\
 ∃bu:Addr,bw=some bu/\
 ∃bo:zW,hat H4 bu=some (.pointer bo)/\
 dY.C bo H4 (λcg H5=> ∃a5:Int,cg=.int .i64 a5/\
 if(zY ((zY (a5-(zY (2*(xN:Int)))))-8))<m then(
 R (.tuple #[.pointer none,.int .i64 2]) H5)
 else
 ∀(a4:Nat) (H6:zV),a4=H5.size->H6=H5.push (.map #[] 0)->
 ∀(a6:Nat) (H7:zV),a6=H6.size->H7=H6.push (.map #[] 0)->
 ∀(l:Nat) (H8:zV),l=H7.size->H8=H7.push (.cells ([.pointer (some f),.int .i64 d]++List.replicate 1024 (.int .i64 0)++[.map (some a4),.map (some a6),.slice none 0 0,.int .i64 0]:List Value).toArray 100)->
 ∃(b2:zk) (m48:Int->zV->Nat),b2 0 H8/\ ∀(s:Int) (H9:zV),b2 s H9->
 if s< (xN:Int)then(
 ∃ao:Addr,xB=some ao/\
 zv s xN/\
 ∃al:Int,hat H9 (ao.add (Int.toNat s*1))=some (.int .i64 al)/\
 zv al 1024/\
 (aK H9 (((ad l).add 2).add (Int.toNat al*1)) 0 1)/\ ∀b0,b0=aS H9 (((ad l).add 2).add (Int.toNat al*1)) [.int .i64 1] 0->
 (b2 (zY (s+1)) b0/\m48 (zY (s+1)) b0<m48 s H9))
 else
 ∃a9:zW,hat H9 f=some (.pointer a9)/\
 ∃a7:Addr,a9=some a7/\
 ∃bh:zW,hat H9 a7=some (.pointer bh)/\
 ∃be:Addr,bh=some be/\
 ∃au:zW,hat H9 be=some (.pointer au)/\
 ∀(bn:Nat) (H11:zV),bn=H9.size->H11=H9.push (.cells #[.int .i64 d] 3)->
 cz.C au (some (ad bn)) 1 1 H11 (λcj ch=> ∃(an:zW) (j q:Nat),cj=.slice an j q/\
 ∃(bt:zk) (m65:Int->zV->Nat),bt 0 ch/\ ∀(o:Int) (H13:zV),bt o H13->
 if o< (j:Int)then(
 ∃r:Addr,an=some r/\
 zv o j/\
 ∃p:Int,hat H13 (r.add (Int.toNat o*1))=some (.int .i64 p)/\
 ∃ba:zW,hat H13 f=some (.pointer ba)/\
 ∃bl:Addr,ba=some bl/\
 ∃bb:zW,hat H13 bl=some (.pointer bb)/\
 ∃bm:Addr,bb=some bm/\
 ∃ay:zW,hat H13 bm=some (.pointer ay)/\
 bE.C ay p H13 (λce cd=> ∃(am ah a1 ac ae aa ab:Int) (rb:Bool),ce=.tuple #[.agg #[.int .i64 am,.int .i64 ah,.int .i64 a1,.int .i64 ac,.int .i64 ae,.int .i64 aa,.int .i64 ab],.bool rb]/\
 ∀(y:Nat) (H15:zV),y=cd.size->H15=cd.push (.cells #[.int .i64 0,.int .i64 0,.int .i64 0,.int .i64 0,.int .i64 0,.int .i64 0,.int .i64 0] 102)->
 (aK H15 (ad y) 0 7)/\ ∀ax,ax=aS H15 (ad y) [.int .i64 am,.int .i64 ah,.int .i64 a1,.int .i64 ac,.int .i64 ae,.int .i64 aa,.int .i64 ab] 0->
 ∃ag:Option Nat,hat ax ((ad l).add 1026)=some (.map ag)/\
 ∃ai:Option Nat,hat ax ((ad l).add 1027)=some (.map ai)/\
 ∃aj:Int,hat ax ((ad y).add 2)=some (.int .i64 aj)/\
 ∃af:Int,hat ax ((ad y).add 2)=some (.int .i64 af)/\
 ∃mr:Nat,ag=some mr/\
 ∃(es:Array MapEntry) (cl:Nat) (ks:List (Int×Value)),ax[mr]?=some (.map es cl)/\Ents (cV .i64) es.toList ks/\Born es cl/\
 ∀(a2:Array MapEntry) (cl_2:Nat) (stamp:Int) (x_21:Value) (H17:zV),H17=bL ax mr (.map a2 cl_2)->Ents (cV .i64) a2.toList (mput ks p x_21)->Born a2 cl_2->gp a2 (.int .i64 p) stamp->
 aT H17 ((ad y).add 2) 0 [.int .i64 aj]/\aT H17 ((ad y).add 2) 0 [.int .i64 af]/\ ∃(bg:Array MapEntry) (cl_3:Nat) (ks_2:List (Int×Value)) (k:Int),H17[mr]?=some (.map bg cl_3)/\Ents (cV .i64) bg.toList ks_2/\Born bg cl_3/\gp bg (.int .i64 k) stamp/\
 ∀(a8:Array MapEntry) (H18:zV),H18=bL H17 mr (.map a8 cl_3)->Ents (cV .i64) a8.toList (mput ks_2 k (.int .i64 aj))->Born a8 cl_3->
 aT H18 ((ad y).add 2) 0 [.int .i64 af]/\ ∃ak:Nat,ai=some ak/\
 ∃(bp:Array MapEntry) (cl_4:Nat) (ks_3:List (Int×Value)),H18[ak]?=some (.map bp cl_4)/\Ents (cV .i64) bp.toList ks_3/\Born bp cl_4/\
 ∀(a3:Array MapEntry) (cl_5:Nat) (stamp_2:Int) (x_22:Value) (H19:zV),H19=bL H18 ak (.map a3 cl_5)->Ents (cV .i64) a3.toList (mput ks_3 p x_22)->Born a3 cl_5->gp a3 (.int .i64 p) stamp_2->
 aT H19 ((ad y).add 2) 0 [.int .i64 af]/\ ∃(bi:Array MapEntry) (cl_6:Nat) (ks_4:List (Int×Value)) (k_2:Int),H19[ak]?=some (.map bi cl_6)/\Ents (cV .i64) bi.toList ks_4/\Born bi cl_6/\gp bi (.int .i64 k_2) stamp_2/\
 ∀(bj:Array MapEntry) (H20:zV),H20=bL H19 ak (.map bj cl_6)->Ents (cV .i64) bj.toList (mput ks_4 k_2 (.int .i64 af))->Born bj cl_6->
 (bt (zY (o+1)) H20/\m65 (zY (o+1)) H20<m65 o H13)))
 else
 ∃bd:zW,hat H13 f=some (.pointer bd)/\
 ∃bf:Addr,bd=some bf/\
 ∃a0:zW,hat H13 bf=some (.pointer a0)/\
 cH.C a0 e gensN gensC H13 (λ_ cc=>
 ∃az:zW,hat cc f=some (.pointer az)/\
 cQ.C az g cc (λci b6=> ∃(aw:zW) (av aq:Nat),ci=.slice aw av aq/\
 (aK b6 ((ad l).add 1028) 0 1)/\ ∀b8,b8=aS b6 ((ad l).add 1028) [.slice aw av aq] 0->
 R (.tuple #[.pointer (some (ad l)),.int .i64 0]) b8)))))))
namespace ew
theorem link{hv:zW}{g d m:Int}{H:zV}{R:zj}(h:pt hv g d m H R):C hv g d m H R:=by
 refine T_en K0 181 Tryz.func11 ?_
 intro w0 Q hQ
 unfold pt zY at h
 refine T_su [(0,vp hv),(1,vi g),(2,vi d),(3,vi m)]<| ar 0<| T_ed 2 [] []<| T_sz<| ar 1<| T_nd 1 [] [(20,vp hv)] ?_
 rcases hv with _ | f
 ·rw[onPtr_none]at h
  exact T_ed 31 [0,20] [(0,vp none),(51,.bool true)]<| T_tz 51<| ar 2<| T_nr 2 [8,9] [vp none,vi 1] hQ h
 rw[onPtr_some]at h
 refine T_nd 5 [0,20] [(0,vp (some f)),(22,.bool false),(25,vp (some f))] ?_
 obtain⟨x,q1,h⟩:=h
 refine T_l1 26 53 q1 [25] ?_
 rcases x with _ | xA
 ·rw[onPtr_none]at h
  exact T_ed 25 [22,26] [(51,.bool true)]<| T_tz 51<| ar 2<| T_nr 2 [8,9] [vp none,vi 1] hQ h
 rw[onPtr_some]at h
 refine T_nd 7 [22,26] [(33,.bool (decide (g<0)))] ?_
 refine fm [(0,vp (some f)),(1,vi g),(2,vi d),(3,vi m),(51,.bool (((((decide (g<0)) || (decide (g>=4))) || (decide (d<g))) || (decide (d>(zY (g+1))))) || (decide (m<0))))] ?_ ?_
 ·refine aE ?_
  by_cases c10:(((((decide (g<0)) || (decide (g>=4))) || (decide (d<g))) || (decide (d>(zY (g+1))))) || (decide (m<0)))=true
  ·rw[if_pos c10]at h
   exact aI 51 c10<| ar 2<| T_nr 2 [8,9] [vp none,vi 1] hQ h
  rw[if_neg c10]at h
  refine aJ 51 (zZ c10)<| T_kt<| ar 3<| T_ne 1 [(0,vp (some f)),(1,vi g),(2,vi d),(3,vi m),(10,vs none 0 0)]<| T_sz<| ar 4<| T_ed 3 [] [(53,vi (zY (g+1))),(54,vi 0)]<| T_bz 0 ?_
  obtain⟨b4,m19,i12,i13⟩:=h
  refine de (x:=K18) (σ:=zW×Nat×Nat×Int) (λs_=> [(0,vp (some f)),(1,vi g),(2,vi d),(3,vi m),(10,vs s_.1 s_.2.1 s_.2.2.1),(53,vi (zY (g+1))),(54,vi s_.2.2.2)]) (λs_ H=>b4 s_.1 s_.2.1 s_.2.2.1 s_.2.2.2 H) (λs_ H=>m19 s_.1 s_.2.1 s_.2.2.1 s_.2.2.2 H) ((none,0,0,0):zW×Nat×Nat×Int) (by kernel_rfl) i12 sk ?_
  rintro⟨e,gensN,gensC,s54⟩ H1 i14
  have h:=i13 e gensN gensC s54 H1 i14
  refine T_su [(0,vp (some f)),(1,vi g),(2,vi d),(3,vi m),(10,vs e gensN gensC),(53,vi (zY (g+1))),(54,vi s54)]<| ar 5<| T_ed 1 [] [(55,.bool (decide (s54< (zY (g+1)))))]<| T_sz ?_
  by_cases c15:s54< (zY (g+1))
  ·rw[if_pos c15]at h
   refine aI 55 (zX c15)<| T_kt<| T_sz<| T_bz 1<| ar 6<| T_ed 2 [55] [(11,vi s54)]<| T_rz 7<| T_nd 2 [10,11] [(57,vs e gensN gensC),(58,vi s54)]<| T_nw (some 59) (λb=>vs (pa b) 1 1) (.cells #[vi s54] 3) ?_
   intro b H2 e17 e18
   replace h:=h b H2 e17 e18
   refine T_pd [58] [(59,vs (pa b) 1 1)]<| N_op (some 60) (eS #[79,79] 79 #[vs e gensN gensC,vs (pa b) 1 1]) _ (λ_=>by kernel_rfl) (eQ (T:=3) (sz:=1) (bytes:=8) (zero:=(vi 0:Value)) Tryz.underlying79 Tryz.underlying79 rfl (show Tryz.prog.info? 3=some Tryz.t3 from by kernel_rfl) (by kernel_rfl) (by kernel_rfl) (by decide) (by kernel_rfl) (by first | exact h | (simpa only[Value.cells,List.toList_toArray]using h))) ?_;clear h
   rintro _ H3 ⟨ap,bc,rfl,h⟩
   exact T_pd [57,59] [(60,vs ap (gensN+1) bc)]<| T_nd 1 [60] [(10,vs ap (gensN+1) bc)]<| zq<| aD<| aE<| T_rz 8<| T_ed 2 [54] [(54,vi (zY (s54+1)))]<| aW ((ap,(gensN+1),bc,(zY (s54+1))):zW×Nat×Nat×Int) sk h
  rw[if_neg c15]at h
  refine aJ 55 (zQ c15)<| zz 0<| aA<| aA<| aO<| aE<| ar 9<| T_nd 3 [53,54,55] [(64,vp (some f))] ?_
  obtain⟨bz,q19,h⟩:=h
  refine T_l1 65 53 q19 [64] ?_
  obtain⟨bx,rfl,h⟩:=h
  refine T_nd 2 [65] [(67,vp (some bx))] ?_
  obtain⟨bq,q20,h⟩:=h
  refine T_l1 68 56 q20 [67] ?_
  obtain⟨bs,rfl,h⟩:=h
  refine T_nd 2 [68] [(70,vp (some bs))] ?_
  obtain⟨bk,q21,h⟩:=h
  refine T_l1 71 82 q21 [70]<| T_nd 1 [] [(72,vs e gensN gensC)]<| T_c (some 73) h ?_;clear h
  rintro v H4 ⟨xB,xN,xC,rfl,h⟩
  refine T_pd [71,72] [(73,vs xB xN xC)]<| T_ed 1 [73] [(12,vs xB xN xC)]<| T_sz<| ar 10<| T_nd 3 [] [(76,vp (some f))] ?_
  obtain⟨b1,q22,h⟩:=h
  refine T_l1 77 53 q22 [76] ?_
  obtain⟨br,rfl,h⟩:=h
  refine T_nd 2 [77] [(79,vp (some br))] ?_
  obtain⟨bw,q23,h⟩:=h
  refine T_l1 80 56 q23 [79] ?_
  obtain⟨bu,rfl,h⟩:=h
  refine T_nd 2 [80] [(82,vp (some bu))] ?_
  obtain⟨bo,q24,h⟩:=h
  refine T_l1 83 82 q24 [82]<| T_c (some 84) h ?_;clear h
  rintro cg H5 ⟨a5,rfl,h⟩
  refine T_pd [83] [(84,vi a5)]<| T_ed 7 [3,84] [(91,.bool (decide ((zY ((zY (a5-(zY (2*(xN:Int)))))-8))<m)))] ?_
  by_cases c25:(zY ((zY (a5-(zY (2*(xN:Int)))))-8))<m
  ·rw[if_pos c25]at h
   exact aI 91 (zX c25)<| ar 11<| T_nr 2 [8,9] [vp none,vi 2] hQ h
  rw[if_neg c25]at h
  refine aJ 91 (zQ c25)<| T_kt<| ar 12<| T_nd 2 [91] [(92,vp (some f)),(93,vi d)]<| T_nw (some 94) (λb=> .map (some b)) (.map #[] 0) ?_
  intro a4 H6 e27 e28
  replace h:=h a4 H6 e27 e28
  refine T_pd [] [(94,.map (some a4))]<| T_nw (some 95) (λb=> .map (some b)) (.map #[] 0) ?_
  intro a6 H7 e29 e30
  replace h:=h a6 H7 e29 e30
  refine T_pd [] [(95,.map (some a6))]<| T_nd 1 [92,93,94,95] [(96,.agg ([vp (some f),vi d]++List.replicate 1024 (vi 0)++[.map (some a4),.map (some a6),vs none 0 0,vi 0]:List Value).toArray)]<| T_nw (some 97) (λb=>vp (pa b)) (.cells ([vp (some f),vi d]++List.replicate 1024 (vi 0)++[.map (some a4),.map (some a6),vs none 0 0,vi 0]:List Value).toArray 100) ?_
  intro l H8 e31 e32
  replace h:=h l H8 e31 e32
  refine T_pd [96] [(97,vp (pa l))]<| T_ed 1 [97] [(13,vp (pa l))]<| T_sz<| ar 13<| T_ed 3 [12] [(98,vs xB xN xC),(99,vi xN),(100,vi 0)]<| T_bz 2 ?_
  obtain⟨b2,m48,i33,i34⟩:=h
  refine de (x:=K47) (σ:=Int) (λs_=> [(0,vp (some f)),(1,vi g),(2,vi d),(10,vs e gensN gensC),(13,vp (pa l)),(98,vs xB xN xC),(99,vi xN),(100,vi s_)]) (λs_ H=>b2 s_ H) (λs_ H=>m48 s_ H) (0:Int) (by kernel_rfl) i33 sk ?_
  rintro s H9 i35
  have h:=i34 s H9 i35
  refine T_su [(0,vp (some f)),(1,vi g),(2,vi d),(10,vs e gensN gensC),(13,vp (pa l)),(98,vs xB xN xC),(99,vi xN),(100,vi s)]<| ar 14<| T_ed 1 [] [(101,.bool (decide (s< (xN:Int))))]<| T_sz ?_
  by_cases c36:s< (xN:Int)
  ·rw[if_pos c36]at h
   refine aI 101 (zX c36)<| T_kt<| T_sz<| T_bz 3<| ar 15<| T_ud [101] [] ?_
   obtain⟨ao,rfl,q38,h⟩:=h
   refine T_xd (some 102) 79 3 1 ao xN xC .i64 s Tryz.underlying79 q38.1 q38.2 [98] [(98,vs (some ao) xN xC),(102,vp (some (ao.add (Int.toNat s*1))))] ?_
   obtain⟨al,q39,h⟩:=h
   refine T_l1 103 3 q39 [102]<| T_ed 1 [103] [(15,vi al)]<| T_rz 16<| T_nd 4 [15] [(105,vi al),(107,vp (some ((ad l).add 2)))] ?_
   obtain⟨q40,h⟩:=h
   refine T_v1 108 (aX 97 (vp (some ((ad l).add 2))) (vi al)) (vp (some (((ad l).add 2).add (Int.toNat al*1)))) (λw _=>bJ (P:=Tryz.prog) (t:=97) (elem:=3) (sz:=1) (n:=1024) (a:=((ad l).add 2)) (k:=.i64) (i:=al) Tryz.underlying97 (λ_=>by kernel_rfl) q40.1 q40.2 w) [105,107] ?_
   obtain⟨q42,h⟩:=h
   refine fE 3 (vi 1) q42 ?_
   intro b0 e41
   replace h:=h b0 e41
   exact T_pd [108] []<| zq<| aD<| aE<| T_rz 17<| T_ed 2 [100] [(100,vi (zY (s+1)))]<| aW ((zY (s+1)):Int) sk h
  rw[if_neg c36]at h
  refine aJ 101 (zQ c36)<| zz 2<| aA<| aA<| aO<| aE<| T_sz<| ar 18<| T_nd 3 [98,99,100,101] [(112,vp (some f))] ?_
  obtain⟨a9,q43,h⟩:=h
  refine T_l1 113 53 q43 [112] ?_
  obtain⟨a7,rfl,h⟩:=h
  refine T_nd 2 [113] [(115,vp (some a7))] ?_
  obtain⟨bh,q44,h⟩:=h
  refine T_l1 116 56 q44 [115] ?_
  obtain⟨be,rfl,h⟩:=h
  refine T_nd 2 [116] [(118,vp (some be))] ?_
  obtain⟨au,q45,h⟩:=h
  refine T_l1 119 82 q45 [118]<| T_nd 1 [2] [(120,vi d)]<| T_nw (some 121) (λb=>vs (pa b) 1 1) (.cells #[vi d] 3) ?_
  intro bn H11 e46 e47
  replace h:=h bn H11 e46 e47
  refine T_pd [120] [(121,vs (pa bn) 1 1)]<| T_c (some 122) h ?_;clear h
  rintro cj ch ⟨an,j,q,rfl,h⟩
  refine T_pd [119,121] [(122,vs an j q)]<| T_ed 2 [] [(123,vi j),(124,vi 0)]<| T_bz 4 ?_
  obtain⟨bt,m65,i48,i49⟩:=h
  refine de (x:=K64) (σ:=Int) (λs_=> [(0,vp (some f)),(1,vi g),(10,vs e gensN gensC),(13,vp (pa l)),(122,vs an j q),(123,vi j),(124,vi s_)]) (λs_ H=>bt s_ H) (λs_ H=>m65 s_ H) (0:Int) (by kernel_rfl) i48 sk ?_
  rintro o H13 i50
  have h:=i49 o H13 i50
  refine T_su [(0,vp (some f)),(1,vi g),(10,vs e gensN gensC),(13,vp (pa l)),(122,vs an j q),(123,vi j),(124,vi o)]<| ar 19<| T_ed 1 [] [(125,.bool (decide (o< (j:Int))))]<| T_sz ?_
  by_cases c51:o< (j:Int)
  ·rw[if_pos c51]at h
   refine aI 125 (zX c51)<| T_kt<| T_sz<| T_bz 5<| ar 20<| T_ud [125] [] ?_
   obtain⟨r,rfl,q53,h⟩:=h
   refine T_xd (some 126) 79 3 1 r j q .i64 o Tryz.underlying79 q53.1 q53.2 [122] [(122,vs (some r) j q),(126,vp (some (r.add (Int.toNat o*1))))] ?_
   obtain⟨p,q54,h⟩:=h
   refine T_l1 127 3 q54 [126]<| T_ed 1 [127] [(17,vi p)]<| ar 21<| T_nd 3 [] [(131,vp (some f))] ?_
   obtain⟨ba,q55,h⟩:=h
   refine T_l1 132 53 q55 [131] ?_
   obtain⟨bl,rfl,h⟩:=h
   refine T_nd 2 [132] [(134,vp (some bl))] ?_
   obtain⟨bb,q56,h⟩:=h
   refine T_l1 135 56 q56 [134] ?_
   obtain⟨bm,rfl,h⟩:=h
   refine T_nd 2 [135] [(137,vp (some bm))] ?_
   obtain⟨ay,q57,h⟩:=h
   refine T_l1 138 82 q57 [137]<| T_nd 1 [] [(139,vi p)]<| T_c (some 140) h ?_;clear h
   rintro ce cd ⟨am,ah,a1,ac,ae,aa,ab,rb,rfl,h⟩
   refine T_pd [138,139] [(140,.tuple #[.agg #[vi am,vi ah,vi a1,vi ac,vi ae,vi aa,vi ab],.bool rb])]<| T_nd 3 [140] [(141,.agg #[vi am,vi ah,vi a1,vi ac,vi ae,vi aa,vi ab]),(142,.bool rb)]<| T_nw (some 18) (λb=>vp (pa b)) (.cells #[vi 0,vi 0,vi 0,vi 0,vi 0,vi 0,vi 0] 102) ?_
   intro y H15 e58 e59
   replace h:=h y H15 e58 e59
   refine T_pd [] [(18,vp (pa y))] ?_
   obtain⟨q61,h⟩:=h
   refine fl 102 [vi am,vi ah,vi a1,vi ac,vi ae,vi aa,vi ab] q61 ?_
   intro ax e60
   replace h:=h ax e60
   refine T_pd [141] []<| T_ed 1 [142] [] ?_
   obtain⟨ag,q62,ai,q63,aj,q64,af,q65,h⟩:=h
   refine yW 22 (Code.ops K77) [(14,((ad l).add 1026),[.map ag]),(14,((ad l).add 1027),[.map ai]),(16,((ad y).add 2),[vi aj]),(19,((ad y).add 2),[vi af])] 20 (bv 20 0) (show aG _ _ _ from⟨⟨q62,trivial⟩,⟨q63,trivial⟩,⟨q64,trivial⟩,⟨q65,trivial⟩,trivial⟩)<| T_gp 0 (some 143) (vp (pa l)) (bv 20 1) [(0,vp (some f)),(1,vi g),(10,vs e gensN gensC),(13,vp (pa l)),(17,vi p),(18,vp (pa y)),(122,vs (some r) j q),(123,vi j),(124,vi o),(143,vp (pa l))]<| aF 1 144 (vp (pa l)) (bv 20 3) [143]<| aF 2 145 (vp (some ((ad l).add 1026))) (bv 20 7) [144]<| T_g1 3 146 (.map ag) (bv 20 15) [145] (aP 96 (vp (some ((ad l).add 1026)))) (yV 14 zw)<| aF 4 147 (vi p) (bv 20 31) []<| aF 5 148 (vp (pa l)) (bv 20 63) []<| aF 6 149 (vp (pa l)) (bv 20 127) [148]<| aF 7 150 (vp (some ((ad l).add 1027))) (bv 20 255) [149]<| T_g1 8 151 (.map ai) (bv 20 511) [150] (aP 96 (vp (some ((ad l).add 1027)))) (yV 14 yZ)<| aF 9 152 (vi p) (bv 20 1023) [17]<| aF 10 153 (vp (some ((ad y).add 2))) (bv 20 2047) []<| T_g1 11 154 (vi aj) (bv 20 4095) [153] (aP 3 (vp (some ((ad y).add 2)))) (yV 16 yX)<| aF 12 155 (vp (some ((ad y).add 2))) (bv 20 8191) [18]<| T_g1 13 156 (vi af) (bv 20 16383) [155] (aP 3 (vp (some ((ad y).add 2)))) (yV 19 yQ) ?_
   obtain⟨mr,rfl,es,cl,ks,q68,q69,q73,h⟩:=h
   refine kK 14 (some 157) (bv 20 32767) (iz 96 (.map (some mr)) (vi p)) (λu Hz=> ∃es2 cl2 sp v0,Hz=bL ax mr (.map es2 cl2)/\Ents (cV .i64) es2.toList (mput ks p v0)/\Born es2 cl2/\gp es2 (vi p) sp/\u=.tuple #[v0,vi sp]) (by kernel_rfl) (λ_=>by kernel_rfl) (jB (kk:=(cV .i64)) (z:=vi 0) Tryz.underlying96 Tryz.underlying3 (λ_=>by kernel_rfl) q68 q69 q73) (by kernel_rfl) ?_
   rintro _ H17 ⟨a2,cl_2,stamp,x_21,e71,e72,e74,e75,rfl⟩
   replace h:=h a2 cl_2 stamp x_21 H17 e71 e72 e74 e75
   obtain⟨f66,f67,h⟩:=h
   refine⟨[(0,vp (some f)),(1,vi g),(10,vs e gensN gensC),(13,vp (pa l)),(122,vs (some r) j q),(123,vi j),(124,vi o),(146,.map (some mr)),(151,.map ai),(152,vi p),(154,vi aj),(156,vi af),(157,.tuple #[x_21,vi stamp])],pk,(show aG _ _ _ from⟨trivial,trivial,f66,f67,trivial⟩),?_⟩
   refine T_g 15 (some 158) (vi stamp) (bv 20 65535) [(0,vp (some f)),(1,vi g),(10,vs e gensN gensC),(13,vp (pa l)),(122,vs (some r) j q),(123,vi j),(124,vi o),(146,.map (some mr)),(151,.map ai),(152,vi p),(154,vi aj),(156,vi af),(158,vi stamp)] (pure (.value (vi stamp)):Sem Next) (λ_ _ _ _ _=>rfl) ?_
   obtain⟨bg,cl_3,ks_2,k,q77,q78,q79,q80,h⟩:=h
   refine fq 16 none (bv 20 131071) (jl 96 (.map (some mr)) (vi stamp) (vi aj)) (λHz=> ∃es2,Hz=bL H17 mr (.map es2 cl_3)/\Ents (cV .i64) es2.toList (mput ks_2 k (vi aj))/\Born es2 cl_3) (by kernel_rfl) (λ_=>by kernel_rfl) (jC (kk:=(cV .i64)) q77 q78 q79 q80) (by kernel_rfl) ?_
   rintro H18 ⟨a8,e81,e82,e83⟩
   replace h:=h a8 H18 e81 e82 e83
   obtain⟨f76,h⟩:=h
   refine⟨[(0,vp (some f)),(1,vi g),(10,vs e gensN gensC),(13,vp (pa l)),(122,vs (some r) j q),(123,vi j),(124,vi o),(151,.map ai),(152,vi p),(156,vi af)],pk,(show aG _ _ _ from⟨trivial,trivial,trivial,f76,trivial⟩),?_⟩
   obtain⟨ak,rfl,bp,cl_4,ks_3,q85,q86,q90,h⟩:=h
   refine kK 17 (some 159) (bv 20 262143) (iz 96 (.map (some ak)) (vi p)) (λu Hz=> ∃es2 cl2 sp v0,Hz=bL H18 ak (.map es2 cl2)/\Ents (cV .i64) es2.toList (mput ks_3 p v0)/\Born es2 cl2/\gp es2 (vi p) sp/\u=.tuple #[v0,vi sp]) (by kernel_rfl) (λ_=>by kernel_rfl) (jB (kk:=(cV .i64)) (z:=vi 0) Tryz.underlying96 Tryz.underlying3 (λ_=>by kernel_rfl) q85 q86 q90) (by kernel_rfl) ?_
   rintro _ H19 ⟨a3,cl_5,stamp_2,x_22,e88,e89,e91,e92,rfl⟩
   replace h:=h a3 cl_5 stamp_2 x_22 H19 e88 e89 e91 e92
   obtain⟨f84,h⟩:=h
   refine⟨[(0,vp (some f)),(1,vi g),(10,vs e gensN gensC),(13,vp (pa l)),(122,vs (some r) j q),(123,vi j),(124,vi o),(151,.map (some ak)),(156,vi af),(159,.tuple #[x_22,vi stamp_2])],pk,(show aG _ _ _ from⟨trivial,trivial,trivial,f84,trivial⟩),?_⟩
   refine T_g 18 (some 160) (vi stamp_2) (bv 20 524287) [(0,vp (some f)),(1,vi g),(10,vs e gensN gensC),(13,vp (pa l)),(122,vs (some r) j q),(123,vi j),(124,vi o),(151,.map (some ak)),(156,vi af),(160,vi stamp_2)] (pure (.value (vi stamp_2)):Sem Next) (λ_ _ _ _ _=>rfl) ?_
   obtain⟨bi,cl_6,ks_4,k_2,q93,q94,q95,q96,h⟩:=h
   refine fq 19 none (bv 20 1048575) (jl 96 (.map (some ak)) (vi stamp_2) (vi af)) (λHz=> ∃es2,Hz=bL H19 ak (.map es2 cl_6)/\Ents (cV .i64) es2.toList (mput ks_4 k_2 (vi af))/\Born es2 cl_6) (by kernel_rfl) (λ_=>by kernel_rfl) (jC (kk:=(cV .i64)) q93 q94 q95 q96) (by kernel_rfl) ?_
   rintro H20 ⟨bj,e97,e98,e99⟩
   replace h:=h bj H20 e97 e98 e99
   refine⟨[(0,vp (some f)),(1,vi g),(10,vs e gensN gensC),(13,vp (pa l)),(122,vs (some r) j q),(123,vi j),(124,vi o)],pk,(show aG _ _ _ from⟨trivial,trivial,trivial,trivial,trivial⟩),?_⟩
   refine eV [(0,vp (some f)),(1,vi g),(10,vs e gensN gensC),(13,vp (pa l)),(122,vs (some r) j q),(123,vi j),(124,vi o)] sk ?_
   exact yq<| aD<| aE<| T_rz 23<| T_ne 2 [(0,vp (some f)),(1,vi g),(10,vs e gensN gensC),(13,vp (pa l)),(122,vs (some r) j q),(123,vi j),(124,vi (zY (o+1)))]<| aW ((zY (o+1)):Int) sk h
  rw[if_neg c51]at h
  refine aJ 125 (zQ c51)<| zz 4<| aA<| aA<| aO<| aE<| ar 24<| T_nd 3 [122,123,124,125] [(164,vp (some f))] ?_
  obtain⟨bd,q100,h⟩:=h
  refine T_l1 165 53 q100 [164] ?_
  obtain⟨bf,rfl,h⟩:=h
  refine T_nd 2 [165] [(167,vp (some bf))] ?_
  obtain⟨a0,q101,h⟩:=h
  refine T_l1 168 56 q101 [167]<| T_nd 1 [10] [(169,vs e gensN gensC)]<| T_c (some 170) h ?_;clear h
  intro v_5 cc h
  refine T_pd [168,169] []<| T_e<| ar 25<| T_nd 4 [0] [(171,vp (pa l)),(174,vp (some f))] ?_
  obtain⟨az,q102,h⟩:=h
  refine T_l1 175 53 q102 [174]<| T_nd 1 [1] [(176,vi g)]<| T_c (some 177) h ?_;clear h
  rintro ci b6 ⟨aw,av,aq,rfl,h⟩
  refine T_pd [175,176] [(177,vs aw av aq)]<| T_nd 2 [171] [(179,vp (some ((ad l).add 1028)))] ?_
  obtain⟨q104,h⟩:=h
  refine fE 98 (vs aw av aq) q104 ?_
  intro b8 e103
  replace h:=h b8 e103
  exact T_pd [177,179] []<| T_e<| ar 26<| T_nr 3 [8,9] [vp (pa l),vi 0] hQ h
 intro hk
 refine T_nu [(0,vp (some f)),(1,vi g),(2,vi d),(3,vi m),(33,.bool (decide (g<0)))] ?_
 by_cases c2:g<0
 ·have b3:(decide (g<0))=true:=zX c2
  refine cO [(0,vp (some f)),(1,vi g),(2,vi d),(3,vi m),(33,.bool true)] (by rw[b3]) ?_
  refine T_nd 18 [33] [(51,.bool true)]<| zq<| S_bd 51 (b:=true) (v:=(((((decide (g<0)) || (decide (g>=4))) || (decide (d<g))) || (decide (d>(zY (g+1))))) || (decide (m<0)))) (by simp only[b3,BL]) ?_
  exact hk
 have b3:(decide (g<0))=false:=zQ c2
 refine cO [(0,vp (some f)),(1,vi g),(2,vi d),(3,vi m),(33,.bool false)] (by rw[b3]) ?_
 refine T_nd 4 [33] [(37,.bool (decide (g>=4)))] ?_
 by_cases c4:g>=4
 ·have b5:(decide (g>=4))=true:=zX c4
  refine N_bd 37 b5<| T_nd 14 [37] [(51,.bool true)] ?_
  refine zq<| S_bd 51 (b:=true) (v:=(((((decide (g<0)) || (decide (g>=4))) || (decide (d<g))) || (decide (d>(zY (g+1))))) || (decide (m<0)))) (by simp only[b3,b5,BL]) ?_
  exact hk
 have b5:(decide (g>=4))=false:=zQ c4
 refine N_bd 37 b5<| T_nd 5 [37] [(42,.bool (decide (d<g)))] ?_
 by_cases c6:d<g
 ·have b7:(decide (d<g))=true:=zX c6
  refine N_bd 42 b7<| T_nd 9 [42] [(51,.bool true)] ?_
  refine zq<| S_bd 51 (b:=true) (v:=(((((decide (g<0)) || (decide (g>=4))) || (decide (d<g))) || (decide (d>(zY (g+1))))) || (decide (m<0)))) (by simp only[b3,b5,b7,BL]) ?_
  exact hk
 have b7:(decide (d<g))=false:=zQ c6
 refine N_bd 42 b7<| T_nd 6 [42] [(48,.bool (decide (d>(zY (g+1)))))] ?_
 by_cases c8:d>(zY (g+1))
 ·have b9:(decide (d>(zY (g+1))))=true:=zX c8
  refine N_bd 48 b9<| T_nd 3 [48] [(51,.bool true)] ?_
  refine zq<| S_bd 51 (b:=true) (v:=(((((decide (g<0)) || (decide (g>=4))) || (decide (d<g))) || (decide (d>(zY (g+1))))) || (decide (m<0)))) (by simp only[b3,b5,b7,b9,BL]) ?_
  exact hk
 have b9:(decide (d>(zY (g+1))))=false:=zQ c8
 refine N_bd 48 b9<| T_nd 3 [48] [(51,.bool (decide (m<0)))] ?_
 refine zq<| S_bd 51 (b:=(decide (m<0))) (v:=(((((decide (g<0)) || (decide (g>=4))) || (decide (d<g))) || (decide (d>(zY (g+1))))) || (decide (m<0)))) (by simp only[b3,b5,b7,b9,BL]) ?_
 exact hk
end ew

/-! (*moraine/trace.Trace).Visit -/
namespace aU
def K0:=Func.code Tryz.f12
def K2:=cb K0
def K4:=cb K2
def K10:=cb K4
def K20:=cb K10
def K22:=cb K20
def K30:=cb K22
def K32:=cb K30
def K33:=ca K32
def K34:=cb K32
def K36:=cb K34
def K41:=ca K36
def K44:=cb K41
def K45:=ca K44
def K46:=ca K45
end aU
def aU.pt(tv:zW)(wv:Int)(H:zV)(R:zj):Prop:=
 cy.C tv wv H (λv H1=> ∃x:Bool,v=.bool x/\
 if x=true then(
 bX.C tv wv H1 (λbq H2=> ∃(ra:Int) (rb:Bool),bq=.tuple #[.int .u64 ra,.bool rb]/\
 if rb=true then(
 R (.int .u64 ra) H2)
 else
 ∃d:Addr,tv=some d/\
 ∃aq:zW,hat H2 d=some (.pointer aq)/\
 dG.C aq wv H2 (λbz H3=> ∃f:Int,bz=.int .i64 f/\
 if f=0 then(
 R (.int .u64 wv) H3)
 else
 dV.C wv H3 (λbp H4=> ∃(a:Int) (bg:Bool),bp=.tuple #[.int .i64 a,.bool bg]/\
 ∃bc:zW,hat H4 d=some (.pointer bc)/\
 ∃a6:Addr,bc=some a6/\
 ∃bb:zW,hat H4 a6=some (.pointer bb)/\
 ∃a7:Addr,bb=some a7/\
 ∃a9:zW,hat H4 a7=some (.pointer a9)/\
 ∃a8:Addr,a9=some a8/\
 ∃au:zW,hat H4 a8=some (.pointer au)/\
 bE.C au (zY (Int.tdiv a 64)) H4 (λb1 H5=> ∃(r q ae k l i j:Int) (af:Bool),b1=.tuple #[.agg #[.int .i64 r,.int .i64 q,.int .i64 ae,.int .i64 k,.int .i64 l,.int .i64 i,.int .i64 j],.bool af]/\
 ∀(b:Nat) (H6:zV),b=H5.size->H6=H5.push (.cells #[.int .i64 0,.int .i64 0,.int .i64 0,.int .i64 0,.int .i64 0,.int .i64 0,.int .i64 0] 102)->
 (aK H6 (ad b) 0 7)/\ ∀H7,H7=aS H6 (ad b) [.int .i64 r,.int .i64 q,.int .i64 ae,.int .i64 k,.int .i64 l,.int .i64 i,.int .i64 j] 0->
 ∃bj:zW,hat H7 d=some (.pointer bj)/\
 ∃s:Addr,bj=some s/\
 ∃bh:zW,hat H7 s=some (.pointer bh)/\
 ∃t:Addr,bh=some t/\
 ∃p:zW,hat H7 t=some (.pointer p)/\
 ∃u:Int,hat H7 (d.add 1)=some (.int .i64 u)/\
 ∃y:Int,hat H7 ((ad b).add 1)=some (.int .i64 y)/\
 bR.C p u y f H7 (λbt H8=> ∃e m:Int,bt=.tuple #[.int .i64 e,.int .i64 m]/\
 if m=0 then(
 ∃(ba:zk) (m47:Int->zV->Nat),ba 0 H8/\ ∀(g:Int) (H9:zV),ba g H9->
 if g<f then(
 ∃ap:zW,hat H9 d=some (.pointer ap)/\
 ∃ao:Addr,ap=some ao/\
 ∃ai:zW,hat H9 ao=some (.pointer ai)/\
 ∃a0:Addr,ai=some a0/\
 ∃aj:zW,hat H9 a0=some (.pointer aj)/\
 ∃a2:Addr,aj=some a2/\
 ∃z:zW,hat H9 a2=some (.pointer z)/\
 bQ.C z (zY (a+g)) H9 (λbu a5=> ∃n bd:Int,bu=.tuple #[.int .u64 n,.int .i64 bd]/\
 ∃az:zW,hat a5 d=some (.pointer az)/\
 ∃aw:Addr,az=some aw/\
 ∃av:zW,hat a5 aw=some (.pointer av)/\
 ∃ax:Addr,av=some ax/\
 ∃ay:zW,hat a5 ax=some (.pointer ay)/\
 ∃ah:Addr,ay=some ah/\
 ∃aa:zW,hat a5 ah=some (.pointer aa)/\
 bK.C aa (zY (e+g)) n a5 (λbs bi=> ∃bm:Int,bs=.int .i64 bm/\
 (ba (zY (g+1)) bi/\m47 (zY (g+1)) bi<m47 g H9))))
 else
 fe.C 6 e H9 (λbr a4=> ∃o be:Int,br=.tuple #[.int .u64 o,.int .i64 be]/\
 ∃a3:zW,hat a4 d=some (.pointer a3)/\
 ∃an:Addr,a3=some an/\
 ∃ak:zW,hat a4 an=some (.pointer ak)/\
 ∃am:Addr,ak=some am/\
 ∃al:zW,hat a4 am=some (.pointer al)/\
 ∃a1:Addr,al=some a1/\
 ∃ab:zW,hat a4 a1=some (.pointer ab)/\
 bK.C ab a o a4 (λbn bx=> ∃bo:Int,bn=.int .i64 bo/\
 dQ.C wv bx (λbk b0=> ∃ag:Int,bk=.int .i64 ag/\
 fe.C ag e b0 (λbl bw=> ∃ac bf:Int,bl=.tuple #[.int .u64 ac,.int .i64 bf]/\
 R (.int .u64 ac) bw)))))
 else
 R (.int .u64 wv) H8))))))
 else
 R (.int .u64 wv) H1)
namespace aU
theorem link{tv:zW}{wv:Int}{H:zV}{R:zj}(h:pt tv wv H R):C tv wv H R:=by
 refine T_en K0 163 Tryz.func12 ?_
 intro w0 Q hQ
 unfold pt zY at h
 refine T_su [(0,vp tv),(1,vu wv)]<| ar 0<| T_ed 1 [] []<| T_sz<| ar 1<| T_nd 2 [] [(21,vp tv),(22,vu wv)]<| T_c (some 23) h ?_;clear h
 rintro v H1 ⟨x,rfl,h⟩
 refine T_pd [21,22] [(23,.bool x)]<| T_ed 1 [23] [(24,.bool (!x))] ?_
 by_cases c1:x=true
 ·rw[if_pos c1]at h
  refine aJ 24 (congrArg Bool.not (c1))<| T_kt<| T_sz<| ar 3<| T_nd 2 [24] [(27,vp tv),(28,vu wv)]<| T_c (some 29) h ?_;clear h
  rintro bq H2 ⟨ra,rb,rfl,h⟩
  refine T_pd [27,28] [(29,.tuple #[vu ra,.bool rb])]<| T_ed 5 [29] [(5,vu ra),(6,.bool rb)]<| ar 4<| T_ed 1 [6] [(32,.bool rb)] ?_
  by_cases c3:rb=true
  ·rw[if_pos c3]at h
   exact aI 32 c3<| ar 5<| T_nr 2 [4] [vu ra] hQ h
  rw[if_neg c3]at h
  refine aJ 32 (zZ c3)<| T_kt<| ar 6<| T_nd 1 [5,32] [(34,vp tv)] ?_
  obtain⟨d,rfl,h⟩:=h
  refine T_nd 2 [0,34] [(0,vp (some d)),(36,vp (some d))] ?_
  obtain⟨aq,q5,h⟩:=h
  refine T_l1 37 23 q5 [36]<| T_nd 1 [] [(38,vu wv)]<| T_c (some 39) h ?_;clear h
  rintro bz H3 ⟨f,rfl,h⟩
  refine T_pd [37,38] [(39,vi f)]<| T_ed 1 [39] [(7,vi f)]<| T_sz<| ar 7<| T_ed 2 [] [(41,.bool (f==0))] ?_
  by_cases c6:f=0
  ·rw[if_pos c6]at h
   exact aI 41 (zK c6)<| ar 8<| T_nr 2 [4] [vu wv] hQ h
  rw[if_neg c6]at h
  refine aJ 41 (zJ c6)<| T_kt<| ar 9<| T_nd 1 [41] [(44,vu wv)]<| T_c (some 45) h ?_;clear h
  rintro bp H4 ⟨a,bg,rfl,h⟩
  refine T_pd [44] [(45,.tuple #[vi a,.bool bg])]<| T_ed 5 [45] [(8,vi a)]<| ar 10<| T_nd 3 [] [(51,vp (some d))] ?_
  obtain⟨bc,q8,h⟩:=h
  refine T_l1 52 23 q8 [51] ?_
  obtain⟨a6,rfl,h⟩:=h
  refine T_nd 2 [52] [(54,vp (some a6))] ?_
  obtain⟨bb,q9,h⟩:=h
  refine T_l1 55 53 q9 [54] ?_
  obtain⟨a7,rfl,h⟩:=h
  refine T_nd 2 [55] [(57,vp (some a7))] ?_
  obtain⟨a9,q10,h⟩:=h
  refine T_l1 58 56 q10 [57] ?_
  obtain⟨a8,rfl,h⟩:=h
  refine T_nd 2 [58] [(60,vp (some a8))] ?_
  obtain⟨au,q11,h⟩:=h
  refine T_l1 61 82 q11 [60]<| T_nd 2 [] [(63,vi (zY (Int.tdiv a 64)))]<| T_c (some 64) h ?_;clear h
  rintro b1 H5 ⟨r,q,ae,k,l,i,j,af,rfl,h⟩
  refine T_pd [61,63] [(64,.tuple #[.agg #[vi r,vi q,vi ae,vi k,vi l,vi i,vi j],.bool af])]<| T_nd 3 [64] [(65,.agg #[vi r,vi q,vi ae,vi k,vi l,vi i,vi j]),(66,.bool af)]<| T_nw (some 10) (λb=>vp (pa b)) (.cells #[vi 0,vi 0,vi 0,vi 0,vi 0,vi 0,vi 0] 102) ?_
  intro b H6 e12 e13
  replace h:=h b H6 e12 e13
  refine T_pd [] [(10,vp (pa b))] ?_
  obtain⟨q15,h⟩:=h
  refine fl 102 [vi r,vi q,vi ae,vi k,vi l,vi i,vi j] q15 ?_
  intro H7 e14
  replace h:=h H7 e14
  refine T_pd [65] []<| T_ed 1 [66] []<| T_sz ?_
  obtain⟨bj,q16,s,rfl,bh,q17,t,rfl,p,q18,u,q19,y,q20,h⟩:=h
  refine yW 11 (Code.ops K33) [(17,d,[vp (some s)]),(17,s,[vp (some t)]),(17,t,[vp p]),(17,(d.add 1),[vi u]),(17,((ad b).add 1),[vi y])] 23 (bv 23 0) (show aG _ _ _ from⟨⟨q16,trivial⟩,⟨q17,trivial⟩,⟨q18,trivial⟩,⟨q19,trivial⟩,⟨q20,trivial⟩,trivial⟩)<| T_gp 0 (some 68) (vp (some d)) (bv 23 1) [(0,vp (some d)),(1,vu wv),(7,vi f),(8,vi a),(10,vp (pa b)),(68,vp (some d))]<| aF 1 69 (vp (some d)) (bv 23 3) [68]<| aF 2 70 (vp (some d)) (bv 23 7) [69]<| T_g1 3 71 (vp (some s)) (bv 23 15) [70] (aP 23 (vp (some d))) (yV 17 zw)<| aF 4 72 (vp (some s)) (bv 23 31) [71]<| aF 5 73 (vp (some s)) (bv 23 63) [72]<| T_g1 6 74 (vp (some t)) (bv 23 127) [73] (aP 53 (vp (some s))) (yV 17 yZ)<| aF 7 75 (vp (some t)) (bv 23 255) [74]<| aF 8 76 (vp (some t)) (bv 23 511) [75]<| T_g1 9 77 (vp p) (bv 23 1023) [76] (aP 56 (vp (some t))) (yV 17 yX)<| aF 10 78 (vp (some d)) (bv 23 2047) []<| aF 11 79 (vp (some d)) (bv 23 4095) [78]<| aF 12 80 (vp (some (d.add 1))) (bv 23 8191) [79]<| T_g1 13 81 (vi u) (bv 23 16383) [80] (aP 3 (vp (some (d.add 1)))) (yV 17 yQ)<| aF 14 82 (vp (some ((ad b).add 1))) (bv 23 32767) [10]<| T_g1 15 83 (vi y) (bv 23 65535) [82] (aP 3 (vp (some ((ad b).add 1)))) (yV 17 yJ)<| aF 16 84 (vi f) (bv 23 131071) []<| yY 17 (some 85) (bv 23 262143) 49 #[vp p,vi u,vi y,vi f] h ?_;clear h
  rintro bt H8 ⟨e,m,rfl,h⟩
  refine⟨[(0,vp (some d)),(1,vu wv),(7,vi f),(8,vi a),(85,.tuple #[vi e,vi m])],pk,(show aG _ _ _ from⟨trivial,trivial,trivial,trivial,trivial,trivial⟩),?_⟩
  refine T_g 18 (some 67) (.tuple #[vi e,vi m]) (bv 23 524287) [(0,vp (some d)),(1,vu wv),(7,vi f),(8,vi a),(67,.tuple #[vi e,vi m])] (pure (.value (.tuple #[vi e,vi m])):Sem Next) (λ_ _ _ _ _=>rfl)<| T_g1 19 86 (vi e) (bv 23 1048575) [] (pure (.value (vi e)):Sem Next) (λ_ _ _ _ _=>rfl)<| T_g1 20 87 (vi m) (bv 23 2097151) [67] (pure (.value (vi m)):Sem Next) (λ_ _ _ _ _=>rfl)<| T_g1 21 12 (vi e) (bv 23 4194303) [86] (pure (.value (vi e)):Sem Next) (λ_ _ _ _ _=>rfl)<| T_g1 22 13 (vi m) (bv 23 8388607) [87] (pure (.value (vi m)):Sem Next) (λ_ _ _ _ _=>rfl)<| eV [(0,vp (some d)),(1,vu wv),(7,vi f),(8,vi a),(12,vi e),(13,vi m)] sk<| yq<| aE<| T_sz<| ar 12<| T_ne 2 [(0,vp (some d)),(1,vu wv),(7,vi f),(8,vi a),(12,vi e),(89,.bool (m !=0))] ?_
  by_cases c21:m=0
  ·rw[if_pos c21]at h
   refine aJ 89 (bne_eq_false_iff_eq.mpr c21)<| T_kt<| T_sz<| ar 14<| T_ed 2 [7,89] [(91,vi f),(92,vi 0)]<| T_bz 0 ?_
   obtain⟨ba,m47,i23,i24⟩:=h
   refine de (x:=K46) (σ:=Int) (λs_=> [(0,vp (some d)),(1,vu wv),(8,vi a),(12,vi e),(91,vi f),(92,vi s_)]) (λs_ H=>ba s_ H) (λs_ H=>m47 s_ H) (0:Int) (by kernel_rfl) i23 sk ?_
   rintro g H9 i25
   have h:=i24 g H9 i25
   refine T_su [(0,vp (some d)),(1,vu wv),(8,vi a),(12,vi e),(91,vi f),(92,vi g)]<| ar 15<| T_ed 1 [] [(93,.bool (decide (g<f)))]<| T_sz ?_
   by_cases c26:g<f
   ·rw[if_pos c26]at h
    refine aI 93 (zX c26)<| T_kt<| T_sz<| T_bz 1<| ar 16<| T_ed 2 [93] [(14,vi g)]<| ar 17<| T_nd 3 [] [(98,vp (some d))] ?_
    obtain⟨ap,q28,h⟩:=h
    refine T_l1 99 23 q28 [98] ?_
    obtain⟨ao,rfl,h⟩:=h
    refine T_nd 2 [99] [(101,vp (some ao))] ?_
    obtain⟨ai,q29,h⟩:=h
    refine T_l1 102 53 q29 [101] ?_
    obtain⟨a0,rfl,h⟩:=h
    refine T_nd 2 [102] [(104,vp (some a0))] ?_
    obtain⟨aj,q30,h⟩:=h
    refine T_l1 105 56 q30 [104] ?_
    obtain⟨a2,rfl,h⟩:=h
    refine T_nd 2 [105] [(107,vp (some a2))] ?_
    obtain⟨z,q31,h⟩:=h
    refine T_l1 108 82 q31 [107]<| T_nd 3 [] [(111,vi (zY (a+g)))]<| T_c (some 112) h ?_;clear h
    rintro bu a5 ⟨n,bd,rfl,h⟩
    refine T_pd [108,111] [(112,.tuple #[vu n,vi bd])]<| T_ed 5 [112] [(15,vu n)]<| T_rz 18<| T_nd 3 [] [(117,vp (some d))] ?_
    obtain⟨az,q32,h⟩:=h
    refine T_l1 118 23 q32 [117] ?_
    obtain⟨aw,rfl,h⟩:=h
    refine T_nd 2 [118] [(120,vp (some aw))] ?_
    obtain⟨av,q33,h⟩:=h
    refine T_l1 121 53 q33 [120] ?_
    obtain⟨ax,rfl,h⟩:=h
    refine T_nd 2 [121] [(123,vp (some ax))] ?_
    obtain⟨ay,q34,h⟩:=h
    refine T_l1 124 56 q34 [123] ?_
    obtain⟨ah,rfl,h⟩:=h
    refine T_nd 2 [124] [(126,vp (some ah))] ?_
    obtain⟨aa,q35,h⟩:=h
    refine T_l1 127 82 q35 [126]<| T_nd 4 [14,15] [(130,vi (zY (e+g))),(131,vu n)]<| T_c (some 132) h ?_;clear h
    rintro bs bi ⟨bm,rfl,h⟩
    exact T_pd [127,130,131] []<| zq<| aD<| aE<| T_rz 19<| T_ed 2 [92] [(92,vi (zY (g+1)))]<| aW ((zY (g+1)):Int) sk h
   rw[if_neg c26]at h
   refine aJ 93 (zQ c26)<| zz 0<| aA<| aA<| aO<| aE<| ar 20<| T_nd 1 [91,92,93] [(135,vi e)]<| T_c (some 136) h ?_;clear h
   rintro br a4 ⟨o,be,rfl,h⟩
   refine T_pd [135] [(136,.tuple #[vu o,vi be])]<| T_ed 5 [136] [(17,vu o)]<| ar 21<| T_nd 3 [0] [(141,vp (some d))] ?_
   obtain⟨a3,q36,h⟩:=h
   refine T_l1 142 23 q36 [141] ?_
   obtain⟨an,rfl,h⟩:=h
   refine T_nd 2 [142] [(144,vp (some an))] ?_
   obtain⟨ak,q37,h⟩:=h
   refine T_l1 145 53 q37 [144] ?_
   obtain⟨am,rfl,h⟩:=h
   refine T_nd 2 [145] [(147,vp (some am))] ?_
   obtain⟨al,q38,h⟩:=h
   refine T_l1 148 56 q38 [147] ?_
   obtain⟨a1,rfl,h⟩:=h
   refine T_nd 2 [148] [(150,vp (some a1))] ?_
   obtain⟨ab,q39,h⟩:=h
   refine T_l1 151 82 q39 [150]<| T_nd 2 [8,17] [(152,vi a),(153,vu o)]<| T_c (some 154) h ?_;clear h
   rintro bn bx ⟨bo,rfl,h⟩
   refine T_pd [151,152,153] []<| T_e<| ar 22<| T_nd 1 [1] [(156,vu wv)]<| T_c (some 157) h ?_;clear h
   rintro bk b0 ⟨ag,rfl,h⟩
   refine T_pd [156] [(157,vi ag)]<| T_nd 1 [12] [(158,vi e)]<| T_c (some 159) h ?_;clear h
   rintro bl bw ⟨ac,bf,rfl,h⟩
   refine⟨[(159,.tuple #[vu ac,vi bf])],pk,?_⟩
   exact T_ne 5 [(19,vu ac)]<| ar 23<| T_nr 2 [4] [vu ac] hQ h
  rw[if_neg c21]at h
  exact aI 89 (bne_iff_ne.mpr c21)<| ar 13<| T_nr 2 [4] [vu wv] hQ h
 rw[if_neg c1]at h
 exact aI 24 (congrArg Bool.not (zZ c1))<| ar 2<| T_nr 2 [4] [vu wv] hQ h
end aU

/-! (*moraine/trace.Trace).Drain -/
namespace bW
def K0:=Func.code Tryz.f13
def K1:=ca K0
def K2:=ca K1
end bW
def bW.pt(tv:zW)(H:zV)(R:zj):Prop:=
 ∃(I3:zV->Prop) (m3:zV->Nat),I3 H/\ ∀(H1:zV),I3 H1->
 bF.C tv H1 (λv H2=> ∃x:Bool,v=.bool x/\
 if x=true then(
 R (.tuple #[]) H2)
 else
 cI.C tv H2 (λb H3=> ∃a:Bool,b=.bool a/\
 if a=true then(
 (I3 H3/\m3 H3<m3 H1))
 else
 R (.tuple #[]) H3))
namespace bW
theorem link{tv:zW}{H:zV}{R:zj}(h:pt tv H R):C tv H R:=by
 refine T_en K0 9 Tryz.func13 ?_
 intro w0 Q hQ
 unfold pt at h
 refine T_su [(0,vp tv)]<| T_bz 0 ?_
 obtain⟨I3,m3,i1,i2⟩:=h
 refine de (x:=K2) (σ:=Unit) (λs_=> [(0,vp tv)]) (λs_ H=>I3 H) (λs_ H=>m3 H) (():Unit) (by kernel_rfl) i1 sk ?_
 rintro _ H1 i3
 have h:=i2 H1 i3
 refine T_su [(0,vp tv)]<| T_sz<| ar 0<| T_nd 1 [] [(2,vp tv)]<| T_c (some 3) h ?_;clear h
 rintro v H2 ⟨x,rfl,h⟩
 refine T_pd [2] [(3,.bool x)]<| T_nd 2 [3] [(5,.bool (!x))] ?_
 by_cases c4:x=true
 ·rw[if_pos c4]at h
  have b5:(!x)=false:=congrArg Bool.not (c4)
  have b52:x=true:=c4
  refine N_bd 5 (b:=(!x)) (v:=false) (by simp only[b5,b52,Bool.not_true,Bool.not_false]) ?_
  clear b5 b52
  exact T_ed 3 [5] [(8,.bool false)]<| T_fz 8<| zz 0<| aA<| aA<| aO<| eZ (fn:=Tryz.f13) [] hQ (show dU _ _ _ [] _ from .nil) h
 rw[if_neg c4]at h
 have b5:(!x)=true:=congrArg Bool.not (zZ c4)
 have b52:x=false:=zZ c4
 refine N_bd 5 (b:=(!x)) (v:=true) (by simp only[b5,b52,Bool.not_true,Bool.not_false]) ?_
 clear b5 b52
 refine T_nd 1 [] [(6,vp tv)]<| T_c (some 7) h ?_;clear h
 rintro b H3 ⟨a,rfl,h⟩
 refine T_pd [6] [(7,.bool a)]<| T_ed 1 [5,7] [(8,.bool a)] ?_
 by_cases c6:a=true
 ·rw[if_pos c6]at h
  exact aI 8 c6<| T_kt<| T_bz 1<| T_k<| aD<| aE<| aW (s:=()) (():Unit) sk h
 rw[if_neg c6]at h
 exact aJ 8 (zZ c6)<| zz 0<| aA<| aA<| aO<| eZ (fn:=Tryz.f13) [] hQ (show dU _ _ _ [] _ from .nil) h
end bW

/-! (*moraine/trace.Trace).End -/
namespace cM
def K0:=Func.code Tryz.f15
def K2:=cb K0
def K7:=ca K2
def K8:=cb K2
def K10:=cb K7
def K11:=ca K10
def K12:=ca K11
def K28:=ca K8
def K31:=cb K28
def K32:=ca K31
def K33:=ca K32
def K35:=cb K33
def K37:=cb K35
def K40:=ca K37
def K42:=ca K40
def K44:=cb K42
end cM
def cM.pt(tv:zW)(H:zV)(R:zj):Prop:=
 bF.C tv H (λv H1=> ∃x:Bool,v=.bool x/\
 if x=true then(
 R (.tuple #[]) H1)
 else
 ∃d:Addr,tv=some d/\
 ∃g:List Value,g.length=1024/\aT H1 (d.add 2) 0 g/\
 ∃(z:zk) (m13:Int->zV->Nat),z 0 H1/\ ∀(e:Int) (H2:zV),z e H2->
 if e<1024 then(
 ∃r:Int,((0<=e/\e< (1024:Int))/\((g:List Value).toArray)[Int.toNat e]?=some (.int .i64 r))/\
 if r=1 then(
 ∃ae:zW,hat H2 d=some (.pointer ae)/\
 ∃ac:Addr,ae=some ac/\
 ∃ab:zW,hat H2 ac=some (.pointer ab)/\
 ∃af:Addr,ab=some af/\
 ∃y:zW,hat H2 af=some (.pointer y)/\
 cR.C y e H2 (λak H3=> ∃aj:Int,ak=.int .i64 aj/\
 (z (zY (e+1)) H3/\m13 (zY (e+1)) H3<m13 e H2)))
 else
 (z (zY (e+1)) H2/\m13 (zY (e+1)) H2<m13 e H2))
 else
 ∃(xB:zW) (xN xC:Nat),hat H2 (d.add 1028)=some (.slice xB xN xC)/\
 ∃(aa:zk) (m34:Int->zV->Nat),aa 0 H2/\ ∀(f:Int) (H4:zV),aa f H4->
 if f< (xN:Int)then(
 ∃j:Addr,xB=some j/\
 zv f xN/\
 ∃p l:Int,aT H4 (j.add (Int.toNat f*2)) 0 [.int .i64 p,.int .i64 l]/\
 ∀(b:Nat) (H5:zV),b=H4.size->H5=H4.push (.cells #[.int .i64 0,.int .i64 0] 121)->
 (aK H5 (ad b) 0 2)/\ ∀H6,H6=aS H5 (ad b) [.int .i64 p,.int .i64 l] 0->
 ∃ah:zW,hat H6 d=some (.pointer ah)/\
 ∃m:Addr,ah=some m/\
 ∃q:zW,hat H6 m=some (.pointer q)/\
 ∃o:Int,hat H6 (ad b)=some (.int .i64 o)/\
 ∃s:Int,hat H6 ((ad b).add 1)=some (.int .i64 s)/\
 cS.C q o s H6 (λai H7=> ∃ag:Int,ai=.int .i64 ag/\
 (aa (zY (f+1)) H7/\m34 (zY (f+1)) H7<m34 f H4)))
 else
 ∃u:zW,hat H4 d=some (.pointer u)/\
 dI.C u H4 (λ_ H8=>
 (aK H8 (d.add 1029) 0 1)/\ ∀H9,H9=aS H8 (d.add 1029) [.int .i64 1] 0->
 R (.tuple #[]) H9))
namespace cM
theorem link{tv:zW}{H:zV}{R:zj}(h:pt tv H R):C tv H R:=by
 refine T_en K0 61 Tryz.func15 ?_
 intro w0 Q hQ
 unfold pt zY at h
 refine T_su [(0,vp tv)]<| T_sz<| ar 0<| T_nd 1 [] [(6,vp tv)]<| T_c (some 7) h ?_;clear h
 rintro v H1 ⟨x,rfl,h⟩
 refine T_pd [6] [(7,.bool x)]<| T_e ?_
 by_cases c1:x=true
 ·rw[if_pos c1]at h
  exact aI 7 c1<| eW [] [] hQ h
 rw[if_neg c1]at h
 refine aJ 7 (zZ c1)<| T_kt<| T_sz<| ar 1<| T_nd 1 [7] [(8,vp tv)] ?_
 obtain⟨d,rfl,h⟩:=h
 refine T_n 2 [(0,vp (some d)),(10,vp (some (d.add 2)))] ?_
 obtain⟨g,l4,q3,h⟩:=h
 refine T_v1 11 (aP 97 (vp (some (d.add 2)))) (.agg (g).toArray) (eq (eK (λ_=>by kernel_rfl) (λw=>by rw[l4];kernel_rfl) q3)) [10]<| T_ed 1 [] [(12,vi 0)]<| T_bz 0 ?_
 obtain⟨z,m13,i5,i6⟩:=h
 refine de (x:=K12) (σ:=Int) (λs_=> [(0,vp (some d)),(11,.agg (g).toArray),(12,vi s_)]) (λs_ H=>z s_ H) (λs_ H=>m13 s_ H) (0:Int) (by kernel_rfl) i5 sk ?_
 rintro e H2 i7
 have h:=i6 e H2 i7
 refine T_su [(0,vp (some d)),(11,.agg (g).toArray),(12,vi e)]<| ar 2<| T_ed 1 [] [(13,.bool (decide (e<1024)))]<| T_sz ?_
 by_cases c8:e<1024
 ·rw[if_pos c8]at h
  refine aI 13 (zX c8)<| T_kt<| T_sz<| T_bz 1<| ar 3<| T_nd 1 [13] [(14,vi e)] ?_
  obtain⟨r,q10,h⟩:=h
  refine T_v1 15 (jy 97 (.agg (g).toArray) (vi e)) (vi r) (λw _=>gG (P:=Tryz.prog) (t:=97) (elem:=3) (n:=1024) Tryz.underlying97 (λ_=>by kernel_rfl) (λ_=>by kernel_rfl) q10.1.1 q10.1.2 q10.2 w) []<| T_ed 2 [14,15] [(2,vi e),(3,vi r)]<| ar 4<| T_ed 2 [3] [(17,.bool (r==1))] ?_
  by_cases c11:r=1
  ·rw[if_pos c11]at h
   refine aI 17 (zK c11)<| T_rz 5<| T_nd 3 [17] [(20,vp (some d))] ?_
   obtain⟨ae,q13,h⟩:=h
   refine T_l1 21 23 q13 [20] ?_
   obtain⟨ac,rfl,h⟩:=h
   refine T_nd 2 [21] [(23,vp (some ac))] ?_
   obtain⟨ab,q14,h⟩:=h
   refine T_l1 24 53 q14 [23] ?_
   obtain⟨af,rfl,h⟩:=h
   refine T_nd 2 [24] [(26,vp (some af))] ?_
   obtain⟨y,q15,h⟩:=h
   refine T_l1 27 56 q15 [26]<| T_nd 1 [2] [(28,vi e)]<| T_c (some 29) h ?_;clear h
   rintro ak H3 ⟨aj,rfl,h⟩
   exact T_pd [27,28] []<| zq<| aD<| aE<| T_rz 6<| T_ed 2 [12] [(12,vi (zY (e+1)))]<| aW ((zY (e+1)):Int) sk h
  rw[if_neg c11]at h
  exact aJ 17 (zJ c11)<| T_k<| aD<| aE<| T_rz 6<| T_ed 2 [2,12,17] [(12,vi (zY (e+1)))]<| aW ((zY (e+1)):Int) sk h
 rw[if_neg c8]at h
 refine aJ 13 (zQ c8)<| zz 0<| aA<| aA<| aO<| aE<| T_sz<| ar 7<| T_nd 3 [11,12,13] [(33,vp (some (d.add 1028)))] ?_
 obtain⟨xB,xN,xC,q16,h⟩:=h
 refine T_l1 34 98 q16 [33]<| T_ed 2 [] [(35,vi xN),(36,vi 0)]<| T_bz 2 ?_
 obtain⟨aa,m34,i17,i18⟩:=h
 refine de (x:=K33) (σ:=Int) (λs_=> [(0,vp (some d)),(34,vs xB xN xC),(35,vi xN),(36,vi s_)]) (λs_ H=>aa s_ H) (λs_ H=>m34 s_ H) (0:Int) (by kernel_rfl) i17 sk ?_
 rintro f H4 i19
 have h:=i18 f H4 i19
 refine T_su [(0,vp (some d)),(34,vs xB xN xC),(35,vi xN),(36,vi f)]<| ar 8<| T_ed 1 [] [(37,.bool (decide (f< (xN:Int))))]<| T_sz ?_
 by_cases c20:f< (xN:Int)
 ·rw[if_pos c20]at h
  refine aI 37 (zX c20)<| T_kt<| T_sz<| T_bz 3<| ar 9<| T_ud [37] [] ?_
  obtain⟨j,rfl,q22,h⟩:=h
  refine T_xd (some 38) 98 121 2 j xN xC .i64 f Tryz.underlying98 q22.1 q22.2 [34] [(34,vs (some j) xN xC),(38,vp (some (j.add (Int.toNat f*2))))] ?_
  obtain⟨p,l,q23,h⟩:=h
  refine T_lr 39 121 q23 [38]<| T_nw (some 5) (λb=>vp (pa b)) (.cells #[vi 0,vi 0] 121) ?_
  intro b H5 e24 e25
  replace h:=h b H5 e24 e25
  refine T_pd [] [(5,vp (pa b))] ?_
  obtain⟨q27,h⟩:=h
  refine fl 121 [vi p,vi l] q27 ?_
  intro H6 e26
  replace h:=h H6 e26
  refine T_pd [39] []<| T_e ?_
  obtain⟨ah,q28,m,rfl,q,q29,o,q30,s,q31,h⟩:=h
  refine yW 10 (Code.ops K44) [(11,d,[vp (some m)]),(11,m,[vp q]),(11,(ad b),[vi o]),(11,((ad b).add 1),[vi s])] 12 (bv 12 0) (show aG _ _ _ from⟨⟨q28,trivial⟩,⟨q29,trivial⟩,⟨q30,trivial⟩,⟨q31,trivial⟩,trivial⟩)<| T_gp 0 (some 40) (vp (some d)) (bv 12 1) [(0,vp (some d)),(5,vp (pa b)),(34,vs (some j) xN xC),(35,vi xN),(36,vi f),(40,vp (some d))]<| aF 1 41 (vp (some d)) (bv 12 3) [40]<| aF 2 42 (vp (some d)) (bv 12 7) [41]<| T_g1 3 43 (vp (some m)) (bv 12 15) [42] (aP 23 (vp (some d))) (yV 11 zw)<| aF 4 44 (vp (some m)) (bv 12 31) [43]<| aF 5 45 (vp (some m)) (bv 12 63) [44]<| T_g1 6 46 (vp q) (bv 12 127) [45] (aP 53 (vp (some m))) (yV 11 yZ)<| aF 7 47 (vp (pa b)) (bv 12 255) []<| T_g1 8 48 (vi o) (bv 12 511) [47] (aP 3 (vp (pa b))) (yV 11 yX)<| aF 9 49 (vp (some ((ad b).add 1))) (bv 12 1023) [5]<| T_g1 10 50 (vi s) (bv 12 2047) [49] (aP 3 (vp (some ((ad b).add 1)))) (yV 11 yQ)<| yY 11 (some 51) (bv 12 4095) 60 #[vp q,vi o,vi s] h ?_;clear h
  rintro ai H7 ⟨ag,rfl,h⟩
  refine⟨[(0,vp (some d)),(34,vs (some j) xN xC),(35,vi xN),(36,vi f)],pk,(show aG _ _ _ from⟨trivial,trivial,trivial,trivial,trivial⟩),?_⟩
  refine eV [(0,vp (some d)),(34,vs (some j) xN xC),(35,vi xN),(36,vi f)] sk ?_
  exact yq<| aD<| aE<| T_rz 11<| T_ne 2 [(0,vp (some d)),(34,vs (some j) xN xC),(35,vi xN),(36,vi (zY (f+1)))]<| aW ((zY (f+1)):Int) sk h
 rw[if_neg c20]at h
 refine aJ 37 (zQ c20)<| zz 2<| aA<| aA<| aO<| aE<| ar 12<| T_n 3 [(0,vp (some d)),(55,vp (some d))] ?_
 obtain⟨u,q32,h⟩:=h
 refine T_l1 56 23 q32 [55]<| T_c (some 57) h ?_;clear h
 intro v_4 H8 h
 refine T_pd [56] []<| T_e<| T_rz 13<| T_n 3 [(60,vp (some (d.add 1029)))] ?_
 obtain⟨q34,h⟩:=h
 refine fE 3 (vi 1) q34 ?_
 intro H9 e33
 replace h:=h H9 e33
 refine⟨[],pk,?_⟩
 exact zq<| eZ (fn:=Tryz.f15) [] hQ (show dU _ _ _ [] _ from .nil) h
end cM

