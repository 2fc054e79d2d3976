/- Printed: what each function asks, and that it is sound. -/
import Derived.Test.YtffacgdneichhaaGreatDoorFnsC
set_option linter.unusedSimpArgs false
set_option linter.unusedVariables false
set_option maxRecDepth 100000
set_option maxHeartbeats 1000000
noncomputable section
namespace Go.Proofs.YtffacgdneichhaaGreatDoor
open Go
/-! moraine/trace.Start -/
namespace eX
def K0:=Func.code Tryz.f17
def K2:=cb K0
def K4:=cb K2
def K12:=cb K4
def K13:=ca K12
def K14:=cb K12
def K16:=cb K13
def K17:=ca K16
def K18:=ca K17
def K31:=cb K14
def K33:=cb K31
def K41:=cb K33
def K42:=ca K41
def K43:=cb K41
def K45:=cb K42
def K46:=ca K45
def K47:=ca K46
def K59:=ca K43
def K62:=cb K59
def K63:=ca K62
def K64:=ca K63
def K66:=cb K64
def K68:=cb K66
def K71:=ca K68
def K73:=ca K71
def K75:=cb K73
def K77:=cb K75
end eX
def eX.pt(hv:zW)(g d o:Int)(H:zV)(R:zk):Prop:=
 dM hv (
 R (.tuple #[.pointer none,.int .i64 1]) H) (λj=>
 ∃x:zW,hat H j=some (.pointer x)/\
 dM x (
 R (.tuple #[.pointer none,.int .i64 1]) H) (λxA=>
 if(((((decide (g<0)) || (decide (g>=4))) || (decide (d<g))) || (decide (d>(zY (g+1))))) || (decide (o<0)))=true then(
 R (.tuple #[.pointer none,.int .i64 1]) H)
 else
 ∃(b1:zW->Nat->Nat->zv) (m19:zW->Nat->Nat->Int->zV->Nat),b1 none 0 0 0 H/\ ∀(f:zW) (gensN:Nat) (gensC:Nat) (s54:Int) (H1:zV),b1 f gensN gensC s54 H1->
 if s54< (zY (g+1))then(
 ∀(b:Nat) (H2:zV),b=H1.size->H2=H1.push (.cells #[.int .i64 s54] 3)->
 dw 1 3 8 [.int .i64 0] f gensN gensC (some (ad b)) 1 H2 (λap be H3=>
 (b1 ap (gensN+1) be (zY (s54+1)) H3/\m19 ap (gensN+1) be (zY (s54+1)) H3<m19 f gensN gensC s54 H1)))
 else
 ∃bw:zW,hat H1 j=some (.pointer bw)/\
 ∃b6:Addr,bw=some b6/\
 ∃bs:zW,hat H1 b6=some (.pointer bs)/\
 ∃br:Addr,bs=some br/\
 ∃bd:zW,hat H1 br=some (.pointer bd)/\
 cS.C bd f gensN gensC H1 (λv H4=> ∃(xB:zW) (xN xC:Nat),v=.slice xB xN xC/\
 ∃b4:zW,hat H4 j=some (.pointer b4)/\
 ∃bu:Addr,b4=some bu/\
 ∃b0:zW,hat H4 bu=some (.pointer b0)/\
 ∃bz:Addr,b0=some bz/\
 ∃bp:zW,hat H4 bz=some (.pointer bp)/\
 eE.C bp H4 (λck H5=> ∃a5:Int,ck=.int .i64 a5/\
 if(zY ((zY (a5-(zY (2*(xN:Int)))))-8))<o then(
 R (.tuple #[.pointer none,.int .i64 2]) H5)
 else
 ∀(a6:Nat) (H6:zV),a6=H5.size->H6=H5.push (.map #[] 0)->
 ∀(bg:Nat) (H7:zV),bg=H6.size->H7=H6.push (.map #[] 0)->
 ∀(m:Nat) (H8:zV),m=H7.size->H8=H7.push (.cells ([.pointer (some j),.int .i64 d]++List.replicate 1024 (.int .i64 0)++[.map (some a6),.map (some bg),.slice none 0 0,.int .i64 0]:List Value).toArray 94)->
 ∃(bt:zv) (m48:Int->zV->Nat),bt 0 H8/\ ∀(y:Int) (H9:zV),bt y H9->
 if y< (xN:Int)then(
 ∃aq:Addr,xB=some aq/\
 zw y xN/\
 ∃am:Int,hat H9 (aq.add (Int.toNat y*1))=some (.int .i64 am)/\
 zw am 1024/\
 (aI H9 (((ad m).add 2).add (Int.toNat am*1)) 0 1)/\ ∀bx,bx=aO H9 (((ad m).add 2).add (Int.toNat am*1)) [.int .i64 1] 0->
 (bt (zY (y+1)) bx/\m48 (zY (y+1)) bx<m48 y H9))
 else
 ∃a7:zW,hat H9 j=some (.pointer a7)/\
 ∃a9:Addr,a7=some a9/\
 ∃a8:zW,hat H9 a9=some (.pointer a8)/\
 ∃bj:Addr,a8=some bj/\
 ∃ax:zW,hat H9 bj=some (.pointer ax)/\
 ∀(bo:Nat) (H11:zV),bo=H9.size->H11=H9.push (.cells #[.int .i64 d] 3)->
 cS.C ax (some (ad bo)) 1 1 H11 (λcj ci=> ∃(ao:zW) (l r:Nat),cj=.slice ao l r/\
 ∃(b2:zv) (m65:Int->zV->Nat),b2 0 ci/\ ∀(p:Int) (H13:zV),b2 p H13->
 if p< (l:Int)then(
 ∃s:Addr,ao=some s/\
 zw p l/\
 ∃q:Int,hat H13 (s.add (Int.toNat p*1))=some (.int .i64 q)/\
 ∃bk:zW,hat H13 j=some (.pointer bk)/\
 ∃bn:Addr,bk=some bn/\
 ∃bm:zW,hat H13 bn=some (.pointer bm)/\
 ∃bh:Addr,bm=some bh/\
 ∃az:zW,hat H13 bh=some (.pointer az)/\
 bE.C az q H13 (λch ce=> ∃(an ai a2 ab af ac ae:Int) (rb:Bool),ch=.tuple #[.agg #[.int .i64 an,.int .i64 ai,.int .i64 a2,.int .i64 ab,.int .i64 af,.int .i64 ac,.int .i64 ae],.bool rb]/\
 ∀(aa:Nat) (H15:zV),aa=ce.size->H15=ce.push (.cells #[.int .i64 0,.int .i64 0,.int .i64 0,.int .i64 0,.int .i64 0,.int .i64 0,.int .i64 0] 96)->
 (aI H15 (ad aa) 0 7)/\ ∀ay,ay=aO H15 (ad aa) [.int .i64 an,.int .i64 ai,.int .i64 a2,.int .i64 ab,.int .i64 af,.int .i64 ac,.int .i64 ae] 0->
 ∃ah:Option Nat,hat ay ((ad m).add 1026)=some (.map ah)/\
 ∃aj:Option Nat,hat ay ((ad m).add 1027)=some (.map aj)/\
 ∃ak:Int,hat ay ((ad aa).add 2)=some (.int .i64 ak)/\
 ∃ag:Int,hat ay ((ad aa).add 2)=some (.int .i64 ag)/\
 ∃mr:Nat,ah=some mr/\
 ∃(es:Array MapEntry) (cl:Nat) (ks:List (Int×Value)),ay[mr]?=some (.map es cl)/\Ents (dg .i64) es.toList ks/\Born es cl/\
 ∀(a4:Array MapEntry) (cl_2:Nat) (stamp:Int) (x_21:Value) (H17:zV),H17=bC ay mr (.map a4 cl_2)->Ents (dg .i64) a4.toList (mput ks q x_21)->Born a4 cl_2->iE a4 (.int .i64 q) stamp->
 aU H17 ((ad aa).add 2) 0 [.int .i64 ak]/\aU H17 ((ad aa).add 2) 0 [.int .i64 ag]/\ ∃(bc:Array MapEntry) (cl_3:Nat) (ks_2:List (Int×Value)) (k:Int),H17[mr]?=some (.map bc cl_3)/\Ents (dg .i64) bc.toList ks_2/\Born bc cl_3/\iE bc (.int .i64 k) stamp/\
 ∀(bi:Array MapEntry) (H18:zV),H18=bC H17 mr (.map bi cl_3)->Ents (dg .i64) bi.toList (mput ks_2 k (.int .i64 ak))->Born bi cl_3->
 aU H18 ((ad aa).add 2) 0 [.int .i64 ag]/\ ∃al:Nat,aj=some al/\
 ∃(bq:Array MapEntry) (cl_4:Nat) (ks_3:List (Int×Value)),H18[al]?=some (.map bq cl_4)/\Ents (dg .i64) bq.toList ks_3/\Born bq cl_4/\
 ∀(a3:Array MapEntry) (cl_5:Nat) (stamp_2:Int) (x_22:Value) (H19:zV),H19=bC H18 al (.map a3 cl_5)->Ents (dg .i64) a3.toList (mput ks_3 q x_22)->Born a3 cl_5->iE a3 (.int .i64 q) stamp_2->
 aU H19 ((ad aa).add 2) 0 [.int .i64 ag]/\ ∃(ba:Array MapEntry) (cl_6:Nat) (ks_4:List (Int×Value)) (k_2:Int),H19[al]?=some (.map ba cl_6)/\Ents (dg .i64) ba.toList ks_4/\Born ba cl_6/\iE ba (.int .i64 k_2) stamp_2/\
 ∀(bf:Array MapEntry) (H20:zV),H20=bC H19 al (.map bf cl_6)->Ents (dg .i64) bf.toList (mput ks_4 k_2 (.int .i64 ag))->Born bf cl_6->
 (b2 (zY (p+1)) H20/\m65 (zY (p+1)) H20<m65 p H13)))
 else
 ∃bl:zW,hat H13 j=some (.pointer bl)/\
 ∃bb:Addr,bl=some bb/\
 ∃a1:zW,hat H13 bb=some (.pointer a1)/\
 cV.C a1 f gensN gensC H13 (λ_ cd=>
 ∃a0:zW,hat cd j=some (.pointer a0)/\
 dc.C a0 g cd (λcg b8=> ∃(av:zW) (au aw:Nat),cg=.slice av au aw/\
 (aI b8 ((ad m).add 1028) 0 1)/\ ∀cc,cc=aO b8 ((ad m).add 1028) [.slice av au aw] 0->
 R (.tuple #[.pointer (some (ad m)),.int .i64 0]) cc)))))))
namespace eX
theorem link{hv:zW}{g d o:Int}{H:zV}{R:zk}(h:pt hv g d o H R):C hv g d o H R:=by
 refine T_en K0 181 Tryz.func17 ?_
 intro w0 Q hQ
 unfold pt zY at h
 refine T_su [(0,vp hv),(1,vi g),(2,vi d),(3,vi o)]<| ar 0<| T_ed 2 [] []<| T_sz<| ar 1<| T_nd 1 [] [(20,vp hv)] ?_
 rcases hv with _ | j
 ·rw[onPtr_none]at h
  exact T_ed 31 [0,20] [(0,vp none),(51,.bool true)]<| T_tz 51<| ar 2<| T_nr 2 [8,9] [vp none,vi 1] hQ h
 rw[onPtr_some]at h
 refine T_nd 5 [0,20] [(0,vp (some j)),(22,.bool false),(25,vp (some j))] ?_
 obtain⟨x,q1,h⟩:=h
 refine T_l1 26 44 q1 [25] ?_
 rcases x with _ | xA
 ·rw[onPtr_none]at h
  exact T_ed 25 [22,26] [(51,.bool true)]<| T_tz 51<| ar 2<| T_nr 2 [8,9] [vp none,vi 1] hQ h
 rw[onPtr_some]at h
 refine T_nd 7 [22,26] [(33,.bool (decide (g<0)))] ?_
 refine eQ [(0,vp (some j)),(1,vi g),(2,vi d),(3,vi o),(51,.bool (((((decide (g<0)) || (decide (g>=4))) || (decide (d<g))) || (decide (d>(zY (g+1))))) || (decide (o<0))))] ?_ ?_
 ·refine aC ?_
  by_cases c10:(((((decide (g<0)) || (decide (g>=4))) || (decide (d<g))) || (decide (d>(zY (g+1))))) || (decide (o<0)))=true
  ·rw[if_pos c10]at h
   exact aF 51 c10<| ar 2<| T_nr 2 [8,9] [vp none,vi 1] hQ h
  rw[if_neg c10]at h
  refine aE 51 (zZ c10)<| T_kt<| ar 3<| T_ne 1 [(0,vp (some j)),(1,vi g),(2,vi d),(3,vi o),(10,vs none 0 0)]<| T_sz<| ar 4<| T_ed 3 [] [(53,vi (zY (g+1))),(54,vi 0)]<| T_bz 0 ?_
  obtain⟨b1,m19,i12,i13⟩:=h
  refine bO (x:=K18) (σ:=zW×Nat×Nat×Int) (λs_=> [(0,vp (some j)),(1,vi g),(2,vi d),(3,vi o),(10,vs s_.1 s_.2.1 s_.2.2.1),(53,vi (zY (g+1))),(54,vi s_.2.2.2)]) (λs_ H=>b1 s_.1 s_.2.1 s_.2.2.1 s_.2.2.2 H) (λs_ H=>m19 s_.1 s_.2.1 s_.2.2.1 s_.2.2.2 H) ((none,0,0,0):zW×Nat×Nat×Int) (by kernel_rfl) i12 sk ?_
  rintro⟨f,gensN,gensC,s54⟩ H1 i14
  have h:=i13 f gensN gensC s54 H1 i14
  refine T_su [(0,vp (some j)),(1,vi g),(2,vi d),(3,vi o),(10,vs f gensN gensC),(53,vi (zY (g+1))),(54,vi s54)]<| ar 5<| T_ed 1 [] [(55,.bool (decide (s54< (zY (g+1)))))]<| T_sz ?_
  by_cases c15:s54< (zY (g+1))
  ·rw[if_pos c15]at h
   refine aF 55 (zX c15)<| T_kt<| T_sz<| T_bz 1<| ar 6<| T_ed 2 [55] [(11,vi s54)]<| T_rz 7<| T_nd 2 [10,11] [(57,vs f gensN gensC),(58,vi s54)]<| T_nw (some 59) (λb=>vs (pa b) 1 1) (.cells #[vi s54] 3) ?_
   intro b H2 e17 e18
   replace h:=h b H2 e17 e18
   refine T_pd [58] [(59,vs (pa b) 1 1)]<| N_op (some 60) (dJ #[79,79] 79 #[vs f gensN gensC,vs (pa b) 1 1]) _ (λ_=>by kernel_rfl) (di (T:=3) (sz:=1) (bytes:=8) (zero:=(vi 0:Value)) Tryz.underlying79 Tryz.underlying79 rfl (show Tryz.prog.info? 3=some Tryz.t3 from by kernel_rfl) (by kernel_rfl) (by kernel_rfl) (by decide) (by kernel_rfl) (by first | exact h | (simpa only[Value.cells,List.toList_toArray]using h))) ?_;clear h
   rintro _ H3 ⟨ap,be,rfl,h⟩
   exact T_pd [57,59] [(60,vs ap (gensN+1) be)]<| T_nd 1 [60] [(10,vs ap (gensN+1) be)]<| zq<| aB<| aC<| T_rz 8<| T_ed 2 [54] [(54,vi (zY (s54+1)))]<| aK ((ap,(gensN+1),be,(zY (s54+1))):zW×Nat×Nat×Int) sk h
  rw[if_neg c15]at h
  refine aE 55 (zQ c15)<| zj 0<| aA<| aA<| aH<| aC<| ar 9<| T_nd 3 [53,54,55] [(64,vp (some j))] ?_
  obtain⟨bw,q19,h⟩:=h
  refine T_l1 65 44 q19 [64] ?_
  obtain⟨b6,rfl,h⟩:=h
  refine T_nd 2 [65] [(67,vp (some b6))] ?_
  obtain⟨bs,q20,h⟩:=h
  refine T_l1 68 81 q20 [67] ?_
  obtain⟨br,rfl,h⟩:=h
  refine T_nd 2 [68] [(70,vp (some br))] ?_
  obtain⟨bd,q21,h⟩:=h
  refine T_l1 71 84 q21 [70]<| T_nd 1 [] [(72,vs f gensN gensC)]<| T_c (some 73) h ?_;clear h
  rintro v H4 ⟨xB,xN,xC,rfl,h⟩
  refine T_pd [71,72] [(73,vs xB xN xC)]<| T_ed 1 [73] [(12,vs xB xN xC)]<| T_sz<| ar 10<| T_nd 3 [] [(76,vp (some j))] ?_
  obtain⟨b4,q22,h⟩:=h
  refine T_l1 77 44 q22 [76] ?_
  obtain⟨bu,rfl,h⟩:=h
  refine T_nd 2 [77] [(79,vp (some bu))] ?_
  obtain⟨b0,q23,h⟩:=h
  refine T_l1 80 81 q23 [79] ?_
  obtain⟨bz,rfl,h⟩:=h
  refine T_nd 2 [80] [(82,vp (some bz))] ?_
  obtain⟨bp,q24,h⟩:=h
  refine T_l1 83 84 q24 [82]<| T_c (some 84) h ?_;clear h
  rintro ck H5 ⟨a5,rfl,h⟩
  refine T_pd [83] [(84,vi a5)]<| T_ed 7 [3,84] [(91,.bool (decide ((zY ((zY (a5-(zY (2*(xN:Int)))))-8))<o)))] ?_
  by_cases c25:(zY ((zY (a5-(zY (2*(xN:Int)))))-8))<o
  ·rw[if_pos c25]at h
   exact aF 91 (zX c25)<| ar 11<| T_nr 2 [8,9] [vp none,vi 2] hQ h
  rw[if_neg c25]at h
  refine aE 91 (zQ c25)<| T_kt<| ar 12<| T_nd 2 [91] [(92,vp (some j)),(93,vi d)]<| T_nw (some 94) (λb=> .map (some b)) (.map #[] 0) ?_
  intro a6 H6 e27 e28
  replace h:=h a6 H6 e27 e28
  refine T_pd [] [(94,.map (some a6))]<| T_nw (some 95) (λb=> .map (some b)) (.map #[] 0) ?_
  intro bg H7 e29 e30
  replace h:=h bg H7 e29 e30
  refine T_pd [] [(95,.map (some bg))]<| T_nd 1 [92,93,94,95] [(96,.agg ([vp (some j),vi d]++List.replicate 1024 (vi 0)++[.map (some a6),.map (some bg),vs none 0 0,vi 0]:List Value).toArray)]<| T_nw (some 97) (λb=>vp (pa b)) (.cells ([vp (some j),vi d]++List.replicate 1024 (vi 0)++[.map (some a6),.map (some bg),vs none 0 0,vi 0]:List Value).toArray 94) ?_
  intro m H8 e31 e32
  replace h:=h m H8 e31 e32
  refine T_pd [96] [(97,vp (pa m))]<| T_ed 1 [97] [(13,vp (pa m))]<| T_sz<| ar 13<| T_ed 3 [12] [(98,vs xB xN xC),(99,vi xN),(100,vi 0)]<| T_bz 2 ?_
  obtain⟨bt,m48,i33,i34⟩:=h
  refine bO (x:=K47) (σ:=Int) (λs_=> [(0,vp (some j)),(1,vi g),(2,vi d),(10,vs f gensN gensC),(13,vp (pa m)),(98,vs xB xN xC),(99,vi xN),(100,vi s_)]) (λs_ H=>bt s_ H) (λs_ H=>m48 s_ H) (0:Int) (by kernel_rfl) i33 sk ?_
  rintro y H9 i35
  have h:=i34 y H9 i35
  refine T_su [(0,vp (some j)),(1,vi g),(2,vi d),(10,vs f gensN gensC),(13,vp (pa m)),(98,vs xB xN xC),(99,vi xN),(100,vi y)]<| ar 14<| T_ed 1 [] [(101,.bool (decide (y< (xN:Int))))]<| T_sz ?_
  by_cases c36:y< (xN:Int)
  ·rw[if_pos c36]at h
   refine aF 101 (zX c36)<| T_kt<| T_sz<| T_bz 3<| ar 15<| T_ud [101] [] ?_
   obtain⟨aq,rfl,q38,h⟩:=h
   refine T_xd (some 102) 79 3 1 aq xN xC .i64 y Tryz.underlying79 q38.1 q38.2 [98] [(98,vs (some aq) xN xC),(102,vp (some (aq.add (Int.toNat y*1))))] ?_
   obtain⟨am,q39,h⟩:=h
   refine T_l1 103 3 q39 [102]<| T_ed 1 [103] [(15,vi am)]<| T_rz 16<| T_nd 4 [15] [(105,vi am),(107,vp (some ((ad m).add 2)))] ?_
   obtain⟨q40,h⟩:=h
   refine T_v1 108 (aR 91 (vp (some ((ad m).add 2))) (vi am)) (vp (some (((ad m).add 2).add (Int.toNat am*1)))) (λw _=>aN (P:=Tryz.prog) (t:=91) (elem:=3) (sz:=1) (n:=1024) (a:=((ad m).add 2)) (k:=.i64) (i:=am) Tryz.underlying91 (λ_=>by kernel_rfl) q40.1 q40.2 w) [105,107] ?_
   obtain⟨q42,h⟩:=h
   refine eq 3 (vi 1) q42 ?_
   intro bx e41
   replace h:=h bx e41
   exact T_pd [108] []<| zq<| aB<| aC<| T_rz 17<| T_ed 2 [100] [(100,vi (zY (y+1)))]<| aK ((zY (y+1)):Int) sk h
  rw[if_neg c36]at h
  refine aE 101 (zQ c36)<| zj 2<| aA<| aA<| aH<| aC<| T_sz<| ar 18<| T_nd 3 [98,99,100,101] [(112,vp (some j))] ?_
  obtain⟨a7,q43,h⟩:=h
  refine T_l1 113 44 q43 [112] ?_
  obtain⟨a9,rfl,h⟩:=h
  refine T_nd 2 [113] [(115,vp (some a9))] ?_
  obtain⟨a8,q44,h⟩:=h
  refine T_l1 116 81 q44 [115] ?_
  obtain⟨bj,rfl,h⟩:=h
  refine T_nd 2 [116] [(118,vp (some bj))] ?_
  obtain⟨ax,q45,h⟩:=h
  refine T_l1 119 84 q45 [118]<| T_nd 1 [2] [(120,vi d)]<| T_nw (some 121) (λb=>vs (pa b) 1 1) (.cells #[vi d] 3) ?_
  intro bo H11 e46 e47
  replace h:=h bo H11 e46 e47
  refine T_pd [120] [(121,vs (pa bo) 1 1)]<| T_c (some 122) h ?_;clear h
  rintro cj ci ⟨ao,l,r,rfl,h⟩
  refine T_pd [119,121] [(122,vs ao l r)]<| T_ed 2 [] [(123,vi l),(124,vi 0)]<| T_bz 4 ?_
  obtain⟨b2,m65,i48,i49⟩:=h
  refine bO (x:=K64) (σ:=Int) (λs_=> [(0,vp (some j)),(1,vi g),(10,vs f gensN gensC),(13,vp (pa m)),(122,vs ao l r),(123,vi l),(124,vi s_)]) (λs_ H=>b2 s_ H) (λs_ H=>m65 s_ H) (0:Int) (by kernel_rfl) i48 sk ?_
  rintro p H13 i50
  have h:=i49 p H13 i50
  refine T_su [(0,vp (some j)),(1,vi g),(10,vs f gensN gensC),(13,vp (pa m)),(122,vs ao l r),(123,vi l),(124,vi p)]<| ar 19<| T_ed 1 [] [(125,.bool (decide (p< (l:Int))))]<| T_sz ?_
  by_cases c51:p< (l:Int)
  ·rw[if_pos c51]at h
   refine aF 125 (zX c51)<| T_kt<| T_sz<| T_bz 5<| ar 20<| T_ud [125] [] ?_
   obtain⟨s,rfl,q53,h⟩:=h
   refine T_xd (some 126) 79 3 1 s l r .i64 p Tryz.underlying79 q53.1 q53.2 [122] [(122,vs (some s) l r),(126,vp (some (s.add (Int.toNat p*1))))] ?_
   obtain⟨q,q54,h⟩:=h
   refine T_l1 127 3 q54 [126]<| T_ed 1 [127] [(17,vi q)]<| ar 21<| T_nd 3 [] [(131,vp (some j))] ?_
   obtain⟨bk,q55,h⟩:=h
   refine T_l1 132 44 q55 [131] ?_
   obtain⟨bn,rfl,h⟩:=h
   refine T_nd 2 [132] [(134,vp (some bn))] ?_
   obtain⟨bm,q56,h⟩:=h
   refine T_l1 135 81 q56 [134] ?_
   obtain⟨bh,rfl,h⟩:=h
   refine T_nd 2 [135] [(137,vp (some bh))] ?_
   obtain⟨az,q57,h⟩:=h
   refine T_l1 138 84 q57 [137]<| T_nd 1 [] [(139,vi q)]<| T_c (some 140) h ?_;clear h
   rintro ch ce ⟨an,ai,a2,ab,af,ac,ae,rb,rfl,h⟩
   refine T_pd [138,139] [(140,.tuple #[.agg #[vi an,vi ai,vi a2,vi ab,vi af,vi ac,vi ae],.bool rb])]<| T_nd 3 [140] [(141,.agg #[vi an,vi ai,vi a2,vi ab,vi af,vi ac,vi ae]),(142,.bool rb)]<| T_nw (some 18) (λb=>vp (pa b)) (.cells #[vi 0,vi 0,vi 0,vi 0,vi 0,vi 0,vi 0] 96) ?_
   intro aa H15 e58 e59
   replace h:=h aa H15 e58 e59
   refine T_pd [] [(18,vp (pa aa))] ?_
   obtain⟨q61,h⟩:=h
   refine fH 96 [vi an,vi ai,vi a2,vi ab,vi af,vi ac,vi ae] q61 ?_
   intro ay e60
   replace h:=h ay e60
   refine T_pd [141] []<| T_ed 1 [142] [] ?_
   obtain⟨ah,q62,aj,q63,ak,q64,ag,q65,h⟩:=h
   refine yY 22 (Code.ops K77) [(14,((ad m).add 1026),[.map ah]),(14,((ad m).add 1027),[.map aj]),(16,((ad aa).add 2),[vi ak]),(19,((ad aa).add 2),[vi ag])] 20 (bv 20 0) (show aG _ _ _ from⟨⟨q62,trivial⟩,⟨q63,trivial⟩,⟨q64,trivial⟩,⟨q65,trivial⟩,trivial⟩)<| T_gp 0 (some 143) (vp (pa m)) (bv 20 1) [(0,vp (some j)),(1,vi g),(10,vs f gensN gensC),(13,vp (pa m)),(17,vi q),(18,vp (pa aa)),(122,vs (some s) l r),(123,vi l),(124,vi p),(143,vp (pa m))]<| aD 1 144 (vp (pa m)) (bv 20 3) [143]<| aD 2 145 (vp (some ((ad m).add 1026))) (bv 20 7) [144]<| T_g1 3 146 (.map ah) (bv 20 15) [145] (aS 90 (vp (some ((ad m).add 1026)))) (yW 14 yZ)<| aD 4 147 (vi q) (bv 20 31) []<| aD 5 148 (vp (pa m)) (bv 20 63) []<| aD 6 149 (vp (pa m)) (bv 20 127) [148]<| aD 7 150 (vp (some ((ad m).add 1027))) (bv 20 255) [149]<| T_g1 8 151 (.map aj) (bv 20 511) [150] (aS 90 (vp (some ((ad m).add 1027)))) (yW 14 yX)<| aD 9 152 (vi q) (bv 20 1023) [17]<| aD 10 153 (vp (some ((ad aa).add 2))) (bv 20 2047) []<| T_g1 11 154 (vi ak) (bv 20 4095) [153] (aS 3 (vp (some ((ad aa).add 2)))) (yW 16 yQ)<| aD 12 155 (vp (some ((ad aa).add 2))) (bv 20 8191) [18]<| T_g1 13 156 (vi ag) (bv 20 16383) [155] (aS 3 (vp (some ((ad aa).add 2)))) (yW 19 yJ) ?_
   obtain⟨mr,rfl,es,cl,ks,q68,q69,q73,h⟩:=h
   refine nj 14 (some 157) (bv 20 32767) (j5 90 (.map (some mr)) (vi q)) (λu Hz=> ∃es2 cl2 sp v0,Hz=bC ay mr (.map es2 cl2)/\Ents (dg .i64) es2.toList (mput ks q v0)/\Born es2 cl2/\iE es2 (vi q) sp/\u=.tuple #[v0,vi sp]) (by kernel_rfl) (λ_=>by kernel_rfl) (lz (kk:=(dg .i64)) (z:=vi 0) Tryz.underlying90 Tryz.underlying3 (λ_=>by kernel_rfl) q68 q69 q73) (by kernel_rfl) ?_
   rintro _ H17 ⟨a4,cl_2,stamp,x_21,e71,e72,e74,e75,rfl⟩
   replace h:=h a4 cl_2 stamp x_21 H17 e71 e72 e74 e75
   obtain⟨f66,f67,h⟩:=h
   refine⟨[(0,vp (some j)),(1,vi g),(10,vs f gensN gensC),(13,vp (pa m)),(122,vs (some s) l r),(123,vi l),(124,vi p),(146,.map (some mr)),(151,.map aj),(152,vi q),(154,vi ak),(156,vi ag),(157,.tuple #[x_21,vi stamp])],pk,(show aG _ _ _ from⟨trivial,trivial,f66,f67,trivial⟩),?_⟩
   refine T_g 15 (some 158) (vi stamp) (bv 20 65535) [(0,vp (some j)),(1,vi g),(10,vs f gensN gensC),(13,vp (pa m)),(122,vs (some s) l r),(123,vi l),(124,vi p),(146,.map (some mr)),(151,.map aj),(152,vi q),(154,vi ak),(156,vi ag),(158,vi stamp)] (pure (.value (vi stamp)):Sem Next) (λ_ _ _ _ _=>rfl) ?_
   obtain⟨bc,cl_3,ks_2,k,q77,q78,q79,q80,h⟩:=h
   refine fg 16 none (bv 20 131071) (lh 90 (.map (some mr)) (vi stamp) (vi ak)) (λHz=> ∃es2,Hz=bC H17 mr (.map es2 cl_3)/\Ents (dg .i64) es2.toList (mput ks_2 k (vi ak))/\Born es2 cl_3) (by kernel_rfl) (λ_=>by kernel_rfl) (lA (kk:=(dg .i64)) q77 q78 q79 q80) (by kernel_rfl) ?_
   rintro H18 ⟨bi,e81,e82,e83⟩
   replace h:=h bi H18 e81 e82 e83
   obtain⟨f76,h⟩:=h
   refine⟨[(0,vp (some j)),(1,vi g),(10,vs f gensN gensC),(13,vp (pa m)),(122,vs (some s) l r),(123,vi l),(124,vi p),(151,.map aj),(152,vi q),(156,vi ag)],pk,(show aG _ _ _ from⟨trivial,trivial,trivial,f76,trivial⟩),?_⟩
   obtain⟨al,rfl,bq,cl_4,ks_3,q85,q86,q90,h⟩:=h
   refine nj 17 (some 159) (bv 20 262143) (j5 90 (.map (some al)) (vi q)) (λu Hz=> ∃es2 cl2 sp v0,Hz=bC H18 al (.map es2 cl2)/\Ents (dg .i64) es2.toList (mput ks_3 q v0)/\Born es2 cl2/\iE es2 (vi q) sp/\u=.tuple #[v0,vi sp]) (by kernel_rfl) (λ_=>by kernel_rfl) (lz (kk:=(dg .i64)) (z:=vi 0) Tryz.underlying90 Tryz.underlying3 (λ_=>by kernel_rfl) q85 q86 q90) (by kernel_rfl) ?_
   rintro _ H19 ⟨a3,cl_5,stamp_2,x_22,e88,e89,e91,e92,rfl⟩
   replace h:=h a3 cl_5 stamp_2 x_22 H19 e88 e89 e91 e92
   obtain⟨f84,h⟩:=h
   refine⟨[(0,vp (some j)),(1,vi g),(10,vs f gensN gensC),(13,vp (pa m)),(122,vs (some s) l r),(123,vi l),(124,vi p),(151,.map (some al)),(156,vi ag),(159,.tuple #[x_22,vi stamp_2])],pk,(show aG _ _ _ from⟨trivial,trivial,trivial,f84,trivial⟩),?_⟩
   refine T_g 18 (some 160) (vi stamp_2) (bv 20 524287) [(0,vp (some j)),(1,vi g),(10,vs f gensN gensC),(13,vp (pa m)),(122,vs (some s) l r),(123,vi l),(124,vi p),(151,.map (some al)),(156,vi ag),(160,vi stamp_2)] (pure (.value (vi stamp_2)):Sem Next) (λ_ _ _ _ _=>rfl) ?_
   obtain⟨ba,cl_6,ks_4,k_2,q93,q94,q95,q96,h⟩:=h
   refine fg 19 none (bv 20 1048575) (lh 90 (.map (some al)) (vi stamp_2) (vi ag)) (λHz=> ∃es2,Hz=bC H19 al (.map es2 cl_6)/\Ents (dg .i64) es2.toList (mput ks_4 k_2 (vi ag))/\Born es2 cl_6) (by kernel_rfl) (λ_=>by kernel_rfl) (lA (kk:=(dg .i64)) q93 q94 q95 q96) (by kernel_rfl) ?_
   rintro H20 ⟨bf,e97,e98,e99⟩
   replace h:=h bf H20 e97 e98 e99
   refine⟨[(0,vp (some j)),(1,vi g),(10,vs f gensN gensC),(13,vp (pa m)),(122,vs (some s) l r),(123,vi l),(124,vi p)],pk,(show aG _ _ _ from⟨trivial,trivial,trivial,trivial,trivial⟩),?_⟩
   refine eR [(0,vp (some j)),(1,vi g),(10,vs f gensN gensC),(13,vp (pa m)),(122,vs (some s) l r),(123,vi l),(124,vi p)] sk ?_
   exact yx<| aB<| aC<| T_rz 23<| T_ne 2 [(0,vp (some j)),(1,vi g),(10,vs f gensN gensC),(13,vp (pa m)),(122,vs (some s) l r),(123,vi l),(124,vi (zY (p+1)))]<| aK ((zY (p+1)):Int) sk h
  rw[if_neg c51]at h
  refine aE 125 (zQ c51)<| zj 4<| aA<| aA<| aH<| aC<| ar 24<| T_nd 3 [122,123,124,125] [(164,vp (some j))] ?_
  obtain⟨bl,q100,h⟩:=h
  refine T_l1 165 44 q100 [164] ?_
  obtain⟨bb,rfl,h⟩:=h
  refine T_nd 2 [165] [(167,vp (some bb))] ?_
  obtain⟨a1,q101,h⟩:=h
  refine T_l1 168 81 q101 [167]<| T_nd 1 [10] [(169,vs f gensN gensC)]<| T_c (some 170) h ?_;clear h
  intro v_5 cd h
  refine T_pd [168,169] []<| T_e<| ar 25<| T_nd 4 [0] [(171,vp (pa m)),(174,vp (some j))] ?_
  obtain⟨a0,q102,h⟩:=h
  refine T_l1 175 44 q102 [174]<| T_nd 1 [1] [(176,vi g)]<| T_c (some 177) h ?_;clear h
  rintro cg b8 ⟨av,au,aw,rfl,h⟩
  refine T_pd [175,176] [(177,vs av au aw)]<| T_nd 2 [171] [(179,vp (some ((ad m).add 1028)))] ?_
  obtain⟨q104,h⟩:=h
  refine eq 92 (vs av au aw) q104 ?_
  intro cc e103
  replace h:=h cc e103
  exact T_pd [177,179] []<| T_e<| ar 26<| T_nr 3 [8,9] [vp (pa m),vi 0] hQ h
 intro hk
 refine T_nu [(0,vp (some j)),(1,vi g),(2,vi d),(3,vi o),(33,.bool (decide (g<0)))] ?_
 by_cases c2:g<0
 ·have b3:(decide (g<0))=true:=zX c2
  refine bJ [(0,vp (some j)),(1,vi g),(2,vi d),(3,vi o),(33,.bool true)] (by rw[b3]) ?_
  refine T_nd 18 [33] [(51,.bool true)]<| zq<| S_bd 51 (b:=true) (v:=(((((decide (g<0)) || (decide (g>=4))) || (decide (d<g))) || (decide (d>(zY (g+1))))) || (decide (o<0)))) (by simp only[b3,BL]) ?_
  exact hk
 have b3:(decide (g<0))=false:=zQ c2
 refine bJ [(0,vp (some j)),(1,vi g),(2,vi d),(3,vi o),(33,.bool false)] (by rw[b3]) ?_
 refine T_nd 4 [33] [(37,.bool (decide (g>=4)))] ?_
 by_cases c4:g>=4
 ·have b5:(decide (g>=4))=true:=zX c4
  refine N_bd 37 b5<| T_nd 14 [37] [(51,.bool true)] ?_
  refine zq<| S_bd 51 (b:=true) (v:=(((((decide (g<0)) || (decide (g>=4))) || (decide (d<g))) || (decide (d>(zY (g+1))))) || (decide (o<0)))) (by simp only[b3,b5,BL]) ?_
  exact hk
 have b5:(decide (g>=4))=false:=zQ c4
 refine N_bd 37 b5<| T_nd 5 [37] [(42,.bool (decide (d<g)))] ?_
 by_cases c6:d<g
 ·have b7:(decide (d<g))=true:=zX c6
  refine N_bd 42 b7<| T_nd 9 [42] [(51,.bool true)] ?_
  refine zq<| S_bd 51 (b:=true) (v:=(((((decide (g<0)) || (decide (g>=4))) || (decide (d<g))) || (decide (d>(zY (g+1))))) || (decide (o<0)))) (by simp only[b3,b5,b7,BL]) ?_
  exact hk
 have b7:(decide (d<g))=false:=zQ c6
 refine N_bd 42 b7<| T_nd 6 [42] [(48,.bool (decide (d>(zY (g+1)))))] ?_
 by_cases c8:d>(zY (g+1))
 ·have b9:(decide (d>(zY (g+1))))=true:=zX c8
  refine N_bd 48 b9<| T_nd 3 [48] [(51,.bool true)] ?_
  refine zq<| S_bd 51 (b:=true) (v:=(((((decide (g<0)) || (decide (g>=4))) || (decide (d<g))) || (decide (d>(zY (g+1))))) || (decide (o<0)))) (by simp only[b3,b5,b7,b9,BL]) ?_
  exact hk
 have b9:(decide (d>(zY (g+1))))=false:=zQ c8
 refine N_bd 48 b9<| T_nd 3 [48] [(51,.bool (decide (o<0)))] ?_
 refine zq<| S_bd 51 (b:=(decide (o<0))) (v:=(((((decide (g<0)) || (decide (g>=4))) || (decide (d<g))) || (decide (d>(zY (g+1))))) || (decide (o<0)))) (by simp only[b3,b5,b7,b9,BL]) ?_
 exact hk
end eX

/-! (*moraine/trace.Trace).End -/
namespace cL
def K0:=Func.code Tryz.f19
def K2:=cb K0
def K7:=ca K2
def K8:=cb K2
def K10:=cb K7
def K11:=ca K10
def K12:=ca K11
def K28:=ca K8
def K31:=cb K28
def K32:=ca K31
def K33:=ca K32
def K35:=cb K33
def K37:=cb K35
def K40:=ca K37
def K42:=ca K40
def K44:=cb K42
end cL
def cL.pt(tv:zW)(H:zV)(R:zk):Prop:=
 bK.C tv H (λv H1=> ∃x:Bool,v=.bool x/\
 if x=true then(
 R (.tuple #[]) H1)
 else
 ∃d:Addr,tv=some d/\
 ∃j:List Value,j.length=1024/\aU H1 (d.add 2) 0 j/\
 ∃(af:zv) (m13:Int->zV->Nat),af 0 H1/\ ∀(f:Int) (H2:zV),af f H2->
 if f<1024 then(
 ∃s:Int,((0<=f/\f< (1024:Int))/\((j:List Value).toArray)[Int.toNat f]?=some (.int .i64 s))/\
 if s=1 then(
 ∃aa:zW,hat H2 d=some (.pointer aa)/\
 ∃ac:Addr,aa=some ac/\
 ∃ae:zW,hat H2 ac=some (.pointer ae)/\
 ∃ab:Addr,ae=some ab/\
 ∃z:zW,hat H2 ab=some (.pointer z)/\
 dd.C z f H2 (λal H3=> ∃aj:Int,al=.int .i64 aj/\
 (af (zY (f+1)) H3/\m13 (zY (f+1)) H3<m13 f H2)))
 else
 (af (zY (f+1)) H2/\m13 (zY (f+1)) H2<m13 f H2))
 else
 ∃(xB:zW) (xN xC:Nat),hat H2 (d.add 1028)=some (.slice xB xN xC)/\
 ∃(ag:zv) (m34:Int->zV->Nat),ag 0 H2/\ ∀(g:Int) (H4:zV),ag g H4->
 if g< (xN:Int)then(
 ∃l:Addr,xB=some l/\
 zw g xN/\
 ∃q m:Int,aU H4 (l.add (Int.toNat g*2)) 0 [.int .i64 q,.int .i64 m]/\
 ∀(b:Nat) (H5:zV),b=H4.size->H5=H4.push (.cells #[.int .i64 0,.int .i64 0] 103)->
 (aI H5 (ad b) 0 2)/\ ∀H6,H6=aO H5 (ad b) [.int .i64 q,.int .i64 m] 0->
 ∃ai:zW,hat H6 d=some (.pointer ai)/\
 ∃o:Addr,ai=some o/\
 ∃r:zW,hat H6 o=some (.pointer r)/\
 ∃p:Int,hat H6 (ad b)=some (.int .i64 p)/\
 ∃u:Int,hat H6 ((ad b).add 1)=some (.int .i64 u)/\
 de.C r p u H6 (λak H7=> ∃ah:Int,ak=.int .i64 ah/\
 (ag (zY (g+1)) H7/\m34 (zY (g+1)) H7<m34 g H4)))
 else
 ∃y:zW,hat H4 d=some (.pointer y)/\
 dR.C y H4 (λ_ H8=>
 (aI H8 (d.add 1029) 0 1)/\ ∀H9,H9=aO H8 (d.add 1029) [.int .i64 1] 0->
 R (.tuple #[]) H9))
namespace cL
theorem link{tv:zW}{H:zV}{R:zk}(h:pt tv H R):C tv H R:=by
 refine T_en K0 61 Tryz.func19 ?_
 intro w0 Q hQ
 unfold pt zY at h
 refine T_su [(0,vp tv)]<| T_sz<| ar 0<| T_nd 1 [] [(6,vp tv)]<| T_c (some 7) h ?_;clear h
 rintro v H1 ⟨x,rfl,h⟩
 refine T_pd [6] [(7,.bool x)]<| T_e ?_
 by_cases c1:x=true
 ·rw[if_pos c1]at h
  exact aF 7 c1<| fF [] [] hQ h
 rw[if_neg c1]at h
 refine aE 7 (zZ c1)<| T_kt<| T_sz<| ar 1<| T_nd 1 [7] [(8,vp tv)] ?_
 obtain⟨d,rfl,h⟩:=h
 refine T_n 2 [(0,vp (some d)),(10,vp (some (d.add 2)))] ?_
 obtain⟨j,l4,q3,h⟩:=h
 refine T_v1 11 (aS 91 (vp (some (d.add 2)))) (.agg (j).toArray) (fM (gR (λ_=>by kernel_rfl) (λw=>by rw[l4];kernel_rfl) q3)) [10]<| T_ed 1 [] [(12,vi 0)]<| T_bz 0 ?_
 obtain⟨af,m13,i5,i6⟩:=h
 refine bO (x:=K12) (σ:=Int) (λs_=> [(0,vp (some d)),(11,.agg (j).toArray),(12,vi s_)]) (λs_ H=>af s_ H) (λs_ H=>m13 s_ H) (0:Int) (by kernel_rfl) i5 sk ?_
 rintro f H2 i7
 have h:=i6 f H2 i7
 refine T_su [(0,vp (some d)),(11,.agg (j).toArray),(12,vi f)]<| ar 2<| T_ed 1 [] [(13,.bool (decide (f<1024)))]<| T_sz ?_
 by_cases c8:f<1024
 ·rw[if_pos c8]at h
  refine aF 13 (zX c8)<| T_kt<| T_sz<| T_bz 1<| ar 3<| T_nd 1 [13] [(14,vi f)] ?_
  obtain⟨s,q10,h⟩:=h
  refine T_v1 15 (dj 91 (.agg (j).toArray) (vi f)) (vi s) (λw _=>ig (P:=Tryz.prog) (t:=91) (elem:=3) (n:=1024) Tryz.underlying91 (λ_=>by kernel_rfl) (λ_=>by kernel_rfl) q10.1.1 q10.1.2 q10.2 w) []<| T_ed 2 [14,15] [(2,vi f),(3,vi s)]<| ar 4<| T_ed 2 [3] [(17,.bool (s==1))] ?_
  by_cases c11:s=1
  ·rw[if_pos c11]at h
   refine aF 17 (zK c11)<| T_rz 5<| T_nd 3 [17] [(20,vp (some d))] ?_
   obtain⟨aa,q13,h⟩:=h
   refine T_l1 21 34 q13 [20] ?_
   obtain⟨ac,rfl,h⟩:=h
   refine T_nd 2 [21] [(23,vp (some ac))] ?_
   obtain⟨ae,q14,h⟩:=h
   refine T_l1 24 44 q14 [23] ?_
   obtain⟨ab,rfl,h⟩:=h
   refine T_nd 2 [24] [(26,vp (some ab))] ?_
   obtain⟨z,q15,h⟩:=h
   refine T_l1 27 81 q15 [26]<| T_nd 1 [2] [(28,vi f)]<| T_c (some 29) h ?_;clear h
   rintro al H3 ⟨aj,rfl,h⟩
   exact T_pd [27,28] []<| zq<| aB<| aC<| T_rz 6<| T_ed 2 [12] [(12,vi (zY (f+1)))]<| aK ((zY (f+1)):Int) sk h
  rw[if_neg c11]at h
  exact aE 17 (zJ c11)<| T_k<| aB<| aC<| T_rz 6<| T_ed 2 [2,12,17] [(12,vi (zY (f+1)))]<| aK ((zY (f+1)):Int) sk h
 rw[if_neg c8]at h
 refine aE 13 (zQ c8)<| zj 0<| aA<| aA<| aH<| aC<| T_sz<| ar 7<| T_nd 3 [11,12,13] [(33,vp (some (d.add 1028)))] ?_
 obtain⟨xB,xN,xC,q16,h⟩:=h
 refine T_l1 34 92 q16 [33]<| T_ed 2 [] [(35,vi xN),(36,vi 0)]<| T_bz 2 ?_
 obtain⟨ag,m34,i17,i18⟩:=h
 refine bO (x:=K33) (σ:=Int) (λs_=> [(0,vp (some d)),(34,vs xB xN xC),(35,vi xN),(36,vi s_)]) (λs_ H=>ag s_ H) (λs_ H=>m34 s_ H) (0:Int) (by kernel_rfl) i17 sk ?_
 rintro g H4 i19
 have h:=i18 g H4 i19
 refine T_su [(0,vp (some d)),(34,vs xB xN xC),(35,vi xN),(36,vi g)]<| ar 8<| T_ed 1 [] [(37,.bool (decide (g< (xN:Int))))]<| T_sz ?_
 by_cases c20:g< (xN:Int)
 ·rw[if_pos c20]at h
  refine aF 37 (zX c20)<| T_kt<| T_sz<| T_bz 3<| ar 9<| T_ud [37] [] ?_
  obtain⟨l,rfl,q22,h⟩:=h
  refine T_xd (some 38) 92 103 2 l xN xC .i64 g Tryz.underlying92 q22.1 q22.2 [34] [(34,vs (some l) xN xC),(38,vp (some (l.add (Int.toNat g*2))))] ?_
  obtain⟨q,m,q23,h⟩:=h
  refine T_lr 39 103 q23 [38]<| T_nw (some 5) (λb=>vp (pa b)) (.cells #[vi 0,vi 0] 103) ?_
  intro b H5 e24 e25
  replace h:=h b H5 e24 e25
  refine T_pd [] [(5,vp (pa b))] ?_
  obtain⟨q27,h⟩:=h
  refine fH 103 [vi q,vi m] q27 ?_
  intro H6 e26
  replace h:=h H6 e26
  refine T_pd [39] []<| T_e ?_
  obtain⟨ai,q28,o,rfl,r,q29,p,q30,u,q31,h⟩:=h
  refine yY 10 (Code.ops K44) [(11,d,[vp (some o)]),(11,o,[vp r]),(11,(ad b),[vi p]),(11,((ad b).add 1),[vi u])] 12 (bv 12 0) (show aG _ _ _ from⟨⟨q28,trivial⟩,⟨q29,trivial⟩,⟨q30,trivial⟩,⟨q31,trivial⟩,trivial⟩)<| T_gp 0 (some 40) (vp (some d)) (bv 12 1) [(0,vp (some d)),(5,vp (pa b)),(34,vs (some l) xN xC),(35,vi xN),(36,vi g),(40,vp (some d))]<| aD 1 41 (vp (some d)) (bv 12 3) [40]<| aD 2 42 (vp (some d)) (bv 12 7) [41]<| T_g1 3 43 (vp (some o)) (bv 12 15) [42] (aS 34 (vp (some d))) (yW 11 yZ)<| aD 4 44 (vp (some o)) (bv 12 31) [43]<| aD 5 45 (vp (some o)) (bv 12 63) [44]<| T_g1 6 46 (vp r) (bv 12 127) [45] (aS 44 (vp (some o))) (yW 11 yX)<| aD 7 47 (vp (pa b)) (bv 12 255) []<| T_g1 8 48 (vi p) (bv 12 511) [47] (aS 3 (vp (pa b))) (yW 11 yQ)<| aD 9 49 (vp (some ((ad b).add 1))) (bv 12 1023) [5]<| T_g1 10 50 (vi u) (bv 12 2047) [49] (aS 3 (vp (some ((ad b).add 1)))) (yW 11 yJ)<| yq 11 (some 51) (bv 12 4095) 42 #[vp r,vi p,vi u] h ?_;clear h
  rintro ak H7 ⟨ah,rfl,h⟩
  refine⟨[(0,vp (some d)),(34,vs (some l) xN xC),(35,vi xN),(36,vi g)],pk,(show aG _ _ _ from⟨trivial,trivial,trivial,trivial,trivial⟩),?_⟩
  refine eR [(0,vp (some d)),(34,vs (some l) xN xC),(35,vi xN),(36,vi g)] sk ?_
  exact yx<| aB<| aC<| T_rz 11<| T_ne 2 [(0,vp (some d)),(34,vs (some l) xN xC),(35,vi xN),(36,vi (zY (g+1)))]<| aK ((zY (g+1)):Int) sk h
 rw[if_neg c20]at h
 refine aE 37 (zQ c20)<| zj 2<| aA<| aA<| aH<| aC<| ar 12<| T_n 3 [(0,vp (some d)),(55,vp (some d))] ?_
 obtain⟨y,q32,h⟩:=h
 refine T_l1 56 34 q32 [55]<| T_c (some 57) h ?_;clear h
 intro v_4 H8 h
 refine T_pd [56] []<| T_e<| T_rz 13<| T_n 3 [(60,vp (some (d.add 1029)))] ?_
 obtain⟨q34,h⟩:=h
 refine eq 3 (vi 1) q34 ?_
 intro H9 e33
 replace h:=h H9 e33
 refine⟨[],pk,?_⟩
 exact zq<| fN (fn:=Tryz.f19) [] hQ (show dh _ _ _ [] _ from .nil) h
theorem linkD{tv:zW}{H:zV}{R:zk}(h:pt tv H R):CD tv H (λH=> ∃v,R v H):=by
 refine qB (fn:=Tryz.f19) (c:=K0) 61 Tryz.func19 (by kernel_rfl) (by kernel_rfl) (Nat.le_of_ble_eq_true (by kernel_rfl)) ?_
 intro w0 Q hQ
 unfold pt zY at h
 refine T_su [(0,vp tv)]<| T_sz<| ar 0<| T_nd 1 [] [(6,vp tv)]<| T_c (some 7) h ?_;clear h
 rintro v H1 ⟨x,rfl,h⟩
 refine T_pd [6] [(7,.bool x)]<| T_e ?_
 by_cases c1:x=true
 ·rw[if_pos c1]at h
  refine aF 7 c1<| zx ?_
  show At _ _ _ _ _ (Q .ret)
  exact rD (fn:=Tryz.f19) [] hQ (show dh _ _ _ [] _ from .nil) h
 rw[if_neg c1]at h
 refine aE 7 (zZ c1)<| T_kt<| T_sz<| ar 1<| T_nd 1 [7] [(8,vp tv)] ?_
 obtain⟨d,rfl,h⟩:=h
 refine T_n 2 [(0,vp (some d)),(10,vp (some (d.add 2)))] ?_
 obtain⟨j,l4,q3,h⟩:=h
 refine T_v1 11 (aS 91 (vp (some (d.add 2)))) (.agg (j).toArray) (fM (gR (λ_=>by kernel_rfl) (λw=>by rw[l4];kernel_rfl) q3)) [10]<| T_ed 1 [] [(12,vi 0)]<| T_bz 0 ?_
 obtain⟨af,m13,i5,i6⟩:=h
 refine bO (x:=K12) (σ:=Int) (λs_=> [(0,vp (some d)),(11,.agg (j).toArray),(12,vi s_)]) (λs_ H=>af s_ H) (λs_ H=>m13 s_ H) (0:Int) (by kernel_rfl) i5 sk ?_
 rintro f H2 i7
 have h:=i6 f H2 i7
 refine T_su [(0,vp (some d)),(11,.agg (j).toArray),(12,vi f)]<| ar 2<| T_ed 1 [] [(13,.bool (decide (f<1024)))]<| T_sz ?_
 by_cases c8:f<1024
 ·rw[if_pos c8]at h
  refine aF 13 (zX c8)<| T_kt<| T_sz<| T_bz 1<| ar 3<| T_nd 1 [13] [(14,vi f)] ?_
  obtain⟨s,q10,h⟩:=h
  refine T_v1 15 (dj 91 (.agg (j).toArray) (vi f)) (vi s) (λw _=>ig (P:=Tryz.prog) (t:=91) (elem:=3) (n:=1024) Tryz.underlying91 (λ_=>by kernel_rfl) (λ_=>by kernel_rfl) q10.1.1 q10.1.2 q10.2 w) []<| T_ed 2 [14,15] [(2,vi f),(3,vi s)]<| ar 4<| T_ed 2 [3] [(17,.bool (s==1))] ?_
  by_cases c11:s=1
  ·rw[if_pos c11]at h
   refine aF 17 (zK c11)<| T_rz 5<| T_nd 3 [17] [(20,vp (some d))] ?_
   obtain⟨aa,q13,h⟩:=h
   refine T_l1 21 34 q13 [20] ?_
   obtain⟨ac,rfl,h⟩:=h
   refine T_nd 2 [21] [(23,vp (some ac))] ?_
   obtain⟨ae,q14,h⟩:=h
   refine T_l1 24 44 q14 [23] ?_
   obtain⟨ab,rfl,h⟩:=h
   refine T_nd 2 [24] [(26,vp (some ab))] ?_
   obtain⟨z,q15,h⟩:=h
   refine T_l1 27 81 q15 [26]<| T_nd 1 [2] [(28,vi f)]<| T_c (some 29) h ?_;clear h
   rintro al H3 ⟨aj,rfl,h⟩
   exact T_pd [27,28] []<| zq<| aB<| aC<| T_rz 6<| T_ed 2 [12] [(12,vi (zY (f+1)))]<| aK ((zY (f+1)):Int) sk h
  rw[if_neg c11]at h
  exact aE 17 (zJ c11)<| T_k<| aB<| aC<| T_rz 6<| T_ed 2 [2,12,17] [(12,vi (zY (f+1)))]<| aK ((zY (f+1)):Int) sk h
 rw[if_neg c8]at h
 refine aE 13 (zQ c8)<| zj 0<| aA<| aA<| aH<| aC<| T_sz<| ar 7<| T_nd 3 [11,12,13] [(33,vp (some (d.add 1028)))] ?_
 obtain⟨xB,xN,xC,q16,h⟩:=h
 refine T_l1 34 92 q16 [33]<| T_ed 2 [] [(35,vi xN),(36,vi 0)]<| T_bz 2 ?_
 obtain⟨ag,m34,i17,i18⟩:=h
 refine bO (x:=K33) (σ:=Int) (λs_=> [(0,vp (some d)),(34,vs xB xN xC),(35,vi xN),(36,vi s_)]) (λs_ H=>ag s_ H) (λs_ H=>m34 s_ H) (0:Int) (by kernel_rfl) i17 sk ?_
 rintro g H4 i19
 have h:=i18 g H4 i19
 refine T_su [(0,vp (some d)),(34,vs xB xN xC),(35,vi xN),(36,vi g)]<| ar 8<| T_ed 1 [] [(37,.bool (decide (g< (xN:Int))))]<| T_sz ?_
 by_cases c20:g< (xN:Int)
 ·rw[if_pos c20]at h
  refine aF 37 (zX c20)<| T_kt<| T_sz<| T_bz 3<| ar 9<| T_ud [37] [] ?_
  obtain⟨l,rfl,q22,h⟩:=h
  refine T_xd (some 38) 92 103 2 l xN xC .i64 g Tryz.underlying92 q22.1 q22.2 [34] [(34,vs (some l) xN xC),(38,vp (some (l.add (Int.toNat g*2))))] ?_
  obtain⟨q,m,q23,h⟩:=h
  refine T_lr 39 103 q23 [38]<| T_nw (some 5) (λb=>vp (pa b)) (.cells #[vi 0,vi 0] 103) ?_
  intro b H5 e24 e25
  replace h:=h b H5 e24 e25
  refine T_pd [] [(5,vp (pa b))] ?_
  obtain⟨q27,h⟩:=h
  refine fH 103 [vi q,vi m] q27 ?_
  intro H6 e26
  replace h:=h H6 e26
  refine T_pd [39] []<| T_e ?_
  obtain⟨ai,q28,o,rfl,r,q29,p,q30,u,q31,h⟩:=h
  refine yY 10 (Code.ops K44) [(11,d,[vp (some o)]),(11,o,[vp r]),(11,(ad b),[vi p]),(11,((ad b).add 1),[vi u])] 12 (bv 12 0) (show aG _ _ _ from⟨⟨q28,trivial⟩,⟨q29,trivial⟩,⟨q30,trivial⟩,⟨q31,trivial⟩,trivial⟩)<| T_gp 0 (some 40) (vp (some d)) (bv 12 1) [(0,vp (some d)),(5,vp (pa b)),(34,vs (some l) xN xC),(35,vi xN),(36,vi g),(40,vp (some d))]<| aD 1 41 (vp (some d)) (bv 12 3) [40]<| aD 2 42 (vp (some d)) (bv 12 7) [41]<| T_g1 3 43 (vp (some o)) (bv 12 15) [42] (aS 34 (vp (some d))) (yW 11 yZ)<| aD 4 44 (vp (some o)) (bv 12 31) [43]<| aD 5 45 (vp (some o)) (bv 12 63) [44]<| T_g1 6 46 (vp r) (bv 12 127) [45] (aS 44 (vp (some o))) (yW 11 yX)<| aD 7 47 (vp (pa b)) (bv 12 255) []<| T_g1 8 48 (vi p) (bv 12 511) [47] (aS 3 (vp (pa b))) (yW 11 yQ)<| aD 9 49 (vp (some ((ad b).add 1))) (bv 12 1023) [5]<| T_g1 10 50 (vi u) (bv 12 2047) [49] (aS 3 (vp (some ((ad b).add 1)))) (yW 11 yJ)<| yq 11 (some 51) (bv 12 4095) 42 #[vp r,vi p,vi u] h ?_;clear h
  rintro ak H7 ⟨ah,rfl,h⟩
  refine⟨[(0,vp (some d)),(34,vs (some l) xN xC),(35,vi xN),(36,vi g)],pk,(show aG _ _ _ from⟨trivial,trivial,trivial,trivial,trivial⟩),?_⟩
  refine eR [(0,vp (some d)),(34,vs (some l) xN xC),(35,vi xN),(36,vi g)] sk ?_
  exact yx<| aB<| aC<| T_rz 11<| T_ne 2 [(0,vp (some d)),(34,vs (some l) xN xC),(35,vi xN),(36,vi (zY (g+1)))]<| aK ((zY (g+1)):Int) sk h
 rw[if_neg c20]at h
 refine aE 37 (zQ c20)<| zj 2<| aA<| aA<| aH<| aC<| ar 12<| T_n 3 [(0,vp (some d)),(55,vp (some d))] ?_
 obtain⟨y,q32,h⟩:=h
 refine T_l1 56 34 q32 [55]<| T_c (some 57) h ?_;clear h
 intro v_4 H8 h
 refine T_pd [56] []<| T_e<| T_rz 13<| T_n 3 [(60,vp (some (d.add 1029)))] ?_
 obtain⟨q34,h⟩:=h
 refine eq 3 (vi 1) q34 ?_
 intro H9 e33
 replace h:=h H9 e33
 refine⟨[],pk,?_⟩
 exact zq<| qC (fn:=Tryz.f19) [] hQ (show dh _ _ _ [] _ from .nil) h
end cL

/-! (*moraine/trace.Trace).Visit -/
namespace aW
def K0:=Func.code Tryz.f20
def K2:=cb K0
def K4:=cb K2
def K10:=cb K4
def K20:=cb K10
def K22:=cb K20
def K30:=cb K22
def K32:=cb K30
def K33:=ca K32
def K34:=cb K32
def K36:=cb K34
def K41:=ca K36
def K44:=cb K41
def K45:=ca K44
def K46:=ca K45
end aW
def aW.pt(tv:zW)(wv:Int)(H:zV)(R:zk):Prop:=
 cO.C tv wv H (λv H1=> ∃x:Bool,v=.bool x/\
 if x=true then(
 cx.C tv wv H1 (λb5 H2=> ∃(ra:Int) (rb:Bool),b5=.tuple #[.int .u64 ra,.bool rb]/\
 if rb=true then(
 R (.int .u64 ra) H2)
 else
 ∃d:Addr,tv=some d/\
 ∃aw:zW,hat H2 d=some (.pointer aw)/\
 dS.C aw wv H2 (λb1 H3=> ∃g:Int,b1=.int .i64 g/\
 if g=0 then(
 R (.int .u64 wv) H3)
 else
 ec.C wv H3 (λbt H4=> ∃(a:Int) (bg:Bool),bt=.tuple #[.int .i64 a,.bool bg]/\
 ∃a8:zW,hat H4 d=some (.pointer a8)/\
 ∃ba:Addr,a8=some ba/\
 ∃be:zW,hat H4 ba=some (.pointer be)/\
 ∃a9:Addr,be=some a9/\
 ∃bc:zW,hat H4 a9=some (.pointer bc)/\
 ∃bb:Addr,bc=some bb/\
 ∃a3:zW,hat H4 bb=some (.pointer a3)/\
 bE.C a3 (zY (Int.tdiv a 64)) H4 (λb3 H5=> ∃(t s ag j m k l:Int) (ah:Bool),b3=.tuple #[.agg #[.int .i64 t,.int .i64 s,.int .i64 ag,.int .i64 j,.int .i64 m,.int .i64 k,.int .i64 l],.bool ah]/\
 ∀(b:Nat) (H6:zV),b=H5.size->H6=H5.push (.cells #[.int .i64 0,.int .i64 0,.int .i64 0,.int .i64 0,.int .i64 0,.int .i64 0,.int .i64 0] 96)->
 (aI H6 (ad b) 0 7)/\ ∀H7,H7=aO H6 (ad b) [.int .i64 t,.int .i64 s,.int .i64 ag,.int .i64 j,.int .i64 m,.int .i64 k,.int .i64 l] 0->
 ∃bn:zW,hat H7 d=some (.pointer bn)/\
 ∃u:Addr,bn=some u/\
 ∃bj:zW,hat H7 u=some (.pointer bj)/\
 ∃y:Addr,bj=some y/\
 ∃r:zW,hat H7 y=some (.pointer r)/\
 ∃z:Int,hat H7 (d.add 1)=some (.int .i64 z)/\
 ∃aa:Int,hat H7 ((ad b).add 1)=some (.int .i64 aa)/\
 cy.C r z aa g H7 (λbr H8=> ∃f o:Int,br=.tuple #[.int .i64 f,.int .i64 o]/\
 if o=0 then(
 ∃(bd:zv) (m47:Int->zV->Nat),bd 0 H8/\ ∀(i:Int) (H9:zV),bd i H9->
 if i<g then(
 ∃ax:zW,hat H9 d=some (.pointer ax)/\
 ∃a0:Addr,ax=some a0/\
 ∃az:zW,hat H9 a0=some (.pointer az)/\
 ∃a5:Addr,az=some a5/\
 ∃a4:zW,hat H9 a5=some (.pointer a4)/\
 ∃ay:Addr,a4=some ay/\
 ∃ac:zW,hat H9 ay=some (.pointer ac)/\
 bR.C ac (zY (a+i)) H9 (λbz a7=> ∃p bi:Int,bz=.tuple #[.int .u64 p,.int .i64 bi]/\
 ∃am:zW,hat a7 d=some (.pointer am)/\
 ∃aj:Addr,am=some aj/\
 ∃a1:zW,hat a7 aj=some (.pointer a1)/\
 ∃ak:Addr,a1=some ak/\
 ∃al:zW,hat a7 ak=some (.pointer al)/\
 ∃ap:Addr,al=some ap/\
 ∃ab:zW,hat a7 ap=some (.pointer ab)/\
 cz.C ab (zY (f+i)) p a7 (λbu bk=> ∃bo:Int,bu=.int .i64 bo/\
 (bd (zY (i+1)) bk/\m47 (zY (i+1)) bk<m47 i H9))))
 else
 gm.C 6 f H9 (λbw a6=> ∃q bf:Int,bw=.tuple #[.int .u64 q,.int .i64 bf]/\
 ∃au:zW,hat a6 d=some (.pointer au)/\
 ∃av:Addr,au=some av/\
 ∃a2:zW,hat a6 av=some (.pointer a2)/\
 ∃ao:Addr,a2=some ao/\
 ∃aq:zW,hat a6 ao=some (.pointer aq)/\
 ∃an:Addr,aq=some an/\
 ∃ae:zW,hat a6 an=some (.pointer ae)/\
 cz.C ae a q a6 (λbq bs=> ∃bp:Int,bq=.int .i64 bp/\
 dY.C wv bs (λbm bx=> ∃ai:Int,bm=.int .i64 ai/\
 gm.C ai f bx (λbl b0=> ∃af bh:Int,bl=.tuple #[.int .u64 af,.int .i64 bh]/\
 R (.int .u64 af) b0)))))
 else
 R (.int .u64 wv) H8))))))
 else
 R (.int .u64 wv) H1)
namespace aW
theorem link{tv:zW}{wv:Int}{H:zV}{R:zk}(h:pt tv wv H R):C tv wv H R:=by
 refine T_en K0 163 Tryz.func20 ?_
 intro w0 Q hQ
 unfold pt zY at h
 refine T_su [(0,vp tv),(1,vu wv)]<| ar 0<| T_ed 1 [] []<| T_sz<| ar 1<| T_nd 2 [] [(21,vp tv),(22,vu wv)]<| T_c (some 23) h ?_;clear h
 rintro v H1 ⟨x,rfl,h⟩
 refine T_pd [21,22] [(23,.bool x)]<| T_ed 1 [23] [(24,.bool (!x))] ?_
 by_cases c1:x=true
 ·rw[if_pos c1]at h
  refine aE 24 (congrArg Bool.not (c1))<| T_kt<| T_sz<| ar 3<| T_nd 2 [24] [(27,vp tv),(28,vu wv)]<| T_c (some 29) h ?_;clear h
  rintro b5 H2 ⟨ra,rb,rfl,h⟩
  refine T_pd [27,28] [(29,.tuple #[vu ra,.bool rb])]<| T_ed 5 [29] [(5,vu ra),(6,.bool rb)]<| ar 4<| T_ed 1 [6] [(32,.bool rb)] ?_
  by_cases c3:rb=true
  ·rw[if_pos c3]at h
   exact aF 32 c3<| ar 5<| T_nr 2 [4] [vu ra] hQ h
  rw[if_neg c3]at h
  refine aE 32 (zZ c3)<| T_kt<| ar 6<| T_nd 1 [5,32] [(34,vp tv)] ?_
  obtain⟨d,rfl,h⟩:=h
  refine T_nd 2 [0,34] [(0,vp (some d)),(36,vp (some d))] ?_
  obtain⟨aw,q5,h⟩:=h
  refine T_l1 37 34 q5 [36]<| T_nd 1 [] [(38,vu wv)]<| T_c (some 39) h ?_;clear h
  rintro b1 H3 ⟨g,rfl,h⟩
  refine T_pd [37,38] [(39,vi g)]<| T_ed 1 [39] [(7,vi g)]<| T_sz<| ar 7<| T_ed 2 [] [(41,.bool (g==0))] ?_
  by_cases c6:g=0
  ·rw[if_pos c6]at h
   exact aF 41 (zK c6)<| ar 8<| T_nr 2 [4] [vu wv] hQ h
  rw[if_neg c6]at h
  refine aE 41 (zJ c6)<| T_kt<| ar 9<| T_nd 1 [41] [(44,vu wv)]<| T_c (some 45) h ?_;clear h
  rintro bt H4 ⟨a,bg,rfl,h⟩
  refine T_pd [44] [(45,.tuple #[vi a,.bool bg])]<| T_ed 5 [45] [(8,vi a)]<| ar 10<| T_nd 3 [] [(51,vp (some d))] ?_
  obtain⟨a8,q8,h⟩:=h
  refine T_l1 52 34 q8 [51] ?_
  obtain⟨ba,rfl,h⟩:=h
  refine T_nd 2 [52] [(54,vp (some ba))] ?_
  obtain⟨be,q9,h⟩:=h
  refine T_l1 55 44 q9 [54] ?_
  obtain⟨a9,rfl,h⟩:=h
  refine T_nd 2 [55] [(57,vp (some a9))] ?_
  obtain⟨bc,q10,h⟩:=h
  refine T_l1 58 81 q10 [57] ?_
  obtain⟨bb,rfl,h⟩:=h
  refine T_nd 2 [58] [(60,vp (some bb))] ?_
  obtain⟨a3,q11,h⟩:=h
  refine T_l1 61 84 q11 [60]<| T_nd 2 [] [(63,vi (zY (Int.tdiv a 64)))]<| T_c (some 64) h ?_;clear h
  rintro b3 H5 ⟨t,s,ag,j,m,k,l,ah,rfl,h⟩
  refine T_pd [61,63] [(64,.tuple #[.agg #[vi t,vi s,vi ag,vi j,vi m,vi k,vi l],.bool ah])]<| T_nd 3 [64] [(65,.agg #[vi t,vi s,vi ag,vi j,vi m,vi k,vi l]),(66,.bool ah)]<| T_nw (some 10) (λb=>vp (pa b)) (.cells #[vi 0,vi 0,vi 0,vi 0,vi 0,vi 0,vi 0] 96) ?_
  intro b H6 e12 e13
  replace h:=h b H6 e12 e13
  refine T_pd [] [(10,vp (pa b))] ?_
  obtain⟨q15,h⟩:=h
  refine fH 96 [vi t,vi s,vi ag,vi j,vi m,vi k,vi l] q15 ?_
  intro H7 e14
  replace h:=h H7 e14
  refine T_pd [65] []<| T_ed 1 [66] []<| T_sz ?_
  obtain⟨bn,q16,u,rfl,bj,q17,y,rfl,r,q18,z,q19,aa,q20,h⟩:=h
  refine yY 11 (Code.ops K33) [(17,d,[vp (some u)]),(17,u,[vp (some y)]),(17,y,[vp r]),(17,(d.add 1),[vi z]),(17,((ad b).add 1),[vi aa])] 23 (bv 23 0) (show aG _ _ _ from⟨⟨q16,trivial⟩,⟨q17,trivial⟩,⟨q18,trivial⟩,⟨q19,trivial⟩,⟨q20,trivial⟩,trivial⟩)<| T_gp 0 (some 68) (vp (some d)) (bv 23 1) [(0,vp (some d)),(1,vu wv),(7,vi g),(8,vi a),(10,vp (pa b)),(68,vp (some d))]<| aD 1 69 (vp (some d)) (bv 23 3) [68]<| aD 2 70 (vp (some d)) (bv 23 7) [69]<| T_g1 3 71 (vp (some u)) (bv 23 15) [70] (aS 34 (vp (some d))) (yW 17 yZ)<| aD 4 72 (vp (some u)) (bv 23 31) [71]<| aD 5 73 (vp (some u)) (bv 23 63) [72]<| T_g1 6 74 (vp (some y)) (bv 23 127) [73] (aS 44 (vp (some u))) (yW 17 yX)<| aD 7 75 (vp (some y)) (bv 23 255) [74]<| aD 8 76 (vp (some y)) (bv 23 511) [75]<| T_g1 9 77 (vp r) (bv 23 1023) [76] (aS 81 (vp (some y))) (yW 17 yQ)<| aD 10 78 (vp (some d)) (bv 23 2047) []<| aD 11 79 (vp (some d)) (bv 23 4095) [78]<| aD 12 80 (vp (some (d.add 1))) (bv 23 8191) [79]<| T_g1 13 81 (vi z) (bv 23 16383) [80] (aS 3 (vp (some (d.add 1)))) (yW 17 yJ)<| aD 14 82 (vp (some ((ad b).add 1))) (bv 23 32767) [10]<| T_g1 15 83 (vi aa) (bv 23 65535) [82] (aS 3 (vp (some ((ad b).add 1)))) (yW 17 yK)<| aD 16 84 (vi g) (bv 23 131071) []<| yq 17 (some 85) (bv 23 262143) 48 #[vp r,vi z,vi aa,vi g] h ?_;clear h
  rintro br H8 ⟨f,o,rfl,h⟩
  refine⟨[(0,vp (some d)),(1,vu wv),(7,vi g),(8,vi a),(85,.tuple #[vi f,vi o])],pk,(show aG _ _ _ from⟨trivial,trivial,trivial,trivial,trivial,trivial⟩),?_⟩
  refine T_g 18 (some 67) (.tuple #[vi f,vi o]) (bv 23 524287) [(0,vp (some d)),(1,vu wv),(7,vi g),(8,vi a),(67,.tuple #[vi f,vi o])] (pure (.value (.tuple #[vi f,vi o])):Sem Next) (λ_ _ _ _ _=>rfl)<| T_g1 19 86 (vi f) (bv 23 1048575) [] (pure (.value (vi f)):Sem Next) (λ_ _ _ _ _=>rfl)<| T_g1 20 87 (vi o) (bv 23 2097151) [67] (pure (.value (vi o)):Sem Next) (λ_ _ _ _ _=>rfl)<| T_g1 21 12 (vi f) (bv 23 4194303) [86] (pure (.value (vi f)):Sem Next) (λ_ _ _ _ _=>rfl)<| T_g1 22 13 (vi o) (bv 23 8388607) [87] (pure (.value (vi o)):Sem Next) (λ_ _ _ _ _=>rfl)<| eR [(0,vp (some d)),(1,vu wv),(7,vi g),(8,vi a),(12,vi f),(13,vi o)] sk<| yx<| aC<| T_sz<| ar 12<| T_ne 2 [(0,vp (some d)),(1,vu wv),(7,vi g),(8,vi a),(12,vi f),(89,.bool (o !=0))] ?_
  by_cases c21:o=0
  ·rw[if_pos c21]at h
   refine aE 89 (bne_eq_false_iff_eq.mpr c21)<| T_kt<| T_sz<| ar 14<| T_ed 2 [7,89] [(91,vi g),(92,vi 0)]<| T_bz 0 ?_
   obtain⟨bd,m47,i23,i24⟩:=h
   refine bO (x:=K46) (σ:=Int) (λs_=> [(0,vp (some d)),(1,vu wv),(8,vi a),(12,vi f),(91,vi g),(92,vi s_)]) (λs_ H=>bd s_ H) (λs_ H=>m47 s_ H) (0:Int) (by kernel_rfl) i23 sk ?_
   rintro i H9 i25
   have h:=i24 i H9 i25
   refine T_su [(0,vp (some d)),(1,vu wv),(8,vi a),(12,vi f),(91,vi g),(92,vi i)]<| ar 15<| T_ed 1 [] [(93,.bool (decide (i<g)))]<| T_sz ?_
   by_cases c26:i<g
   ·rw[if_pos c26]at h
    refine aF 93 (zX c26)<| T_kt<| T_sz<| T_bz 1<| ar 16<| T_ed 2 [93] [(14,vi i)]<| ar 17<| T_nd 3 [] [(98,vp (some d))] ?_
    obtain⟨ax,q28,h⟩:=h
    refine T_l1 99 34 q28 [98] ?_
    obtain⟨a0,rfl,h⟩:=h
    refine T_nd 2 [99] [(101,vp (some a0))] ?_
    obtain⟨az,q29,h⟩:=h
    refine T_l1 102 44 q29 [101] ?_
    obtain⟨a5,rfl,h⟩:=h
    refine T_nd 2 [102] [(104,vp (some a5))] ?_
    obtain⟨a4,q30,h⟩:=h
    refine T_l1 105 81 q30 [104] ?_
    obtain⟨ay,rfl,h⟩:=h
    refine T_nd 2 [105] [(107,vp (some ay))] ?_
    obtain⟨ac,q31,h⟩:=h
    refine T_l1 108 84 q31 [107]<| T_nd 3 [] [(111,vi (zY (a+i)))]<| T_c (some 112) h ?_;clear h
    rintro bz a7 ⟨p,bi,rfl,h⟩
    refine T_pd [108,111] [(112,.tuple #[vu p,vi bi])]<| T_ed 5 [112] [(15,vu p)]<| T_rz 18<| T_nd 3 [] [(117,vp (some d))] ?_
    obtain⟨am,q32,h⟩:=h
    refine T_l1 118 34 q32 [117] ?_
    obtain⟨aj,rfl,h⟩:=h
    refine T_nd 2 [118] [(120,vp (some aj))] ?_
    obtain⟨a1,q33,h⟩:=h
    refine T_l1 121 44 q33 [120] ?_
    obtain⟨ak,rfl,h⟩:=h
    refine T_nd 2 [121] [(123,vp (some ak))] ?_
    obtain⟨al,q34,h⟩:=h
    refine T_l1 124 81 q34 [123] ?_
    obtain⟨ap,rfl,h⟩:=h
    refine T_nd 2 [124] [(126,vp (some ap))] ?_
    obtain⟨ab,q35,h⟩:=h
    refine T_l1 127 84 q35 [126]<| T_nd 4 [14,15] [(130,vi (zY (f+i))),(131,vu p)]<| T_c (some 132) h ?_;clear h
    rintro bu bk ⟨bo,rfl,h⟩
    exact T_pd [127,130,131] []<| zq<| aB<| aC<| T_rz 19<| T_ed 2 [92] [(92,vi (zY (i+1)))]<| aK ((zY (i+1)):Int) sk h
   rw[if_neg c26]at h
   refine aE 93 (zQ c26)<| zj 0<| aA<| aA<| aH<| aC<| ar 20<| T_nd 1 [91,92,93] [(135,vi f)]<| T_c (some 136) h ?_;clear h
   rintro bw a6 ⟨q,bf,rfl,h⟩
   refine T_pd [135] [(136,.tuple #[vu q,vi bf])]<| T_ed 5 [136] [(17,vu q)]<| ar 21<| T_nd 3 [0] [(141,vp (some d))] ?_
   obtain⟨au,q36,h⟩:=h
   refine T_l1 142 34 q36 [141] ?_
   obtain⟨av,rfl,h⟩:=h
   refine T_nd 2 [142] [(144,vp (some av))] ?_
   obtain⟨a2,q37,h⟩:=h
   refine T_l1 145 44 q37 [144] ?_
   obtain⟨ao,rfl,h⟩:=h
   refine T_nd 2 [145] [(147,vp (some ao))] ?_
   obtain⟨aq,q38,h⟩:=h
   refine T_l1 148 81 q38 [147] ?_
   obtain⟨an,rfl,h⟩:=h
   refine T_nd 2 [148] [(150,vp (some an))] ?_
   obtain⟨ae,q39,h⟩:=h
   refine T_l1 151 84 q39 [150]<| T_nd 2 [8,17] [(152,vi a),(153,vu q)]<| T_c (some 154) h ?_;clear h
   rintro bq bs ⟨bp,rfl,h⟩
   refine T_pd [151,152,153] []<| T_e<| ar 22<| T_nd 1 [1] [(156,vu wv)]<| T_c (some 157) h ?_;clear h
   rintro bm bx ⟨ai,rfl,h⟩
   refine T_pd [156] [(157,vi ai)]<| T_nd 1 [12] [(158,vi f)]<| T_c (some 159) h ?_;clear h
   rintro bl b0 ⟨af,bh,rfl,h⟩
   refine⟨[(159,.tuple #[vu af,vi bh])],pk,?_⟩
   exact T_ne 5 [(19,vu af)]<| ar 23<| T_nr 2 [4] [vu af] hQ h
  rw[if_neg c21]at h
  exact aF 89 (bne_iff_ne.mpr c21)<| ar 13<| T_nr 2 [4] [vu wv] hQ h
 rw[if_neg c1]at h
 exact aF 24 (congrArg Bool.not (zZ c1))<| ar 2<| T_nr 2 [4] [vu wv] hQ h
end aW

