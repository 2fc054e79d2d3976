/- Printed: what each function asks, and that it is sound. -/
import Derived.Test.YtgnokbjknicahaaGreatFnsC
set_option linter.unusedSimpArgs false
set_option linter.unusedVariables false
set_option maxRecDepth 100000
set_option maxHeartbeats 1000000
noncomputable section
namespace Go.Proofs.YtgnokbjknicahaaGreat
open Go
/-! moraine/trace.Start -/
namespace trace_Start
def K0:=Func.code Tryz.f27
def K2:=cb K0
def K4:=cb K2
def K12:=cb K4
def K13:=ca K12
def K14:=cb K12
def K16:=cb K13
def K17:=ca K16
def K18:=ca K17
def K31:=cb K14
def K33:=cb K31
def K41:=cb K33
def K42:=ca K41
def K43:=cb K41
def K45:=cb K42
def K46:=ca K45
def K47:=ca K46
def K59:=ca K43
def K62:=cb K59
def K63:=ca K62
def K64:=ca K63
def K66:=cb K64
def K68:=cb K66
def K71:=ca K68
def K73:=ca K71
def K75:=cb K73
def K77:=cb K75
end trace_Start
def trace_Start.pt(hv:zW)(g d o:Int)(H:zV)(R:zk):Prop:=
 onPtr hv (
 R (.tuple #[.pointer none,.int .i64 1]) H) (λj=>
 ∃x:zW,hat H j=some (.pointer x)/\
 onPtr x (
 R (.tuple #[.pointer none,.int .i64 1]) H) (λxA=>
 if(((((decide (g<0)) || (decide (g>=4))) || (decide (d<g))) || (decide (d>(zY (g+1))))) || (decide (o<0)))=true then(
 R (.tuple #[.pointer none,.int .i64 1]) H)
 else
 ∃(br:zW->Nat->Nat->zv) (m19:zW->Nat->Nat->Int->zV->Nat),br none 0 0 0 H/\ ∀(f:zW) (gensN:Nat) (gensC:Nat) (s54:Int) (H1:zV),br f gensN gensC s54 H1->
 if s54< (zY (g+1))then(
 ∀(b:Nat) (H2:zV),b=H1.size->H2=H1.push (.cells #[.int .i64 s54] 3)->
 appendK 1 3 8 [.int .i64 0] f gensN gensC (some (ad b)) 1 H2 (λap bm H3=>
 (br ap (gensN+1) bm (zY (s54+1)) H3/\m19 ap (gensN+1) bm (zY (s54+1)) H3<m19 f gensN gensC s54 H1)))
 else
 ∃b2:zW,hat H1 j=some (.pointer b2)/\
 ∃b6:Addr,b2=some b6/\
 ∃b0:zW,hat H1 b6=some (.pointer b0)/\
 ∃bs:Addr,b0=some bs/\
 ∃bj:zW,hat H1 bs=some (.pointer bj)/\
 seg_Mem_Taken.C bj f gensN gensC H1 (λv H4=> ∃(xB:zW) (xN xC:Nat),v=.slice xB xN xC/\
 ∃bt:zW,hat H4 j=some (.pointer bt)/\
 ∃bu:Addr,bt=some bu/\
 ∃bz:zW,hat H4 bu=some (.pointer bz)/\
 ∃b1:Addr,bz=some b1/\
 ∃bo:zW,hat H4 b1=some (.pointer bo)/\
 seg_Mem_Free.C bo H4 (λcg H5=> ∃a6:Int,cg=.int .i64 a6/\
 if(zY ((zY (a6-(zY (2*(xN:Int)))))-8))<o then(
 R (.tuple #[.pointer none,.int .i64 2]) H5)
 else
 ∀(a5:Nat) (H6:zV),a5=H5.size->H6=H5.push (.map #[] 0)->
 ∀(bk:Nat) (H7:zV),bk=H6.size->H7=H6.push (.map #[] 0)->
 ∀(m:Nat) (H8:zV),m=H7.size->H8=H7.push (.cells ([.pointer (some j),.int .i64 d]++List.replicate 1024 (.int .i64 0)++[.map (some a5),.map (some bk),.slice none 0 0,.int .i64 0]:List Value).toArray 127)->
 ∃(bw:zv) (m48:Int->zV->Nat),bw 0 H8/\ ∀(y:Int) (H9:zV),bw y H9->
 if y< (xN:Int)then(
 ∃aq:Addr,xB=some aq/\
 zw y xN/\
 ∃am:Int,hat H9 (aq.add (Int.toNat y*1))=some (.int .i64 am)/\
 zw am 1024/\
 (CanPuts H9 (((ad m).add 2).add (Int.toNat am*1)) 0 1)/\ ∀b4,b4=hputs H9 (((ad m).add 2).add (Int.toNat am*1)) [.int .i64 1] 0->
 (bw (zY (y+1)) b4/\m48 (zY (y+1)) b4<m48 y H9))
 else
 ∃bf:zW,hat H9 j=some (.pointer bf)/\
 ∃a7:Addr,bf=some a7/\
 ∃bl:zW,hat H9 a7=some (.pointer bl)/\
 ∃a8:Addr,bl=some a8/\
 ∃av:zW,hat H9 a8=some (.pointer av)/\
 ∀(bp:Nat) (H11:zV),bp=H9.size->H11=H9.push (.cells #[.int .i64 d] 3)->
 seg_Mem_Taken.C av (some (ad bp)) 1 1 H11 (λcj ck=> ∃(ao:zW) (l r:Nat),cj=.slice ao l r/\
 ∃(bx:zv) (m65:Int->zV->Nat),bx 0 ck/\ ∀(p:Int) (H13:zV),bx p H13->
 if p< (l:Int)then(
 ∃s:Addr,ao=some s/\
 zw p l/\
 ∃q:Int,hat H13 (s.add (Int.toNat p*1))=some (.int .i64 q)/\
 ∃bd:zW,hat H13 j=some (.pointer bd)/\
 ∃bc:Addr,bd=some bc/\
 ∃bg:zW,hat H13 bc=some (.pointer bg)/\
 ∃bh:Addr,bg=some bh/\
 ∃az:zW,hat H13 bh=some (.pointer az)/\
 seg_Mem_Seg.C az q H13 (λci cd=> ∃(an ai a2 ac ae ab af:Int) (rb:Bool),ci=.tuple #[.agg #[.int .i64 an,.int .i64 ai,.int .i64 a2,.int .i64 ac,.int .i64 ae,.int .i64 ab,.int .i64 af],.bool rb]/\
 ∀(aa:Nat) (H15:zV),aa=cd.size->H15=cd.push (.cells #[.int .i64 0,.int .i64 0,.int .i64 0,.int .i64 0,.int .i64 0,.int .i64 0,.int .i64 0] 76)->
 (CanPuts H15 (ad aa) 0 7)/\ ∀ay,ay=hputs H15 (ad aa) [.int .i64 an,.int .i64 ai,.int .i64 a2,.int .i64 ac,.int .i64 ae,.int .i64 ab,.int .i64 af] 0->
 ∃ah:Option Nat,hat ay ((ad m).add 1026)=some (.map ah)/\
 ∃aj:Option Nat,hat ay ((ad m).add 1027)=some (.map aj)/\
 ∃ak:Int,hat ay ((ad aa).add 2)=some (.int .i64 ak)/\
 ∃ag:Int,hat ay ((ad aa).add 2)=some (.int .i64 ag)/\
 ∃mr:Nat,ah=some mr/\
 ∃(es:Array MapEntry) (cl:Nat) (ks:List (Int×Value)),ay[mr]?=some (.map es cl)/\Ents (intKey .i64) es.toList ks/\Born es cl/\
 ∀(a4:Array MapEntry) (cl_2:Nat) (stamp:Int) (x_21:Value) (H17:zV),H17=setBlk ay mr (.map a4 cl_2)->Ents (intKey .i64) a4.toList (mput ks q x_21)->Born a4 cl_2->HasBorn a4 (.int .i64 q) stamp->
 RowAt H17 ((ad aa).add 2) 0 [.int .i64 ak]/\RowAt H17 ((ad aa).add 2) 0 [.int .i64 ag]/\ ∃(a9:Array MapEntry) (cl_3:Nat) (ks_2:List (Int×Value)) (k:Int),H17[mr]?=some (.map a9 cl_3)/\Ents (intKey .i64) a9.toList ks_2/\Born a9 cl_3/\HasBorn a9 (.int .i64 k) stamp/\
 ∀(bn:Array MapEntry) (H18:zV),H18=setBlk H17 mr (.map bn cl_3)->Ents (intKey .i64) bn.toList (mput ks_2 k (.int .i64 ak))->Born bn cl_3->
 RowAt H18 ((ad aa).add 2) 0 [.int .i64 ag]/\ ∃al:Nat,aj=some al/\
 ∃(bq:Array MapEntry) (cl_4:Nat) (ks_3:List (Int×Value)),H18[al]?=some (.map bq cl_4)/\Ents (intKey .i64) bq.toList ks_3/\Born bq cl_4/\
 ∀(a3:Array MapEntry) (cl_5:Nat) (stamp_2:Int) (x_22:Value) (H19:zV),H19=setBlk H18 al (.map a3 cl_5)->Ents (intKey .i64) a3.toList (mput ks_3 q x_22)->Born a3 cl_5->HasBorn a3 (.int .i64 q) stamp_2->
 RowAt H19 ((ad aa).add 2) 0 [.int .i64 ag]/\ ∃(ba:Array MapEntry) (cl_6:Nat) (ks_4:List (Int×Value)) (k_2:Int),H19[al]?=some (.map ba cl_6)/\Ents (intKey .i64) ba.toList ks_4/\Born ba cl_6/\HasBorn ba (.int .i64 k_2) stamp_2/\
 ∀(be:Array MapEntry) (H20:zV),H20=setBlk H19 al (.map be cl_6)->Ents (intKey .i64) be.toList (mput ks_4 k_2 (.int .i64 ag))->Born be cl_6->
 (bx (zY (p+1)) H20/\m65 (zY (p+1)) H20<m65 p H13)))
 else
 ∃bb:zW,hat H13 j=some (.pointer bb)/\
 ∃bi:Addr,bb=some bi/\
 ∃a1:zW,hat H13 bi=some (.pointer a1)/\
 space_Space_Fresh.C a1 f gensN gensC H13 (λ_ ce=>
 ∃a0:zW,hat ce j=some (.pointer a0)/\
 card_Cards_Dirty.C a0 g ce (λch cc=> ∃(au:zW) (aw ax:Nat),ch=.slice au aw ax/\
 (CanPuts cc ((ad m).add 1028) 0 1)/\ ∀b8,b8=hputs cc ((ad m).add 1028) [.slice au aw ax] 0->
 R (.tuple #[.pointer (some (ad m)),.int .i64 0]) b8)))))))
namespace trace_Start
theorem link{hv:zW}{g d o:Int}{H:zV}{R:zk}(h:pt hv g d o H R):C hv g d o H R:=by
 refine T_en K0 181 Tryz.func27 ?_
 intro w0 Q hQ
 unfold pt zY at h
 refine T_su [(0,vp hv),(1,vi g),(2,vi d),(3,vi o)]<| T_srz 0<| T_ed 2 [] []<| T_sz<| T_srz 1<| T_nd 1 [] [(20,vp hv)] ?_
 rcases hv with _ | j
 ·rw[onPtr_none]at h
  exact T_ed 31 [0,20] [(0,vp none),(51,.bool true)]<| T_tz 51<| T_srz 2<| T_nr 2 [8,9] [vp none,vi 1] hQ h
 rw[onPtr_some]at h
 refine T_nd 5 [0,20] [(0,vp (some j)),(22,.bool false),(25,vp (some j))] ?_
 obtain⟨x,q1,h⟩:=h
 refine T_l1 26 26 q1 [25] ?_
 rcases x with _ | xA
 ·rw[onPtr_none]at h
  exact T_ed 25 [22,26] [(51,.bool true)]<| T_tz 51<| T_srz 2<| T_nr 2 [8,9] [vp none,vi 1] hQ h
 rw[onPtr_some]at h
 refine T_nd 7 [22,26] [(33,.bool (decide (g<0)))] ?_
 refine N_cut [(0,vp (some j)),(1,vi g),(2,vi d),(3,vi o),(51,.bool (((((decide (g<0)) || (decide (g>=4))) || (decide (d<g))) || (decide (d>(zY (g+1))))) || (decide (o<0))))] ?_ ?_
 ·refine S_then ?_
  by_cases c10:(((((decide (g<0)) || (decide (g>=4))) || (decide (d<g))) || (decide (d>(zY (g+1))))) || (decide (o<0)))=true
  ·rw[if_pos c10]at h
   exact T_cTz 51 c10<| T_srz 2<| T_nr 2 [8,9] [vp none,vi 1] hQ h
  rw[if_neg c10]at h
  refine T_cFz 51 (zZ c10)<| T_kt<| T_srz 3<| T_ne 1 [(0,vp (some j)),(1,vi g),(2,vi d),(3,vi o),(10,vs none 0 0)]<| T_sz<| T_srz 4<| T_ed 3 [] [(53,vi (zY (g+1))),(54,vi 0)]<| T_bz 0 ?_
  obtain⟨br,m19,i12,i13⟩:=h
  refine S_loop (x:=K18) (σ:=zW×Nat×Nat×Int) (λs_=> [(0,vp (some j)),(1,vi g),(2,vi d),(3,vi o),(10,vs s_.1 s_.2.1 s_.2.2.1),(53,vi (zY (g+1))),(54,vi s_.2.2.2)]) (λs_ H=>br s_.1 s_.2.1 s_.2.2.1 s_.2.2.2 H) (λs_ H=>m19 s_.1 s_.2.1 s_.2.2.1 s_.2.2.2 H) ((none,0,0,0):zW×Nat×Nat×Int) (by kernel_rfl) i12 sk ?_
  rintro⟨f,gensN,gensC,s54⟩ H1 i14
  have h:=i13 f gensN gensC s54 H1 i14
  refine T_su [(0,vp (some j)),(1,vi g),(2,vi d),(3,vi o),(10,vs f gensN gensC),(53,vi (zY (g+1))),(54,vi s54)]<| T_srz 5<| T_ed 1 [] [(55,.bool (decide (s54< (zY (g+1)))))]<| T_sz ?_
  by_cases c15:s54< (zY (g+1))
  ·rw[if_pos c15]at h
   refine T_cTz 55 (zX c15)<| T_kt<| T_sz<| T_bz 1<| T_srz 6<| T_ed 2 [55] [(11,vi s54)]<| T_rz 7<| T_nd 2 [10,11] [(57,vs f gensN gensC),(58,vi s54)]<| T_nw (some 59) (λb=>vs (pa b) 1 1) (.cells #[vi s54] 3) ?_
   intro b H2 e17 e18
   replace h:=h b H2 e17 e18
   refine T_pd [58] [(59,vs (pa b) 1 1)]<| N_op (some 60) (appendN #[67,67] 67 #[vs f gensN gensC,vs (pa b) 1 1]) _ (λ_=>by kernel_rfl) (ss_append (T:=3) (sz:=1) (bytes:=8) (zero:=(vi 0:Value)) Tryz.underlying67 Tryz.underlying67 rfl (show Tryz.prog.info? 3=some Tryz.t3 from by kernel_rfl) (by kernel_rfl) (by kernel_rfl) (by decide) (by kernel_rfl) (by first | exact h | (simpa only[Value.cells,List.toList_toArray]using h))) ?_;clear h
   rintro _ H3 ⟨ap,bm,rfl,h⟩
   exact T_pd [57,59] [(60,vs ap (gensN+1) bm)]<| T_nd 1 [60] [(10,vs ap (gensN+1) bm)]<| zq<| S_blockEnd<| S_then<| T_rz 8<| T_ed 2 [54] [(54,vi (zY (s54+1)))]<| S_round ((ap,(gensN+1),bm,(zY (s54+1))):zW×Nat×Nat×Int) sk h
  rw[if_neg c15]at h
  refine T_cFz 55 (zQ c15)<| zj 0<| S_exitThen<| S_exitThen<| S_exitHere<| S_then<| T_srz 9<| T_nd 3 [53,54,55] [(64,vp (some j))] ?_
  obtain⟨b2,q19,h⟩:=h
  refine T_l1 65 26 q19 [64] ?_
  obtain⟨b6,rfl,h⟩:=h
  refine T_nd 2 [65] [(67,vp (some b6))] ?_
  obtain⟨b0,q20,h⟩:=h
  refine T_l1 68 39 q20 [67] ?_
  obtain⟨bs,rfl,h⟩:=h
  refine T_nd 2 [68] [(70,vp (some bs))] ?_
  obtain⟨bj,q21,h⟩:=h
  refine T_l1 71 69 q21 [70]<| T_nd 1 [] [(72,vs f gensN gensC)]<| T_c (some 73) h ?_;clear h
  rintro v H4 ⟨xB,xN,xC,rfl,h⟩
  refine T_pd [71,72] [(73,vs xB xN xC)]<| T_ed 1 [73] [(12,vs xB xN xC)]<| T_sz<| T_srz 10<| T_nd 3 [] [(76,vp (some j))] ?_
  obtain⟨bt,q22,h⟩:=h
  refine T_l1 77 26 q22 [76] ?_
  obtain⟨bu,rfl,h⟩:=h
  refine T_nd 2 [77] [(79,vp (some bu))] ?_
  obtain⟨bz,q23,h⟩:=h
  refine T_l1 80 39 q23 [79] ?_
  obtain⟨b1,rfl,h⟩:=h
  refine T_nd 2 [80] [(82,vp (some b1))] ?_
  obtain⟨bo,q24,h⟩:=h
  refine T_l1 83 69 q24 [82]<| T_c (some 84) h ?_;clear h
  rintro cg H5 ⟨a6,rfl,h⟩
  refine T_pd [83] [(84,vi a6)]<| T_ed 7 [3,84] [(91,.bool (decide ((zY ((zY (a6-(zY (2*(xN:Int)))))-8))<o)))] ?_
  by_cases c25:(zY ((zY (a6-(zY (2*(xN:Int)))))-8))<o
  ·rw[if_pos c25]at h
   exact T_cTz 91 (zX c25)<| T_srz 11<| T_nr 2 [8,9] [vp none,vi 2] hQ h
  rw[if_neg c25]at h
  refine T_cFz 91 (zQ c25)<| T_kt<| T_srz 12<| T_nd 2 [91] [(92,vp (some j)),(93,vi d)]<| T_nw (some 94) (λb=> .map (some b)) (.map #[] 0) ?_
  intro a5 H6 e27 e28
  replace h:=h a5 H6 e27 e28
  refine T_pd [] [(94,.map (some a5))]<| T_nw (some 95) (λb=> .map (some b)) (.map #[] 0) ?_
  intro bk H7 e29 e30
  replace h:=h bk H7 e29 e30
  refine T_pd [] [(95,.map (some bk))]<| T_nd 1 [92,93,94,95] [(96,.agg ([vp (some j),vi d]++List.replicate 1024 (vi 0)++[.map (some a5),.map (some bk),vs none 0 0,vi 0]:List Value).toArray)]<| T_nw (some 97) (λb=>vp (pa b)) (.cells ([vp (some j),vi d]++List.replicate 1024 (vi 0)++[.map (some a5),.map (some bk),vs none 0 0,vi 0]:List Value).toArray 127) ?_
  intro m H8 e31 e32
  replace h:=h m H8 e31 e32
  refine T_pd [96] [(97,vp (pa m))]<| T_ed 1 [97] [(13,vp (pa m))]<| T_sz<| T_srz 13<| T_ed 3 [12] [(98,vs xB xN xC),(99,vi xN),(100,vi 0)]<| T_bz 2 ?_
  obtain⟨bw,m48,i33,i34⟩:=h
  refine S_loop (x:=K47) (σ:=Int) (λs_=> [(0,vp (some j)),(1,vi g),(2,vi d),(10,vs f gensN gensC),(13,vp (pa m)),(98,vs xB xN xC),(99,vi xN),(100,vi s_)]) (λs_ H=>bw s_ H) (λs_ H=>m48 s_ H) (0:Int) (by kernel_rfl) i33 sk ?_
  rintro y H9 i35
  have h:=i34 y H9 i35
  refine T_su [(0,vp (some j)),(1,vi g),(2,vi d),(10,vs f gensN gensC),(13,vp (pa m)),(98,vs xB xN xC),(99,vi xN),(100,vi y)]<| T_srz 14<| T_ed 1 [] [(101,.bool (decide (y< (xN:Int))))]<| T_sz ?_
  by_cases c36:y< (xN:Int)
  ·rw[if_pos c36]at h
   refine T_cTz 101 (zX c36)<| T_kt<| T_sz<| T_bz 3<| T_srz 15<| T_ud [101] [] ?_
   obtain⟨aq,rfl,q38,h⟩:=h
   refine T_xd (some 102) 67 3 1 aq xN xC .i64 y Tryz.underlying67 q38.1 q38.2 [98] [(98,vs (some aq) xN xC),(102,vp (some (aq.add (Int.toNat y*1))))] ?_
   obtain⟨am,q39,h⟩:=h
   refine T_l1 103 3 q39 [102]<| T_ed 1 [103] [(15,vi am)]<| T_rz 16<| T_nd 4 [15] [(105,vi am),(107,vp (some ((ad m).add 2)))] ?_
   obtain⟨q40,h⟩:=h
   refine T_v1 108 (indexAtN 124 (vp (some ((ad m).add 2))) (vi am)) (vp (some (((ad m).add 2).add (Int.toNat am*1)))) (λw _=>indexArr_run (P:=Tryz.prog) (t:=124) (elem:=3) (sz:=1) (n:=1024) (a:=((ad m).add 2)) (k:=.i64) (i:=am) Tryz.underlying124 (λ_=>by kernel_rfl) q40.1 q40.2 w) [105,107] ?_
   obtain⟨q42,h⟩:=h
   refine T_st1 3 (vi 1) q42 ?_
   intro b4 e41
   replace h:=h b4 e41
   exact T_pd [108] []<| zq<| S_blockEnd<| S_then<| T_rz 17<| T_ed 2 [100] [(100,vi (zY (y+1)))]<| S_round ((zY (y+1)):Int) sk h
  rw[if_neg c36]at h
  refine T_cFz 101 (zQ c36)<| zj 2<| S_exitThen<| S_exitThen<| S_exitHere<| S_then<| T_sz<| T_srz 18<| T_nd 3 [98,99,100,101] [(112,vp (some j))] ?_
  obtain⟨bf,q43,h⟩:=h
  refine T_l1 113 26 q43 [112] ?_
  obtain⟨a7,rfl,h⟩:=h
  refine T_nd 2 [113] [(115,vp (some a7))] ?_
  obtain⟨bl,q44,h⟩:=h
  refine T_l1 116 39 q44 [115] ?_
  obtain⟨a8,rfl,h⟩:=h
  refine T_nd 2 [116] [(118,vp (some a8))] ?_
  obtain⟨av,q45,h⟩:=h
  refine T_l1 119 69 q45 [118]<| T_nd 1 [2] [(120,vi d)]<| T_nw (some 121) (λb=>vs (pa b) 1 1) (.cells #[vi d] 3) ?_
  intro bp H11 e46 e47
  replace h:=h bp H11 e46 e47
  refine T_pd [120] [(121,vs (pa bp) 1 1)]<| T_c (some 122) h ?_;clear h
  rintro cj ck ⟨ao,l,r,rfl,h⟩
  refine T_pd [119,121] [(122,vs ao l r)]<| T_ed 2 [] [(123,vi l),(124,vi 0)]<| T_bz 4 ?_
  obtain⟨bx,m65,i48,i49⟩:=h
  refine S_loop (x:=K64) (σ:=Int) (λs_=> [(0,vp (some j)),(1,vi g),(10,vs f gensN gensC),(13,vp (pa m)),(122,vs ao l r),(123,vi l),(124,vi s_)]) (λs_ H=>bx s_ H) (λs_ H=>m65 s_ H) (0:Int) (by kernel_rfl) i48 sk ?_
  rintro p H13 i50
  have h:=i49 p H13 i50
  refine T_su [(0,vp (some j)),(1,vi g),(10,vs f gensN gensC),(13,vp (pa m)),(122,vs ao l r),(123,vi l),(124,vi p)]<| T_srz 19<| T_ed 1 [] [(125,.bool (decide (p< (l:Int))))]<| T_sz ?_
  by_cases c51:p< (l:Int)
  ·rw[if_pos c51]at h
   refine T_cTz 125 (zX c51)<| T_kt<| T_sz<| T_bz 5<| T_srz 20<| T_ud [125] [] ?_
   obtain⟨s,rfl,q53,h⟩:=h
   refine T_xd (some 126) 67 3 1 s l r .i64 p Tryz.underlying67 q53.1 q53.2 [122] [(122,vs (some s) l r),(126,vp (some (s.add (Int.toNat p*1))))] ?_
   obtain⟨q,q54,h⟩:=h
   refine T_l1 127 3 q54 [126]<| T_ed 1 [127] [(17,vi q)]<| T_srz 21<| T_nd 3 [] [(131,vp (some j))] ?_
   obtain⟨bd,q55,h⟩:=h
   refine T_l1 132 26 q55 [131] ?_
   obtain⟨bc,rfl,h⟩:=h
   refine T_nd 2 [132] [(134,vp (some bc))] ?_
   obtain⟨bg,q56,h⟩:=h
   refine T_l1 135 39 q56 [134] ?_
   obtain⟨bh,rfl,h⟩:=h
   refine T_nd 2 [135] [(137,vp (some bh))] ?_
   obtain⟨az,q57,h⟩:=h
   refine T_l1 138 69 q57 [137]<| T_nd 1 [] [(139,vi q)]<| T_c (some 140) h ?_;clear h
   rintro ci cd ⟨an,ai,a2,ac,ae,ab,af,rb,rfl,h⟩
   refine T_pd [138,139] [(140,.tuple #[.agg #[vi an,vi ai,vi a2,vi ac,vi ae,vi ab,vi af],.bool rb])]<| T_nd 3 [140] [(141,.agg #[vi an,vi ai,vi a2,vi ac,vi ae,vi ab,vi af]),(142,.bool rb)]<| T_nw (some 18) (λb=>vp (pa b)) (.cells #[vi 0,vi 0,vi 0,vi 0,vi 0,vi 0,vi 0] 76) ?_
   intro aa H15 e58 e59
   replace h:=h aa H15 e58 e59
   refine T_pd [] [(18,vp (pa aa))] ?_
   obtain⟨q61,h⟩:=h
   refine T_sta 76 [vi an,vi ai,vi a2,vi ac,vi ae,vi ab,vi af] q61 ?_
   intro ay e60
   replace h:=h ay e60
   refine T_pd [141] []<| T_ed 1 [142] [] ?_
   obtain⟨ah,q62,aj,q63,ak,q64,ag,q65,h⟩:=h
   refine yY 22 (Code.ops K77) [(14,((ad m).add 1026),[.map ah]),(14,((ad m).add 1027),[.map aj]),(16,((ad aa).add 2),[vi ak]),(19,((ad aa).add 2),[vi ag])] 20 (bv 20 0) (show FactsAt _ _ _ from⟨⟨q62,trivial⟩,⟨q63,trivial⟩,⟨q64,trivial⟩,⟨q65,trivial⟩,trivial⟩)<| T_gp 0 (some 143) (vp (pa m)) (bv 20 1) [(0,vp (some j)),(1,vi g),(10,vs f gensN gensC),(13,vp (pa m)),(17,vi q),(18,vp (pa aa)),(122,vs (some s) l r),(123,vi l),(124,vi p),(143,vp (pa m))]<| T_gp1 1 144 (vp (pa m)) (bv 20 3) [143]<| T_gp1 2 145 (vp (some ((ad m).add 1026))) (bv 20 7) [144]<| T_g1 3 146 (.map ah) (bv 20 15) [145] (loadN 123 (vp (some ((ad m).add 1026)))) (yW 14 yZ)<| T_gp1 4 147 (vi q) (bv 20 31) []<| T_gp1 5 148 (vp (pa m)) (bv 20 63) []<| T_gp1 6 149 (vp (pa m)) (bv 20 127) [148]<| T_gp1 7 150 (vp (some ((ad m).add 1027))) (bv 20 255) [149]<| T_g1 8 151 (.map aj) (bv 20 511) [150] (loadN 123 (vp (some ((ad m).add 1027)))) (yW 14 yX)<| T_gp1 9 152 (vi q) (bv 20 1023) [17]<| T_gp1 10 153 (vp (some ((ad aa).add 2))) (bv 20 2047) []<| T_g1 11 154 (vi ak) (bv 20 4095) [153] (loadN 3 (vp (some ((ad aa).add 2)))) (yW 16 yQ)<| T_gp1 12 155 (vp (some ((ad aa).add 2))) (bv 20 8191) [18]<| T_g1 13 156 (vi ag) (bv 20 16383) [155] (loadN 3 (vp (some ((ad aa).add 2)))) (yW 19 yJ) ?_
   obtain⟨mr,rfl,es,cl,ks,q68,q69,q73,h⟩:=h
   refine G_only 14 (some 157) (bv 20 32767) (mapEntN 123 (.map (some mr)) (vi q)) (λu Hz=> ∃es2 cl2 sp v0,Hz=setBlk ay mr (.map es2 cl2)/\Ents (intKey .i64) es2.toList (mput ks q v0)/\Born es2 cl2/\HasBorn es2 (vi q) sp/\u=.tuple #[v0,vi sp]) (by kernel_rfl) (λ_=>by kernel_rfl) (mapEnt_run (kk:=(intKey .i64)) (z:=vi 0) Tryz.underlying123 Tryz.underlying3 (λ_=>by kernel_rfl) q68 q69 q73) (by kernel_rfl) ?_
   rintro _ H17 ⟨a4,cl_2,stamp,x_21,e71,e72,e74,e75,rfl⟩
   replace h:=h a4 cl_2 stamp x_21 H17 e71 e72 e74 e75
   obtain⟨f66,f67,h⟩:=h
   refine⟨[(0,vp (some j)),(1,vi g),(10,vs f gensN gensC),(13,vp (pa m)),(122,vs (some s) l r),(123,vi l),(124,vi p),(146,.map (some mr)),(151,.map aj),(152,vi q),(154,vi ak),(156,vi ag),(157,.tuple #[x_21,vi stamp])],pk,(show FactsAt _ _ _ from⟨trivial,trivial,f66,f67,trivial⟩),?_⟩
   refine T_g 15 (some 158) (vi stamp) (bv 20 65535) [(0,vp (some j)),(1,vi g),(10,vs f gensN gensC),(13,vp (pa m)),(122,vs (some s) l r),(123,vi l),(124,vi p),(146,.map (some mr)),(151,.map aj),(152,vi q),(154,vi ak),(156,vi ag),(158,vi stamp)] (pure (.value (vi stamp)):Sem Next) (λ_ _ _ _ _=>rfl) ?_
   obtain⟨a9,cl_3,ks_2,k,q77,q78,q79,q80,h⟩:=h
   refine G_onlyskip 16 none (bv 20 131071) (entPutN 123 (.map (some mr)) (vi stamp) (vi ak)) (λHz=> ∃es2,Hz=setBlk H17 mr (.map es2 cl_3)/\Ents (intKey .i64) es2.toList (mput ks_2 k (vi ak))/\Born es2 cl_3) (by kernel_rfl) (λ_=>by kernel_rfl) (entPut_run (kk:=(intKey .i64)) q77 q78 q79 q80) (by kernel_rfl) ?_
   rintro H18 ⟨bn,e81,e82,e83⟩
   replace h:=h bn H18 e81 e82 e83
   obtain⟨f76,h⟩:=h
   refine⟨[(0,vp (some j)),(1,vi g),(10,vs f gensN gensC),(13,vp (pa m)),(122,vs (some s) l r),(123,vi l),(124,vi p),(151,.map aj),(152,vi q),(156,vi ag)],pk,(show FactsAt _ _ _ from⟨trivial,trivial,trivial,f76,trivial⟩),?_⟩
   obtain⟨al,rfl,bq,cl_4,ks_3,q85,q86,q90,h⟩:=h
   refine G_only 17 (some 159) (bv 20 262143) (mapEntN 123 (.map (some al)) (vi q)) (λu Hz=> ∃es2 cl2 sp v0,Hz=setBlk H18 al (.map es2 cl2)/\Ents (intKey .i64) es2.toList (mput ks_3 q v0)/\Born es2 cl2/\HasBorn es2 (vi q) sp/\u=.tuple #[v0,vi sp]) (by kernel_rfl) (λ_=>by kernel_rfl) (mapEnt_run (kk:=(intKey .i64)) (z:=vi 0) Tryz.underlying123 Tryz.underlying3 (λ_=>by kernel_rfl) q85 q86 q90) (by kernel_rfl) ?_
   rintro _ H19 ⟨a3,cl_5,stamp_2,x_22,e88,e89,e91,e92,rfl⟩
   replace h:=h a3 cl_5 stamp_2 x_22 H19 e88 e89 e91 e92
   obtain⟨f84,h⟩:=h
   refine⟨[(0,vp (some j)),(1,vi g),(10,vs f gensN gensC),(13,vp (pa m)),(122,vs (some s) l r),(123,vi l),(124,vi p),(151,.map (some al)),(156,vi ag),(159,.tuple #[x_22,vi stamp_2])],pk,(show FactsAt _ _ _ from⟨trivial,trivial,trivial,f84,trivial⟩),?_⟩
   refine T_g 18 (some 160) (vi stamp_2) (bv 20 524287) [(0,vp (some j)),(1,vi g),(10,vs f gensN gensC),(13,vp (pa m)),(122,vs (some s) l r),(123,vi l),(124,vi p),(151,.map (some al)),(156,vi ag),(160,vi stamp_2)] (pure (.value (vi stamp_2)):Sem Next) (λ_ _ _ _ _=>rfl) ?_
   obtain⟨ba,cl_6,ks_4,k_2,q93,q94,q95,q96,h⟩:=h
   refine G_onlyskip 19 none (bv 20 1048575) (entPutN 123 (.map (some al)) (vi stamp_2) (vi ag)) (λHz=> ∃es2,Hz=setBlk H19 al (.map es2 cl_6)/\Ents (intKey .i64) es2.toList (mput ks_4 k_2 (vi ag))/\Born es2 cl_6) (by kernel_rfl) (λ_=>by kernel_rfl) (entPut_run (kk:=(intKey .i64)) q93 q94 q95 q96) (by kernel_rfl) ?_
   rintro H20 ⟨be,e97,e98,e99⟩
   replace h:=h be H20 e97 e98 e99
   refine⟨[(0,vp (some j)),(1,vi g),(10,vs f gensN gensC),(13,vp (pa m)),(122,vs (some s) l r),(123,vi l),(124,vi p)],pk,(show FactsAt _ _ _ from⟨trivial,trivial,trivial,trivial,trivial⟩),?_⟩
   refine G_sub [(0,vp (some j)),(1,vi g),(10,vs f gensN gensC),(13,vp (pa m)),(122,vs (some s) l r),(123,vi l),(124,vi p)] sk ?_
   exact yx<| S_blockEnd<| S_then<| T_rz 23<| T_ne 2 [(0,vp (some j)),(1,vi g),(10,vs f gensN gensC),(13,vp (pa m)),(122,vs (some s) l r),(123,vi l),(124,vi (zY (p+1)))]<| S_round ((zY (p+1)):Int) sk h
  rw[if_neg c51]at h
  refine T_cFz 125 (zQ c51)<| zj 4<| S_exitThen<| S_exitThen<| S_exitHere<| S_then<| T_srz 24<| T_nd 3 [122,123,124,125] [(164,vp (some j))] ?_
  obtain⟨bb,q100,h⟩:=h
  refine T_l1 165 26 q100 [164] ?_
  obtain⟨bi,rfl,h⟩:=h
  refine T_nd 2 [165] [(167,vp (some bi))] ?_
  obtain⟨a1,q101,h⟩:=h
  refine T_l1 168 39 q101 [167]<| T_nd 1 [10] [(169,vs f gensN gensC)]<| T_c (some 170) h ?_;clear h
  intro v_5 ce h
  refine T_pd [168,169] []<| T_e<| T_srz 25<| T_nd 4 [0] [(171,vp (pa m)),(174,vp (some j))] ?_
  obtain⟨a0,q102,h⟩:=h
  refine T_l1 175 26 q102 [174]<| T_nd 1 [1] [(176,vi g)]<| T_c (some 177) h ?_;clear h
  rintro ch cc ⟨au,aw,ax,rfl,h⟩
  refine T_pd [175,176] [(177,vs au aw ax)]<| T_nd 2 [171] [(179,vp (some ((ad m).add 1028)))] ?_
  obtain⟨q104,h⟩:=h
  refine T_st1 125 (vs au aw ax) q104 ?_
  intro b8 e103
  replace h:=h b8 e103
  exact T_pd [177,179] []<| T_e<| T_srz 26<| T_nr 3 [8,9] [vp (pa m),vi 0] hQ h
 intro hk
 refine T_nu [(0,vp (some j)),(1,vi g),(2,vi d),(3,vi o),(33,.bool (decide (g<0)))] ?_
 by_cases c2:g<0
 ·have b3:(decide (g<0))=true:=zX c2
  refine N_env [(0,vp (some j)),(1,vi g),(2,vi d),(3,vi o),(33,.bool true)] (by rw[b3]) ?_
  refine T_nd 18 [33] [(51,.bool true)]<| zq<| S_bd 51 (b:=true) (v:=(((((decide (g<0)) || (decide (g>=4))) || (decide (d<g))) || (decide (d>(zY (g+1))))) || (decide (o<0)))) (by simp only[b3,BL]) ?_
  exact hk
 have b3:(decide (g<0))=false:=zQ c2
 refine N_env [(0,vp (some j)),(1,vi g),(2,vi d),(3,vi o),(33,.bool false)] (by rw[b3]) ?_
 refine T_nd 4 [33] [(37,.bool (decide (g>=4)))] ?_
 by_cases c4:g>=4
 ·have b5:(decide (g>=4))=true:=zX c4
  refine N_bd 37 b5<| T_nd 14 [37] [(51,.bool true)] ?_
  refine zq<| S_bd 51 (b:=true) (v:=(((((decide (g<0)) || (decide (g>=4))) || (decide (d<g))) || (decide (d>(zY (g+1))))) || (decide (o<0)))) (by simp only[b3,b5,BL]) ?_
  exact hk
 have b5:(decide (g>=4))=false:=zQ c4
 refine N_bd 37 b5<| T_nd 5 [37] [(42,.bool (decide (d<g)))] ?_
 by_cases c6:d<g
 ·have b7:(decide (d<g))=true:=zX c6
  refine N_bd 42 b7<| T_nd 9 [42] [(51,.bool true)] ?_
  refine zq<| S_bd 51 (b:=true) (v:=(((((decide (g<0)) || (decide (g>=4))) || (decide (d<g))) || (decide (d>(zY (g+1))))) || (decide (o<0)))) (by simp only[b3,b5,b7,BL]) ?_
  exact hk
 have b7:(decide (d<g))=false:=zQ c6
 refine N_bd 42 b7<| T_nd 6 [42] [(48,.bool (decide (d>(zY (g+1)))))] ?_
 by_cases c8:d>(zY (g+1))
 ·have b9:(decide (d>(zY (g+1))))=true:=zX c8
  refine N_bd 48 b9<| T_nd 3 [48] [(51,.bool true)] ?_
  refine zq<| S_bd 51 (b:=true) (v:=(((((decide (g<0)) || (decide (g>=4))) || (decide (d<g))) || (decide (d>(zY (g+1))))) || (decide (o<0)))) (by simp only[b3,b5,b7,b9,BL]) ?_
  exact hk
 have b9:(decide (d>(zY (g+1))))=false:=zQ c8
 refine N_bd 48 b9<| T_nd 3 [48] [(51,.bool (decide (o<0)))] ?_
 refine zq<| S_bd 51 (b:=(decide (o<0))) (v:=(((((decide (g<0)) || (decide (g>=4))) || (decide (d<g))) || (decide (d>(zY (g+1))))) || (decide (o<0)))) (by simp only[b3,b5,b7,b9,BL]) ?_
 exact hk
end trace_Start

/-! (*moraine/trace.Trace).End -/
namespace trace_Trace_End
def K0:=Func.code Tryz.f28
def K2:=cb K0
def K7:=ca K2
def K8:=cb K2
def K10:=cb K7
def K11:=ca K10
def K12:=ca K11
def K28:=ca K8
def K31:=cb K28
def K32:=ca K31
def K33:=ca K32
def K35:=cb K33
def K37:=cb K35
def K40:=ca K37
def K42:=ca K40
def K44:=cb K42
end trace_Trace_End
def trace_Trace_End.pt(tv:zW)(H:zV)(R:zk):Prop:=
 trace_Trace_none.C tv H (λv H1=> ∃x:Bool,v=.bool x/\
 if x=true then(
 R (.tuple #[]) H1)
 else
 ∃d:Addr,tv=some d/\
 ∃j:List Value,j.length=1024/\RowAt H1 (d.add 2) 0 j/\
 ∃(aa:zv) (m13:Int->zV->Nat),aa 0 H1/\ ∀(f:Int) (H2:zV),aa f H2->
 if f<1024 then(
 ∃s:Int,((0<=f/\f< (1024:Int))/\((j:List Value).toArray)[Int.toNat f]?=some (.int .i64 s))/\
 if s=1 then(
 ∃af:zW,hat H2 d=some (.pointer af)/\
 ∃ac:Addr,af=some ac/\
 ∃ab:zW,hat H2 ac=some (.pointer ab)/\
 ∃ae:Addr,ab=some ae/\
 ∃z:zW,hat H2 ae=some (.pointer z)/\
 space_Space_Give.C z f H2 (λaj H3=> ∃ak:Int,aj=.int .i64 ak/\
 (aa (zY (f+1)) H3/\m13 (zY (f+1)) H3<m13 f H2)))
 else
 (aa (zY (f+1)) H2/\m13 (zY (f+1)) H2<m13 f H2))
 else
 ∃(xB:zW) (xN xC:Nat),hat H2 (d.add 1028)=some (.slice xB xN xC)/\
 ∃(ag:zv) (m34:Int->zV->Nat),ag 0 H2/\ ∀(g:Int) (H4:zV),ag g H4->
 if g< (xN:Int)then(
 ∃l:Addr,xB=some l/\
 zw g xN/\
 ∃q m:Int,RowAt H4 (l.add (Int.toNat g*2)) 0 [.int .i64 q,.int .i64 m]/\
 ∀(b:Nat) (H5:zV),b=H4.size->H5=H4.push (.cells #[.int .i64 0,.int .i64 0] 132)->
 (CanPuts H5 (ad b) 0 2)/\ ∀H6,H6=hputs H5 (ad b) [.int .i64 q,.int .i64 m] 0->
 ∃ai:zW,hat H6 d=some (.pointer ai)/\
 ∃o:Addr,ai=some o/\
 ∃r:zW,hat H6 o=some (.pointer r)/\
 ∃p:Int,hat H6 (ad b)=some (.int .i64 p)/\
 ∃u:Int,hat H6 ((ad b).add 1)=some (.int .i64 u)/\
 card_Cards_Again.C r p u H6 (λal H7=> ∃ah:Int,al=.int .i64 ah/\
 (ag (zY (g+1)) H7/\m34 (zY (g+1)) H7<m34 g H4)))
 else
 ∃y:zW,hat H4 d=some (.pointer y)/\
 obj_Heap_Next.C y H4 (λ_ H8=>
 (CanPuts H8 (d.add 1029) 0 1)/\ ∀H9,H9=hputs H8 (d.add 1029) [.int .i64 1] 0->
 R (.tuple #[]) H9))
namespace trace_Trace_End
theorem link{tv:zW}{H:zV}{R:zk}(h:pt tv H R):C tv H R:=by
 refine T_en K0 61 Tryz.func28 ?_
 intro w0 Q hQ
 unfold pt zY at h
 refine T_su [(0,vp tv)]<| T_sz<| T_srz 0<| T_nd 1 [] [(6,vp tv)]<| T_c (some 7) h ?_;clear h
 rintro v H1 ⟨x,rfl,h⟩
 refine T_pd [6] [(7,.bool x)]<| T_e ?_
 by_cases c1:x=true
 ·rw[if_pos c1]at h
  exact T_cTz 7 c1<| T_ret [] [] hQ h
 rw[if_neg c1]at h
 refine T_cFz 7 (zZ c1)<| T_kt<| T_sz<| T_srz 1<| T_nd 1 [7] [(8,vp tv)] ?_
 obtain⟨d,rfl,h⟩:=h
 refine T_n 2 [(0,vp (some d)),(10,vp (some (d.add 2)))] ?_
 obtain⟨j,l4,q3,h⟩:=h
 refine T_v1 11 (loadN 124 (vp (some (d.add 2)))) (.agg (j).toArray) (loadN_run (loadOK_row (λ_=>by kernel_rfl) (λw=>by rw[l4];kernel_rfl) q3)) [10]<| T_ed 1 [] [(12,vi 0)]<| T_bz 0 ?_
 obtain⟨aa,m13,i5,i6⟩:=h
 refine S_loop (x:=K12) (σ:=Int) (λs_=> [(0,vp (some d)),(11,.agg (j).toArray),(12,vi s_)]) (λs_ H=>aa s_ H) (λs_ H=>m13 s_ H) (0:Int) (by kernel_rfl) i5 sk ?_
 rintro f H2 i7
 have h:=i6 f H2 i7
 refine T_su [(0,vp (some d)),(11,.agg (j).toArray),(12,vi f)]<| T_srz 2<| T_ed 1 [] [(13,.bool (decide (f<1024)))]<| T_sz ?_
 by_cases c8:f<1024
 ·rw[if_pos c8]at h
  refine T_cTz 13 (zX c8)<| T_kt<| T_sz<| T_bz 1<| T_srz 3<| T_nd 1 [13] [(14,vi f)] ?_
  obtain⟨s,q10,h⟩:=h
  refine T_v1 15 (indexN 124 (.agg (j).toArray) (vi f)) (vi s) (λw _=>indexAgg_run (P:=Tryz.prog) (t:=124) (elem:=3) (n:=1024) Tryz.underlying124 (λ_=>by kernel_rfl) (λ_=>by kernel_rfl) q10.1.1 q10.1.2 q10.2 w) []<| T_ed 2 [14,15] [(2,vi f),(3,vi s)]<| T_srz 4<| T_ed 2 [3] [(17,.bool (s==1))] ?_
  by_cases c11:s=1
  ·rw[if_pos c11]at h
   refine T_cTz 17 (zK c11)<| T_rz 5<| T_nd 3 [17] [(20,vp (some d))] ?_
   obtain⟨af,q13,h⟩:=h
   refine T_l1 21 22 q13 [20] ?_
   obtain⟨ac,rfl,h⟩:=h
   refine T_nd 2 [21] [(23,vp (some ac))] ?_
   obtain⟨ab,q14,h⟩:=h
   refine T_l1 24 26 q14 [23] ?_
   obtain⟨ae,rfl,h⟩:=h
   refine T_nd 2 [24] [(26,vp (some ae))] ?_
   obtain⟨z,q15,h⟩:=h
   refine T_l1 27 39 q15 [26]<| T_nd 1 [2] [(28,vi f)]<| T_c (some 29) h ?_;clear h
   rintro aj H3 ⟨ak,rfl,h⟩
   exact T_pd [27,28] []<| zq<| S_blockEnd<| S_then<| T_rz 6<| T_ed 2 [12] [(12,vi (zY (f+1)))]<| S_round ((zY (f+1)):Int) sk h
  rw[if_neg c11]at h
  exact T_cFz 17 (zJ c11)<| T_k<| S_blockEnd<| S_then<| T_rz 6<| T_ed 2 [2,12,17] [(12,vi (zY (f+1)))]<| S_round ((zY (f+1)):Int) sk h
 rw[if_neg c8]at h
 refine T_cFz 13 (zQ c8)<| zj 0<| S_exitThen<| S_exitThen<| S_exitHere<| S_then<| T_sz<| T_srz 7<| T_nd 3 [11,12,13] [(33,vp (some (d.add 1028)))] ?_
 obtain⟨xB,xN,xC,q16,h⟩:=h
 refine T_l1 34 125 q16 [33]<| T_ed 2 [] [(35,vi xN),(36,vi 0)]<| T_bz 2 ?_
 obtain⟨ag,m34,i17,i18⟩:=h
 refine S_loop (x:=K33) (σ:=Int) (λs_=> [(0,vp (some d)),(34,vs xB xN xC),(35,vi xN),(36,vi s_)]) (λs_ H=>ag s_ H) (λs_ H=>m34 s_ H) (0:Int) (by kernel_rfl) i17 sk ?_
 rintro g H4 i19
 have h:=i18 g H4 i19
 refine T_su [(0,vp (some d)),(34,vs xB xN xC),(35,vi xN),(36,vi g)]<| T_srz 8<| T_ed 1 [] [(37,.bool (decide (g< (xN:Int))))]<| T_sz ?_
 by_cases c20:g< (xN:Int)
 ·rw[if_pos c20]at h
  refine T_cTz 37 (zX c20)<| T_kt<| T_sz<| T_bz 3<| T_srz 9<| T_ud [37] [] ?_
  obtain⟨l,rfl,q22,h⟩:=h
  refine T_xd (some 38) 125 132 2 l xN xC .i64 g Tryz.underlying125 q22.1 q22.2 [34] [(34,vs (some l) xN xC),(38,vp (some (l.add (Int.toNat g*2))))] ?_
  obtain⟨q,m,q23,h⟩:=h
  refine T_lr 39 132 q23 [38]<| T_nw (some 5) (λb=>vp (pa b)) (.cells #[vi 0,vi 0] 132) ?_
  intro b H5 e24 e25
  replace h:=h b H5 e24 e25
  refine T_pd [] [(5,vp (pa b))] ?_
  obtain⟨q27,h⟩:=h
  refine T_sta 132 [vi q,vi m] q27 ?_
  intro H6 e26
  replace h:=h H6 e26
  refine T_pd [39] []<| T_e ?_
  obtain⟨ai,q28,o,rfl,r,q29,p,q30,u,q31,h⟩:=h
  refine yY 10 (Code.ops K44) [(11,d,[vp (some o)]),(11,o,[vp r]),(11,(ad b),[vi p]),(11,((ad b).add 1),[vi u])] 12 (bv 12 0) (show FactsAt _ _ _ from⟨⟨q28,trivial⟩,⟨q29,trivial⟩,⟨q30,trivial⟩,⟨q31,trivial⟩,trivial⟩)<| T_gp 0 (some 40) (vp (some d)) (bv 12 1) [(0,vp (some d)),(5,vp (pa b)),(34,vs (some l) xN xC),(35,vi xN),(36,vi g),(40,vp (some d))]<| T_gp1 1 41 (vp (some d)) (bv 12 3) [40]<| T_gp1 2 42 (vp (some d)) (bv 12 7) [41]<| T_g1 3 43 (vp (some o)) (bv 12 15) [42] (loadN 22 (vp (some d))) (yW 11 yZ)<| T_gp1 4 44 (vp (some o)) (bv 12 31) [43]<| T_gp1 5 45 (vp (some o)) (bv 12 63) [44]<| T_g1 6 46 (vp r) (bv 12 127) [45] (loadN 26 (vp (some o))) (yW 11 yX)<| T_gp1 7 47 (vp (pa b)) (bv 12 255) []<| T_g1 8 48 (vi p) (bv 12 511) [47] (loadN 3 (vp (pa b))) (yW 11 yQ)<| T_gp1 9 49 (vp (some ((ad b).add 1))) (bv 12 1023) [5]<| T_g1 10 50 (vi u) (bv 12 2047) [49] (loadN 3 (vp (some ((ad b).add 1)))) (yW 11 yJ)<| yq 11 (some 51) (bv 12 4095) 62 #[vp r,vi p,vi u] h ?_;clear h
  rintro al H7 ⟨ah,rfl,h⟩
  refine⟨[(0,vp (some d)),(34,vs (some l) xN xC),(35,vi xN),(36,vi g)],pk,(show FactsAt _ _ _ from⟨trivial,trivial,trivial,trivial,trivial⟩),?_⟩
  refine G_sub [(0,vp (some d)),(34,vs (some l) xN xC),(35,vi xN),(36,vi g)] sk ?_
  exact yx<| S_blockEnd<| S_then<| T_rz 11<| T_ne 2 [(0,vp (some d)),(34,vs (some l) xN xC),(35,vi xN),(36,vi (zY (g+1)))]<| S_round ((zY (g+1)):Int) sk h
 rw[if_neg c20]at h
 refine T_cFz 37 (zQ c20)<| zj 2<| S_exitThen<| S_exitThen<| S_exitHere<| S_then<| T_srz 12<| T_n 3 [(0,vp (some d)),(55,vp (some d))] ?_
 obtain⟨y,q32,h⟩:=h
 refine T_l1 56 22 q32 [55]<| T_c (some 57) h ?_;clear h
 intro v_4 H8 h
 refine T_pd [56] []<| T_e<| T_rz 13<| T_n 3 [(60,vp (some (d.add 1029)))] ?_
 obtain⟨q34,h⟩:=h
 refine T_st1 3 (vi 1) q34 ?_
 intro H9 e33
 replace h:=h H9 e33
 refine⟨[],pk,?_⟩
 exact zq<| S_doneN (fn:=Tryz.f28) [] hQ (show ResOK _ _ _ [] _ from .nil) h
theorem linkD{tv:zW}{H:zV}{R:zk}(h:pt tv H R):CD tv H (λH=> ∃v,R v H):=by
 refine S_enterD (fn:=Tryz.f28) (c:=K0) 61 Tryz.func28 (by kernel_rfl) (by kernel_rfl) (Nat.le_of_ble_eq_true (by kernel_rfl)) ?_
 intro w0 Q hQ
 unfold pt zY at h
 refine T_su [(0,vp tv)]<| T_sz<| T_srz 0<| T_nd 1 [] [(6,vp tv)]<| T_c (some 7) h ?_;clear h
 rintro v H1 ⟨x,rfl,h⟩
 refine T_pd [6] [(7,.bool x)]<| T_e ?_
 by_cases c1:x=true
 ·rw[if_pos c1]at h
  refine T_cTz 7 c1<| zx ?_
  show At _ _ _ _ _ (Q .ret)
  exact S_done0 (fn:=Tryz.f28) [] hQ (show ResOK _ _ _ [] _ from .nil) h
 rw[if_neg c1]at h
 refine T_cFz 7 (zZ c1)<| T_kt<| T_sz<| T_srz 1<| T_nd 1 [7] [(8,vp tv)] ?_
 obtain⟨d,rfl,h⟩:=h
 refine T_n 2 [(0,vp (some d)),(10,vp (some (d.add 2)))] ?_
 obtain⟨j,l4,q3,h⟩:=h
 refine T_v1 11 (loadN 124 (vp (some (d.add 2)))) (.agg (j).toArray) (loadN_run (loadOK_row (λ_=>by kernel_rfl) (λw=>by rw[l4];kernel_rfl) q3)) [10]<| T_ed 1 [] [(12,vi 0)]<| T_bz 0 ?_
 obtain⟨aa,m13,i5,i6⟩:=h
 refine S_loop (x:=K12) (σ:=Int) (λs_=> [(0,vp (some d)),(11,.agg (j).toArray),(12,vi s_)]) (λs_ H=>aa s_ H) (λs_ H=>m13 s_ H) (0:Int) (by kernel_rfl) i5 sk ?_
 rintro f H2 i7
 have h:=i6 f H2 i7
 refine T_su [(0,vp (some d)),(11,.agg (j).toArray),(12,vi f)]<| T_srz 2<| T_ed 1 [] [(13,.bool (decide (f<1024)))]<| T_sz ?_
 by_cases c8:f<1024
 ·rw[if_pos c8]at h
  refine T_cTz 13 (zX c8)<| T_kt<| T_sz<| T_bz 1<| T_srz 3<| T_nd 1 [13] [(14,vi f)] ?_
  obtain⟨s,q10,h⟩:=h
  refine T_v1 15 (indexN 124 (.agg (j).toArray) (vi f)) (vi s) (λw _=>indexAgg_run (P:=Tryz.prog) (t:=124) (elem:=3) (n:=1024) Tryz.underlying124 (λ_=>by kernel_rfl) (λ_=>by kernel_rfl) q10.1.1 q10.1.2 q10.2 w) []<| T_ed 2 [14,15] [(2,vi f),(3,vi s)]<| T_srz 4<| T_ed 2 [3] [(17,.bool (s==1))] ?_
  by_cases c11:s=1
  ·rw[if_pos c11]at h
   refine T_cTz 17 (zK c11)<| T_rz 5<| T_nd 3 [17] [(20,vp (some d))] ?_
   obtain⟨af,q13,h⟩:=h
   refine T_l1 21 22 q13 [20] ?_
   obtain⟨ac,rfl,h⟩:=h
   refine T_nd 2 [21] [(23,vp (some ac))] ?_
   obtain⟨ab,q14,h⟩:=h
   refine T_l1 24 26 q14 [23] ?_
   obtain⟨ae,rfl,h⟩:=h
   refine T_nd 2 [24] [(26,vp (some ae))] ?_
   obtain⟨z,q15,h⟩:=h
   refine T_l1 27 39 q15 [26]<| T_nd 1 [2] [(28,vi f)]<| T_c (some 29) h ?_;clear h
   rintro aj H3 ⟨ak,rfl,h⟩
   exact T_pd [27,28] []<| zq<| S_blockEnd<| S_then<| T_rz 6<| T_ed 2 [12] [(12,vi (zY (f+1)))]<| S_round ((zY (f+1)):Int) sk h
  rw[if_neg c11]at h
  exact T_cFz 17 (zJ c11)<| T_k<| S_blockEnd<| S_then<| T_rz 6<| T_ed 2 [2,12,17] [(12,vi (zY (f+1)))]<| S_round ((zY (f+1)):Int) sk h
 rw[if_neg c8]at h
 refine T_cFz 13 (zQ c8)<| zj 0<| S_exitThen<| S_exitThen<| S_exitHere<| S_then<| T_sz<| T_srz 7<| T_nd 3 [11,12,13] [(33,vp (some (d.add 1028)))] ?_
 obtain⟨xB,xN,xC,q16,h⟩:=h
 refine T_l1 34 125 q16 [33]<| T_ed 2 [] [(35,vi xN),(36,vi 0)]<| T_bz 2 ?_
 obtain⟨ag,m34,i17,i18⟩:=h
 refine S_loop (x:=K33) (σ:=Int) (λs_=> [(0,vp (some d)),(34,vs xB xN xC),(35,vi xN),(36,vi s_)]) (λs_ H=>ag s_ H) (λs_ H=>m34 s_ H) (0:Int) (by kernel_rfl) i17 sk ?_
 rintro g H4 i19
 have h:=i18 g H4 i19
 refine T_su [(0,vp (some d)),(34,vs xB xN xC),(35,vi xN),(36,vi g)]<| T_srz 8<| T_ed 1 [] [(37,.bool (decide (g< (xN:Int))))]<| T_sz ?_
 by_cases c20:g< (xN:Int)
 ·rw[if_pos c20]at h
  refine T_cTz 37 (zX c20)<| T_kt<| T_sz<| T_bz 3<| T_srz 9<| T_ud [37] [] ?_
  obtain⟨l,rfl,q22,h⟩:=h
  refine T_xd (some 38) 125 132 2 l xN xC .i64 g Tryz.underlying125 q22.1 q22.2 [34] [(34,vs (some l) xN xC),(38,vp (some (l.add (Int.toNat g*2))))] ?_
  obtain⟨q,m,q23,h⟩:=h
  refine T_lr 39 132 q23 [38]<| T_nw (some 5) (λb=>vp (pa b)) (.cells #[vi 0,vi 0] 132) ?_
  intro b H5 e24 e25
  replace h:=h b H5 e24 e25
  refine T_pd [] [(5,vp (pa b))] ?_
  obtain⟨q27,h⟩:=h
  refine T_sta 132 [vi q,vi m] q27 ?_
  intro H6 e26
  replace h:=h H6 e26
  refine T_pd [39] []<| T_e ?_
  obtain⟨ai,q28,o,rfl,r,q29,p,q30,u,q31,h⟩:=h
  refine yY 10 (Code.ops K44) [(11,d,[vp (some o)]),(11,o,[vp r]),(11,(ad b),[vi p]),(11,((ad b).add 1),[vi u])] 12 (bv 12 0) (show FactsAt _ _ _ from⟨⟨q28,trivial⟩,⟨q29,trivial⟩,⟨q30,trivial⟩,⟨q31,trivial⟩,trivial⟩)<| T_gp 0 (some 40) (vp (some d)) (bv 12 1) [(0,vp (some d)),(5,vp (pa b)),(34,vs (some l) xN xC),(35,vi xN),(36,vi g),(40,vp (some d))]<| T_gp1 1 41 (vp (some d)) (bv 12 3) [40]<| T_gp1 2 42 (vp (some d)) (bv 12 7) [41]<| T_g1 3 43 (vp (some o)) (bv 12 15) [42] (loadN 22 (vp (some d))) (yW 11 yZ)<| T_gp1 4 44 (vp (some o)) (bv 12 31) [43]<| T_gp1 5 45 (vp (some o)) (bv 12 63) [44]<| T_g1 6 46 (vp r) (bv 12 127) [45] (loadN 26 (vp (some o))) (yW 11 yX)<| T_gp1 7 47 (vp (pa b)) (bv 12 255) []<| T_g1 8 48 (vi p) (bv 12 511) [47] (loadN 3 (vp (pa b))) (yW 11 yQ)<| T_gp1 9 49 (vp (some ((ad b).add 1))) (bv 12 1023) [5]<| T_g1 10 50 (vi u) (bv 12 2047) [49] (loadN 3 (vp (some ((ad b).add 1)))) (yW 11 yJ)<| yq 11 (some 51) (bv 12 4095) 62 #[vp r,vi p,vi u] h ?_;clear h
  rintro al H7 ⟨ah,rfl,h⟩
  refine⟨[(0,vp (some d)),(34,vs (some l) xN xC),(35,vi xN),(36,vi g)],pk,(show FactsAt _ _ _ from⟨trivial,trivial,trivial,trivial,trivial⟩),?_⟩
  refine G_sub [(0,vp (some d)),(34,vs (some l) xN xC),(35,vi xN),(36,vi g)] sk ?_
  exact yx<| S_blockEnd<| S_then<| T_rz 11<| T_ne 2 [(0,vp (some d)),(34,vs (some l) xN xC),(35,vi xN),(36,vi (zY (g+1)))]<| S_round ((zY (g+1)):Int) sk h
 rw[if_neg c20]at h
 refine T_cFz 37 (zQ c20)<| zj 2<| S_exitThen<| S_exitThen<| S_exitHere<| S_then<| T_srz 12<| T_n 3 [(0,vp (some d)),(55,vp (some d))] ?_
 obtain⟨y,q32,h⟩:=h
 refine T_l1 56 22 q32 [55]<| T_c (some 57) h ?_;clear h
 intro v_4 H8 h
 refine T_pd [56] []<| T_e<| T_rz 13<| T_n 3 [(60,vp (some (d.add 1029)))] ?_
 obtain⟨q34,h⟩:=h
 refine T_st1 3 (vi 1) q34 ?_
 intro H9 e33
 replace h:=h H9 e33
 refine⟨[],pk,?_⟩
 exact zq<| S_doneN0 (fn:=Tryz.f28) [] hQ (show ResOK _ _ _ [] _ from .nil) h
end trace_Trace_End

/-! (*moraine/trace.Trace).Visit -/
namespace trace_Trace_Visit
def K0:=Func.code Tryz.f29
def K2:=cb K0
def K4:=cb K2
def K10:=cb K4
def K20:=cb K10
def K22:=cb K20
def K30:=cb K22
def K32:=cb K30
def K33:=ca K32
def K34:=cb K32
def K36:=cb K34
def K41:=ca K36
def K44:=cb K41
def K45:=ca K44
def K46:=ca K45
end trace_Trace_Visit
def trace_Trace_Visit.pt(tv:zW)(wv:Int)(H:zV)(R:zk):Prop:=
 trace_Trace_Old.C tv wv H (λv H1=> ∃x:Bool,v=.bool x/\
 if x=true then(
 trace_Trace_moved.C tv wv H1 (λbq H2=> ∃(ra:Int) (rb:Bool),bq=.tuple #[.int .u64 ra,.bool rb]/\
 if rb=true then(
 R (.int .u64 ra) H2)
 else
 ∃d:Addr,tv=some d/\
 ∃az:zW,hat H2 d=some (.pointer az)/\
 obj_Heap_Size.C az wv H2 (λbw H3=> ∃g:Int,bw=.int .i64 g/\
 if g=0 then(
 R (.int .u64 wv) H3)
 else
 word_Addr.C wv H3 (λbu H4=> ∃(a:Int) (bh:Bool),bu=.tuple #[.int .i64 a,.bool bh]/\
 ∃bc:zW,hat H4 d=some (.pointer bc)/\
 ∃ba:Addr,bc=some ba/\
 ∃a7:zW,hat H4 ba=some (.pointer a7)/\
 ∃a8:Addr,a7=some a8/\
 ∃a9:zW,hat H4 a8=some (.pointer a9)/\
 ∃bb:Addr,a9=some bb/\
 ∃al:zW,hat H4 bb=some (.pointer al)/\
 seg_Mem_Seg.C al (zY (Int.tdiv a 64)) H4 (λb0 H5=> ∃(s q af k l j m:Int) (ag:Bool),b0=.tuple #[.agg #[.int .i64 s,.int .i64 q,.int .i64 af,.int .i64 k,.int .i64 l,.int .i64 j,.int .i64 m],.bool ag]/\
 ∀(b:Nat) (H6:zV),b=H5.size->H6=H5.push (.cells #[.int .i64 0,.int .i64 0,.int .i64 0,.int .i64 0,.int .i64 0,.int .i64 0,.int .i64 0] 76)->
 (CanPuts H6 (ad b) 0 7)/\ ∀H7,H7=hputs H6 (ad b) [.int .i64 s,.int .i64 q,.int .i64 af,.int .i64 k,.int .i64 l,.int .i64 j,.int .i64 m] 0->
 ∃bn:zW,hat H7 d=some (.pointer bn)/\
 ∃u:Addr,bn=some u/\
 ∃bi:zW,hat H7 u=some (.pointer bi)/\
 ∃t:Addr,bi=some t/\
 ∃r:zW,hat H7 t=some (.pointer r)/\
 ∃y:Int,hat H7 (d.add 1)=some (.int .i64 y)/\
 ∃z:Int,hat H7 ((ad b).add 1)=some (.int .i64 z)/\
 space_Space_Alloc.C r y z g H7 (λbr H8=> ∃f n:Int,br=.tuple #[.int .i64 f,.int .i64 n]/\
 if n=0 then(
 ∃(bd:zv) (m47:Int->zV->Nat),bd 0 H8/\ ∀(i:Int) (H9:zV),bd i H9->
 if i<g then(
 ∃a0:zW,hat H9 d=some (.pointer a0)/\
 ∃av:Addr,a0=some av/\
 ∃ap:zW,hat H9 av=some (.pointer ap)/\
 ∃ao:Addr,ap=some ao/\
 ∃au:zW,hat H9 ao=some (.pointer au)/\
 ∃aw:Addr,au=some aw/\
 ∃ac:zW,hat H9 aw=some (.pointer ac)/\
 seg_Mem_Read.C ac (zY (a+i)) H9 (λbz a5=> ∃p bf:Int,bz=.tuple #[.int .u64 p,.int .i64 bf]/\
 ∃am:zW,hat a5 d=some (.pointer am)/\
 ∃ai:Addr,am=some ai/\
 ∃a3:zW,hat a5 ai=some (.pointer a3)/\
 ∃a2:Addr,a3=some a2/\
 ∃a4:zW,hat a5 a2=some (.pointer a4)/\
 ∃ay:Addr,a4=some ay/\
 ∃ab:zW,hat a5 ay=some (.pointer ab)/\
 seg_Mem_Write.C ab (zY (f+i)) p a5 (λb1 bk=> ∃bl:Int,b1=.int .i64 bl/\
 (bd (zY (i+1)) bk/\m47 (zY (i+1)) bk<m47 i H9))))
 else
 word_At.C 6 f H9 (λb3 a6=> ∃o bg:Int,b3=.tuple #[.int .u64 o,.int .i64 bg]/\
 ∃aq:zW,hat a6 d=some (.pointer aq)/\
 ∃aj:Addr,aq=some aj/\
 ∃an:zW,hat a6 aj=some (.pointer an)/\
 ∃ax:Addr,an=some ax/\
 ∃a1:zW,hat a6 ax=some (.pointer a1)/\
 ∃ak:Addr,a1=some ak/\
 ∃ae:zW,hat a6 ak=some (.pointer ae)/\
 seg_Mem_Write.C ae a o a6 (λbj bt=> ∃bo:Int,bj=.int .i64 bo/\
 word_Tag.C wv bt (λbm bx=> ∃ah:Int,bm=.int .i64 ah/\
 word_At.C ah f bx (λbp bs=> ∃aa be:Int,bp=.tuple #[.int .u64 aa,.int .i64 be]/\
 R (.int .u64 aa) bs)))))
 else
 R (.int .u64 wv) H8))))))
 else
 R (.int .u64 wv) H1)
namespace trace_Trace_Visit
theorem link{tv:zW}{wv:Int}{H:zV}{R:zk}(h:pt tv wv H R):C tv wv H R:=by
 refine T_en K0 163 Tryz.func29 ?_
 intro w0 Q hQ
 unfold pt zY at h
 refine T_su [(0,vp tv),(1,vu wv)]<| T_srz 0<| T_ed 1 [] []<| T_sz<| T_srz 1<| T_nd 2 [] [(21,vp tv),(22,vu wv)]<| T_c (some 23) h ?_;clear h
 rintro v H1 ⟨x,rfl,h⟩
 refine T_pd [21,22] [(23,.bool x)]<| T_ed 1 [23] [(24,.bool (!x))] ?_
 by_cases c1:x=true
 ·rw[if_pos c1]at h
  refine T_cFz 24 (congrArg Bool.not (c1))<| T_kt<| T_sz<| T_srz 3<| T_nd 2 [24] [(27,vp tv),(28,vu wv)]<| T_c (some 29) h ?_;clear h
  rintro bq H2 ⟨ra,rb,rfl,h⟩
  refine T_pd [27,28] [(29,.tuple #[vu ra,.bool rb])]<| T_ed 5 [29] [(5,vu ra),(6,.bool rb)]<| T_srz 4<| T_ed 1 [6] [(32,.bool rb)] ?_
  by_cases c3:rb=true
  ·rw[if_pos c3]at h
   exact T_cTz 32 c3<| T_srz 5<| T_nr 2 [4] [vu ra] hQ h
  rw[if_neg c3]at h
  refine T_cFz 32 (zZ c3)<| T_kt<| T_srz 6<| T_nd 1 [5,32] [(34,vp tv)] ?_
  obtain⟨d,rfl,h⟩:=h
  refine T_nd 2 [0,34] [(0,vp (some d)),(36,vp (some d))] ?_
  obtain⟨az,q5,h⟩:=h
  refine T_l1 37 22 q5 [36]<| T_nd 1 [] [(38,vu wv)]<| T_c (some 39) h ?_;clear h
  rintro bw H3 ⟨g,rfl,h⟩
  refine T_pd [37,38] [(39,vi g)]<| T_ed 1 [39] [(7,vi g)]<| T_sz<| T_srz 7<| T_ed 2 [] [(41,.bool (g==0))] ?_
  by_cases c6:g=0
  ·rw[if_pos c6]at h
   exact T_cTz 41 (zK c6)<| T_srz 8<| T_nr 2 [4] [vu wv] hQ h
  rw[if_neg c6]at h
  refine T_cFz 41 (zJ c6)<| T_kt<| T_srz 9<| T_nd 1 [41] [(44,vu wv)]<| T_c (some 45) h ?_;clear h
  rintro bu H4 ⟨a,bh,rfl,h⟩
  refine T_pd [44] [(45,.tuple #[vi a,.bool bh])]<| T_ed 5 [45] [(8,vi a)]<| T_srz 10<| T_nd 3 [] [(51,vp (some d))] ?_
  obtain⟨bc,q8,h⟩:=h
  refine T_l1 52 22 q8 [51] ?_
  obtain⟨ba,rfl,h⟩:=h
  refine T_nd 2 [52] [(54,vp (some ba))] ?_
  obtain⟨a7,q9,h⟩:=h
  refine T_l1 55 26 q9 [54] ?_
  obtain⟨a8,rfl,h⟩:=h
  refine T_nd 2 [55] [(57,vp (some a8))] ?_
  obtain⟨a9,q10,h⟩:=h
  refine T_l1 58 39 q10 [57] ?_
  obtain⟨bb,rfl,h⟩:=h
  refine T_nd 2 [58] [(60,vp (some bb))] ?_
  obtain⟨al,q11,h⟩:=h
  refine T_l1 61 69 q11 [60]<| T_nd 2 [] [(63,vi (zY (Int.tdiv a 64)))]<| T_c (some 64) h ?_;clear h
  rintro b0 H5 ⟨s,q,af,k,l,j,m,ag,rfl,h⟩
  refine T_pd [61,63] [(64,.tuple #[.agg #[vi s,vi q,vi af,vi k,vi l,vi j,vi m],.bool ag])]<| T_nd 3 [64] [(65,.agg #[vi s,vi q,vi af,vi k,vi l,vi j,vi m]),(66,.bool ag)]<| T_nw (some 10) (λb=>vp (pa b)) (.cells #[vi 0,vi 0,vi 0,vi 0,vi 0,vi 0,vi 0] 76) ?_
  intro b H6 e12 e13
  replace h:=h b H6 e12 e13
  refine T_pd [] [(10,vp (pa b))] ?_
  obtain⟨q15,h⟩:=h
  refine T_sta 76 [vi s,vi q,vi af,vi k,vi l,vi j,vi m] q15 ?_
  intro H7 e14
  replace h:=h H7 e14
  refine T_pd [65] []<| T_ed 1 [66] []<| T_sz ?_
  obtain⟨bn,q16,u,rfl,bi,q17,t,rfl,r,q18,y,q19,z,q20,h⟩:=h
  refine yY 11 (Code.ops K33) [(17,d,[vp (some u)]),(17,u,[vp (some t)]),(17,t,[vp r]),(17,(d.add 1),[vi y]),(17,((ad b).add 1),[vi z])] 23 (bv 23 0) (show FactsAt _ _ _ from⟨⟨q16,trivial⟩,⟨q17,trivial⟩,⟨q18,trivial⟩,⟨q19,trivial⟩,⟨q20,trivial⟩,trivial⟩)<| T_gp 0 (some 68) (vp (some d)) (bv 23 1) [(0,vp (some d)),(1,vu wv),(7,vi g),(8,vi a),(10,vp (pa b)),(68,vp (some d))]<| T_gp1 1 69 (vp (some d)) (bv 23 3) [68]<| T_gp1 2 70 (vp (some d)) (bv 23 7) [69]<| T_g1 3 71 (vp (some u)) (bv 23 15) [70] (loadN 22 (vp (some d))) (yW 17 yZ)<| T_gp1 4 72 (vp (some u)) (bv 23 31) [71]<| T_gp1 5 73 (vp (some u)) (bv 23 63) [72]<| T_g1 6 74 (vp (some t)) (bv 23 127) [73] (loadN 26 (vp (some u))) (yW 17 yX)<| T_gp1 7 75 (vp (some t)) (bv 23 255) [74]<| T_gp1 8 76 (vp (some t)) (bv 23 511) [75]<| T_g1 9 77 (vp r) (bv 23 1023) [76] (loadN 39 (vp (some t))) (yW 17 yQ)<| T_gp1 10 78 (vp (some d)) (bv 23 2047) []<| T_gp1 11 79 (vp (some d)) (bv 23 4095) [78]<| T_gp1 12 80 (vp (some (d.add 1))) (bv 23 8191) [79]<| T_g1 13 81 (vi y) (bv 23 16383) [80] (loadN 3 (vp (some (d.add 1)))) (yW 17 yJ)<| T_gp1 14 82 (vp (some ((ad b).add 1))) (bv 23 32767) [10]<| T_g1 15 83 (vi z) (bv 23 65535) [82] (loadN 3 (vp (some ((ad b).add 1)))) (yW 17 yK)<| T_gp1 16 84 (vi g) (bv 23 131071) []<| yq 17 (some 85) (bv 23 262143) 66 #[vp r,vi y,vi z,vi g] h ?_;clear h
  rintro br H8 ⟨f,n,rfl,h⟩
  refine⟨[(0,vp (some d)),(1,vu wv),(7,vi g),(8,vi a),(85,.tuple #[vi f,vi n])],pk,(show FactsAt _ _ _ from⟨trivial,trivial,trivial,trivial,trivial,trivial⟩),?_⟩
  refine T_g 18 (some 67) (.tuple #[vi f,vi n]) (bv 23 524287) [(0,vp (some d)),(1,vu wv),(7,vi g),(8,vi a),(67,.tuple #[vi f,vi n])] (pure (.value (.tuple #[vi f,vi n])):Sem Next) (λ_ _ _ _ _=>rfl)<| T_g1 19 86 (vi f) (bv 23 1048575) [] (pure (.value (vi f)):Sem Next) (λ_ _ _ _ _=>rfl)<| T_g1 20 87 (vi n) (bv 23 2097151) [67] (pure (.value (vi n)):Sem Next) (λ_ _ _ _ _=>rfl)<| T_g1 21 12 (vi f) (bv 23 4194303) [86] (pure (.value (vi f)):Sem Next) (λ_ _ _ _ _=>rfl)<| T_g1 22 13 (vi n) (bv 23 8388607) [87] (pure (.value (vi n)):Sem Next) (λ_ _ _ _ _=>rfl)<| G_sub [(0,vp (some d)),(1,vu wv),(7,vi g),(8,vi a),(12,vi f),(13,vi n)] sk<| yx<| S_then<| T_sz<| T_srz 12<| T_ne 2 [(0,vp (some d)),(1,vu wv),(7,vi g),(8,vi a),(12,vi f),(89,.bool (n !=0))] ?_
  by_cases c21:n=0
  ·rw[if_pos c21]at h
   refine T_cFz 89 (bne_eq_false_iff_eq.mpr c21)<| T_kt<| T_sz<| T_srz 14<| T_ed 2 [7,89] [(91,vi g),(92,vi 0)]<| T_bz 0 ?_
   obtain⟨bd,m47,i23,i24⟩:=h
   refine S_loop (x:=K46) (σ:=Int) (λs_=> [(0,vp (some d)),(1,vu wv),(8,vi a),(12,vi f),(91,vi g),(92,vi s_)]) (λs_ H=>bd s_ H) (λs_ H=>m47 s_ H) (0:Int) (by kernel_rfl) i23 sk ?_
   rintro i H9 i25
   have h:=i24 i H9 i25
   refine T_su [(0,vp (some d)),(1,vu wv),(8,vi a),(12,vi f),(91,vi g),(92,vi i)]<| T_srz 15<| T_ed 1 [] [(93,.bool (decide (i<g)))]<| T_sz ?_
   by_cases c26:i<g
   ·rw[if_pos c26]at h
    refine T_cTz 93 (zX c26)<| T_kt<| T_sz<| T_bz 1<| T_srz 16<| T_ed 2 [93] [(14,vi i)]<| T_srz 17<| T_nd 3 [] [(98,vp (some d))] ?_
    obtain⟨a0,q28,h⟩:=h
    refine T_l1 99 22 q28 [98] ?_
    obtain⟨av,rfl,h⟩:=h
    refine T_nd 2 [99] [(101,vp (some av))] ?_
    obtain⟨ap,q29,h⟩:=h
    refine T_l1 102 26 q29 [101] ?_
    obtain⟨ao,rfl,h⟩:=h
    refine T_nd 2 [102] [(104,vp (some ao))] ?_
    obtain⟨au,q30,h⟩:=h
    refine T_l1 105 39 q30 [104] ?_
    obtain⟨aw,rfl,h⟩:=h
    refine T_nd 2 [105] [(107,vp (some aw))] ?_
    obtain⟨ac,q31,h⟩:=h
    refine T_l1 108 69 q31 [107]<| T_nd 3 [] [(111,vi (zY (a+i)))]<| T_c (some 112) h ?_;clear h
    rintro bz a5 ⟨p,bf,rfl,h⟩
    refine T_pd [108,111] [(112,.tuple #[vu p,vi bf])]<| T_ed 5 [112] [(15,vu p)]<| T_rz 18<| T_nd 3 [] [(117,vp (some d))] ?_
    obtain⟨am,q32,h⟩:=h
    refine T_l1 118 22 q32 [117] ?_
    obtain⟨ai,rfl,h⟩:=h
    refine T_nd 2 [118] [(120,vp (some ai))] ?_
    obtain⟨a3,q33,h⟩:=h
    refine T_l1 121 26 q33 [120] ?_
    obtain⟨a2,rfl,h⟩:=h
    refine T_nd 2 [121] [(123,vp (some a2))] ?_
    obtain⟨a4,q34,h⟩:=h
    refine T_l1 124 39 q34 [123] ?_
    obtain⟨ay,rfl,h⟩:=h
    refine T_nd 2 [124] [(126,vp (some ay))] ?_
    obtain⟨ab,q35,h⟩:=h
    refine T_l1 127 69 q35 [126]<| T_nd 4 [14,15] [(130,vi (zY (f+i))),(131,vu p)]<| T_c (some 132) h ?_;clear h
    rintro b1 bk ⟨bl,rfl,h⟩
    exact T_pd [127,130,131] []<| zq<| S_blockEnd<| S_then<| T_rz 19<| T_ed 2 [92] [(92,vi (zY (i+1)))]<| S_round ((zY (i+1)):Int) sk h
   rw[if_neg c26]at h
   refine T_cFz 93 (zQ c26)<| zj 0<| S_exitThen<| S_exitThen<| S_exitHere<| S_then<| T_srz 20<| T_nd 1 [91,92,93] [(135,vi f)]<| T_c (some 136) h ?_;clear h
   rintro b3 a6 ⟨o,bg,rfl,h⟩
   refine T_pd [135] [(136,.tuple #[vu o,vi bg])]<| T_ed 5 [136] [(17,vu o)]<| T_srz 21<| T_nd 3 [0] [(141,vp (some d))] ?_
   obtain⟨aq,q36,h⟩:=h
   refine T_l1 142 22 q36 [141] ?_
   obtain⟨aj,rfl,h⟩:=h
   refine T_nd 2 [142] [(144,vp (some aj))] ?_
   obtain⟨an,q37,h⟩:=h
   refine T_l1 145 26 q37 [144] ?_
   obtain⟨ax,rfl,h⟩:=h
   refine T_nd 2 [145] [(147,vp (some ax))] ?_
   obtain⟨a1,q38,h⟩:=h
   refine T_l1 148 39 q38 [147] ?_
   obtain⟨ak,rfl,h⟩:=h
   refine T_nd 2 [148] [(150,vp (some ak))] ?_
   obtain⟨ae,q39,h⟩:=h
   refine T_l1 151 69 q39 [150]<| T_nd 2 [8,17] [(152,vi a),(153,vu o)]<| T_c (some 154) h ?_;clear h
   rintro bj bt ⟨bo,rfl,h⟩
   refine T_pd [151,152,153] []<| T_e<| T_srz 22<| T_nd 1 [1] [(156,vu wv)]<| T_c (some 157) h ?_;clear h
   rintro bm bx ⟨ah,rfl,h⟩
   refine T_pd [156] [(157,vi ah)]<| T_nd 1 [12] [(158,vi f)]<| T_c (some 159) h ?_;clear h
   rintro bp bs ⟨aa,be,rfl,h⟩
   refine⟨[(159,.tuple #[vu aa,vi be])],pk,?_⟩
   exact T_ne 5 [(19,vu aa)]<| T_srz 23<| T_nr 2 [4] [vu aa] hQ h
  rw[if_neg c21]at h
  exact T_cTz 89 (bne_iff_ne.mpr c21)<| T_srz 13<| T_nr 2 [4] [vu wv] hQ h
 rw[if_neg c1]at h
 exact T_cTz 24 (congrArg Bool.not (zZ c1))<| T_srz 2<| T_nr 2 [4] [vu wv] hQ h
end trace_Trace_Visit

