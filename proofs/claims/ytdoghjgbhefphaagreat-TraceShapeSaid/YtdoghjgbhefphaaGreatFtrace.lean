/- Printed: what each function asks, and that it is sound. -/
import Derived.Test.YtdoghjgbhefphaaGreatFnsC
set_option linter.unusedSimpArgs false
set_option linter.unusedVariables false
set_option maxRecDepth 100000
set_option maxHeartbeats 1000000
noncomputable section
namespace Go.Proofs.YtdoghjgbhefphaaGreat
open Go
/-! moraine/trace.Start -/
namespace trace_Start
def K0:=Func.code Tryz.f32
def K2:=cb K0
def K4:=cb K2
def K12:=cb K4
def K13:=ca K12
def K14:=cb K12
def K16:=cb K13
def K17:=ca K16
def K18:=ca K17
def K31:=cb K14
def K33:=cb K31
def K41:=cb K33
def K42:=ca K41
def K43:=cb K41
def K45:=cb K42
def K46:=ca K45
def K47:=ca K46
def K59:=ca K43
def K62:=cb K59
def K63:=ca K62
def K64:=ca K63
def K66:=cb K64
def K68:=cb K66
def K71:=ca K68
def K73:=ca K71
def K75:=cb K73
def K77:=cb K75
end trace_Start
def trace_Start.pt(hv:Option Addr)(g d o:Int)(H:Array Obj)(R:Value->Array Obj->Prop):Prop:=
 onPtr hv (
 R (.tuple #[.pointer none,.int .i64 1]) H) (λj=>
 ∃x:Option Addr,hat H j=some (.pointer x)/\
 onPtr x (
 R (.tuple #[.pointer none,.int .i64 1]) H) (λxA=>
 if(((((decide (g<0)) || (decide (g>=4))) || (decide (d<g))) || (decide (d>(IntKind.wrap .i64 (g+1))))) || (decide (o<0)))=true then(
 R (.tuple #[.pointer none,.int .i64 1]) H)
 else
 ∃(b2:(Option Addr)->Nat->Nat->Int->Array Obj->Prop) (m19:(Option Addr)->Nat->Nat->Int->Array Obj->Nat),b2 none 0 0 0 H/\ ∀(f:Option Addr) (gensN:Nat) (gensC:Nat) (s54:Int) (H1:Array Obj),b2 f gensN gensC s54 H1->
 if s54< (IntKind.wrap .i64 (g+1))then(
 ∀(b:Nat) (H2:Array Obj),b=H1.size->H2=H1.push (.cells #[.int .i64 s54] 3)->
 appendK 1 3 8 [.int .i64 0] f gensN gensC (some (ad b)) 1 H2 (λap bj H3=>
 (b2 ap (gensN+1) bj (IntKind.wrap .i64 (s54+1)) H3/\m19 ap (gensN+1) bj (IntKind.wrap .i64 (s54+1)) H3<m19 f gensN gensC s54 H1)))
 else
 ∃b6:Option Addr,hat H1 j=some (.pointer b6)/\
 ∃b4:Addr,b6=some b4/\
 ∃bs:Option Addr,hat H1 b4=some (.pointer bs)/\
 ∃bu:Addr,bs=some bu/\
 ∃bb:Option Addr,hat H1 bu=some (.pointer bb)/\
 seg_Mem_Taken.C bb f gensN gensC H1 (λv H4=> ∃(xB:Option Addr) (xN xC:Nat),v=.slice xB xN xC/\
 ∃bw:Option Addr,hat H4 j=some (.pointer bw)/\
 ∃bx:Addr,bw=some bx/\
 ∃bz:Option Addr,hat H4 bx=some (.pointer bz)/\
 ∃br:Addr,bz=some br/\
 ∃bp:Option Addr,hat H4 br=some (.pointer bp)/\
 seg_Mem_Free.C bp H4 (λch H5=> ∃a5:Int,ch=.int .i64 a5/\
 if(IntKind.wrap .i64 ((IntKind.wrap .i64 (a5-(IntKind.wrap .i64 (2*(xN:Int)))))-8))<o then(
 R (.tuple #[.pointer none,.int .i64 2]) H5)
 else
 ∀(a6:Nat) (H6:Array Obj),a6=H5.size->H6=H5.push (.map #[] 0)->
 ∀(bc:Nat) (H7:Array Obj),bc=H6.size->H7=H6.push (.map #[] 0)->
 ∀(m:Nat) (H8:Array Obj),m=H7.size->H8=H7.push (.cells ([.pointer (some j),.int .i64 d]++List.replicate 1024 (.int .i64 0)++[.map (some a6),.map (some bc),.slice none 0 0,.int .i64 0]:List Value).toArray 190)->
 ∃(b1:Int->Array Obj->Prop) (m48:Int->Array Obj->Nat),b1 0 H8/\ ∀(y:Int) (H9:Array Obj),b1 y H9->
 if y< (xN:Int)then(
 ∃aq:Addr,xB=some aq/\
 ((0:Int)<=y/\y< (xN:Int))/\
 ∃am:Int,hat H9 (aq.add (Int.toNat y*1))=some (.int .i64 am)/\
 ((0:Int)<=am/\am< (1024:Int))/\
 (CanPuts H9 (((ad m).add 2).add (Int.toNat am*1)) 0 1)/\ ∀b0,b0=hputs H9 (((ad m).add 2).add (Int.toNat am*1)) [.int .i64 1] 0->
 (b1 (IntKind.wrap .i64 (y+1)) b0/\m48 (IntKind.wrap .i64 (y+1)) b0<m48 y H9))
 else
 ∃a7:Option Addr,hat H9 j=some (.pointer a7)/\
 ∃ba:Addr,a7=some ba/\
 ∃bn:Option Addr,hat H9 ba=some (.pointer bn)/\
 ∃bk:Addr,bn=some bk/\
 ∃au:Option Addr,hat H9 bk=some (.pointer au)/\
 ∀(bo:Nat) (H11:Array Obj),bo=H9.size->H11=H9.push (.cells #[.int .i64 d] 3)->
 seg_Mem_Taken.C au (some (ad bo)) 1 1 H11 (λcg cj=> ∃(ao:Option Addr) (l r:Nat),cg=.slice ao l r/\
 ∃(bt:Int->Array Obj->Prop) (m65:Int->Array Obj->Nat),bt 0 cj/\ ∀(p:Int) (H13:Array Obj),bt p H13->
 if p< (l:Int)then(
 ∃s:Addr,ao=some s/\
 ((0:Int)<=p/\p< (l:Int))/\
 ∃q:Int,hat H13 (s.add (Int.toNat p*1))=some (.int .i64 q)/\
 ∃bi:Option Addr,hat H13 j=some (.pointer bi)/\
 ∃be:Addr,bi=some be/\
 ∃bd:Option Addr,hat H13 be=some (.pointer bd)/\
 ∃a9:Addr,bd=some a9/\
 ∃az:Option Addr,hat H13 a9=some (.pointer az)/\
 seg_Mem_Seg.C az q H13 (λck cd=> ∃(an aj a2 ae ac af ab:Int) (rb:Bool),ck=.tuple #[.agg #[.int .i64 an,.int .i64 aj,.int .i64 a2,.int .i64 ae,.int .i64 ac,.int .i64 af,.int .i64 ab],.bool rb]/\
 ∀(aa:Nat) (H15:Array Obj),aa=cd.size->H15=cd.push (.cells #[.int .i64 0,.int .i64 0,.int .i64 0,.int .i64 0,.int .i64 0,.int .i64 0,.int .i64 0] 82)->
 (CanPuts H15 (ad aa) 0 7)/\ ∀ay,ay=hputs H15 (ad aa) [.int .i64 an,.int .i64 aj,.int .i64 a2,.int .i64 ae,.int .i64 ac,.int .i64 af,.int .i64 ab] 0->
 ∃ag:Option Nat,hat ay ((ad m).add 1026)=some (.map ag)/\
 ∃ai:Option Nat,hat ay ((ad m).add 1027)=some (.map ai)/\
 ∃ak:Int,hat ay ((ad aa).add 2)=some (.int .i64 ak)/\
 ∃ah:Int,hat ay ((ad aa).add 2)=some (.int .i64 ah)/\
 ∃mr:Nat,ag=some mr/\
 ∃(es:Array MapEntry) (cl:Nat) (ks:List (Int×Value)),ay[mr]?=some (.map es cl)/\Ents (intKey .i64) es.toList ks/\Born es cl/\
 ∀(a4:Array MapEntry) (cl_2:Nat) (stamp:Int) (x_21:Value) (H17:Array Obj),H17=setBlk ay mr (.map a4 cl_2)->Ents (intKey .i64) a4.toList (mput ks q x_21)->Born a4 cl_2->HasBorn a4 (.int .i64 q) stamp->
 RowAt H17 ((ad aa).add 2) 0 [.int .i64 ak]/\RowAt H17 ((ad aa).add 2) 0 [.int .i64 ah]/\ ∃(bf:Array MapEntry) (cl_3:Nat) (ks_2:List (Int×Value)) (k:Int),H17[mr]?=some (.map bf cl_3)/\Ents (intKey .i64) bf.toList ks_2/\Born bf cl_3/\HasBorn bf (.int .i64 k) stamp/\
 ∀(a8:Array MapEntry) (H18:Array Obj),H18=setBlk H17 mr (.map a8 cl_3)->Ents (intKey .i64) a8.toList (mput ks_2 k (.int .i64 ak))->Born a8 cl_3->
 RowAt H18 ((ad aa).add 2) 0 [.int .i64 ah]/\ ∃al:Nat,ai=some al/\
 ∃(bq:Array MapEntry) (cl_4:Nat) (ks_3:List (Int×Value)),H18[al]?=some (.map bq cl_4)/\Ents (intKey .i64) bq.toList ks_3/\Born bq cl_4/\
 ∀(a3:Array MapEntry) (cl_5:Nat) (stamp_2:Int) (x_22:Value) (H19:Array Obj),H19=setBlk H18 al (.map a3 cl_5)->Ents (intKey .i64) a3.toList (mput ks_3 q x_22)->Born a3 cl_5->HasBorn a3 (.int .i64 q) stamp_2->
 RowAt H19 ((ad aa).add 2) 0 [.int .i64 ah]/\ ∃(bg:Array MapEntry) (cl_6:Nat) (ks_4:List (Int×Value)) (k_2:Int),H19[al]?=some (.map bg cl_6)/\Ents (intKey .i64) bg.toList ks_4/\Born bg cl_6/\HasBorn bg (.int .i64 k_2) stamp_2/\
 ∀(bl:Array MapEntry) (H20:Array Obj),H20=setBlk H19 al (.map bl cl_6)->Ents (intKey .i64) bl.toList (mput ks_4 k_2 (.int .i64 ah))->Born bl cl_6->
 (bt (IntKind.wrap .i64 (p+1)) H20/\m65 (IntKind.wrap .i64 (p+1)) H20<m65 p H13)))
 else
 ∃bh:Option Addr,hat H13 j=some (.pointer bh)/\
 ∃bm:Addr,bh=some bm/\
 ∃a0:Option Addr,hat H13 bm=some (.pointer a0)/\
 space_Space_Fresh.C a0 f gensN gensC H13 (λ_ ce=>
 ∃a1:Option Addr,hat ce j=some (.pointer a1)/\
 card_Cards_Dirty.C a1 g ce (λci cc=> ∃(ax:Option Addr) (av aw:Nat),ci=.slice ax av aw/\
 (CanPuts cc ((ad m).add 1028) 0 1)/\ ∀b8,b8=hputs cc ((ad m).add 1028) [.slice ax av aw] 0->
 R (.tuple #[.pointer (some (ad m)),.int .i64 0]) b8)))))))
namespace trace_Start
theorem link{hv:Option Addr}{g d o:Int}{H:Array Obj}{R:Value->Array Obj->Prop}(h:pt hv g d o H R):C hv g d o H R:=by
 refine T_en K0 181 Tryz.func32 ?_
 intro w0 Q hQ
 unfold pt at h
 refine T_su [(0,vp hv),(1,vi g),(2,vi d),(3,vi o)]<| T_srz 0<| T_ed 2 [] []<| T_sz<| T_srz 1<| T_nd 1 [] [(20,vp hv)] ?_
 rcases hv with _ | j
 ·rw[onPtr_none]at h
  exact T_ed 31 [0,20] [(0,vp none),(51,.bool true)]<| T_tz 51<| T_srz 2<| T_nr 2 [8,9] [vp none,vi 1] hQ h
 rw[onPtr_some]at h
 refine T_nd 5 [0,20] [(0,vp (some j)),(22,.bool false),(25,vp (some j))] ?_
 obtain⟨x,q1,h⟩:=h
 refine T_l1 26 54 q1 [25] ?_
 rcases x with _ | xA
 ·rw[onPtr_none]at h
  exact T_ed 25 [22,26] [(51,.bool true)]<| T_tz 51<| T_srz 2<| T_nr 2 [8,9] [vp none,vi 1] hQ h
 rw[onPtr_some]at h
 refine T_nd 7 [22,26] [(33,.bool (decide (g<0)))] ?_
 refine N_cut [(0,vp (some j)),(1,vi g),(2,vi d),(3,vi o),(51,.bool (((((decide (g<0)) || (decide (g>=4))) || (decide (d<g))) || (decide (d>(IntKind.wrap .i64 (g+1))))) || (decide (o<0))))] ?_ ?_
 ·refine S_then ?_
  by_cases c10:(((((decide (g<0)) || (decide (g>=4))) || (decide (d<g))) || (decide (d>(IntKind.wrap .i64 (g+1))))) || (decide (o<0)))=true
  ·rw[if_pos c10]at h
   exact T_cTz 51 c10<| T_srz 2<| T_nr 2 [8,9] [vp none,vi 1] hQ h
  rw[if_neg c10]at h
  refine T_cFz 51 (eq_false_of_ne_true c10)<| T_kt<| T_srz 3<| T_ne 1 [(0,vp (some j)),(1,vi g),(2,vi d),(3,vi o),(10,vs none 0 0)]<| T_sz<| T_srz 4<| T_ed 3 [] [(53,vi (IntKind.wrap .i64 (g+1))),(54,vi 0)]<| T_bz 0 ?_
  obtain⟨b2,m19,i12,i13⟩:=h
  refine S_loop (x:=K18) (σ:=(Option Addr)×Nat×Nat×Int) (λs_=> [(0,vp (some j)),(1,vi g),(2,vi d),(3,vi o),(10,vs s_.1 s_.2.1 s_.2.2.1),(53,vi (IntKind.wrap .i64 (g+1))),(54,vi s_.2.2.2)]) (λs_ H=>b2 s_.1 s_.2.1 s_.2.2.1 s_.2.2.2 H) (λs_ H=>m19 s_.1 s_.2.1 s_.2.2.1 s_.2.2.2 H) ((none,0,0,0):(Option Addr)×Nat×Nat×Int) (by kernel_rfl) i12 sk ?_
  rintro⟨f,gensN,gensC,s54⟩ H1 i14
  have h:=i13 f gensN gensC s54 H1 i14
  refine T_su [(0,vp (some j)),(1,vi g),(2,vi d),(3,vi o),(10,vs f gensN gensC),(53,vi (IntKind.wrap .i64 (g+1))),(54,vi s54)]<| T_srz 5<| T_ed 1 [] [(55,.bool (decide (s54< (IntKind.wrap .i64 (g+1)))))]<| T_sz ?_
  by_cases c15:s54< (IntKind.wrap .i64 (g+1))
  ·rw[if_pos c15]at h
   refine T_cTz 55 (decide_eq_true c15)<| T_kt<| T_sz<| T_bz 1<| T_srz 6<| T_ed 2 [55] [(11,vi s54)]<| T_rz 7<| T_nd 2 [10,11] [(57,vs f gensN gensC),(58,vi s54)]<| T_nw (some 59) (λb=>vs (pa b) 1 1) (.cells #[vi s54] 3) ?_
   intro b H2 e17 e18
   replace h:=h b H2 e17 e18
   refine T_pd [58] [(59,vs (pa b) 1 1)] ?_
   refine N_op (some 60) (appendN #[52,52] 52 #[vs f gensN gensC,vs (pa b) 1 1]) _ (λ_=>by kernel_rfl) (ss_append (T:=3) (sz:=1) (bytes:=8) (zero:=(vi 0:Value)) Tryz.underlying52 Tryz.underlying52 rfl (show Tryz.prog.info? 3=some Tryz.t3 from by kernel_rfl) (by kernel_rfl) (by kernel_rfl) (by decide) (by kernel_rfl) (by first | exact h | (simpa only[Value.cells,List.toList_toArray]using h))) ?_;clear h
   rintro _ H3 ⟨ap,bj,rfl,h⟩
   refine T_pd [57,59] [(60,vs ap (gensN+1) bj)]<| T_nd 1 [60] [(10,vs ap (gensN+1) bj)] ?_
   refine N_end (by kernel_rfl) ?_
   refine S_blockEnd ?_
   refine S_then ?_
   refine T_rz 8<| T_ed 2 [54] [(54,vi (IntKind.wrap .i64 (s54+1)))] ?_
   exact S_round ((ap,(gensN+1),bj,(IntKind.wrap .i64 (s54+1))):(Option Addr)×Nat×Nat×Int) sk h
  rw[if_neg c15]at h
  refine T_cFz 55 (decide_eq_false c15) ?_
  refine S_exit 0 (by kernel_rfl) ?_
  refine S_exitThen ?_
  refine S_exitThen ?_
  refine S_exitHere ?_
  refine S_then ?_
  refine T_srz 9<| T_nd 3 [53,54,55] [(64,vp (some j))] ?_
  obtain⟨b6,q19,h⟩:=h
  refine T_l1 65 54 q19 [64] ?_
  obtain⟨b4,rfl,h⟩:=h
  refine T_nd 2 [65] [(67,vp (some b4))] ?_
  obtain⟨bs,q20,h⟩:=h
  refine T_l1 68 58 q20 [67] ?_
  obtain⟨bu,rfl,h⟩:=h
  refine T_nd 2 [68] [(70,vp (some bu))] ?_
  obtain⟨bb,q21,h⟩:=h
  refine T_l1 71 61 q21 [70]<| T_nd 1 [] [(72,vs f gensN gensC)] ?_
  refine T_c (some 73) h ?_;clear h
  rintro v H4 ⟨xB,xN,xC,rfl,h⟩
  refine T_pd [71,72] [(73,vs xB xN xC)]<| T_ed 1 [73] [(12,vs xB xN xC)]<| T_sz<| T_srz 10<| T_nd 3 [] [(76,vp (some j))] ?_
  obtain⟨bw,q22,h⟩:=h
  refine T_l1 77 54 q22 [76] ?_
  obtain⟨bx,rfl,h⟩:=h
  refine T_nd 2 [77] [(79,vp (some bx))] ?_
  obtain⟨bz,q23,h⟩:=h
  refine T_l1 80 58 q23 [79] ?_
  obtain⟨br,rfl,h⟩:=h
  refine T_nd 2 [80] [(82,vp (some br))] ?_
  obtain⟨bp,q24,h⟩:=h
  refine T_l1 83 61 q24 [82] ?_
  refine T_c (some 84) h ?_;clear h
  rintro ch H5 ⟨a5,rfl,h⟩
  refine T_pd [83] [(84,vi a5)]<| T_ed 7 [3,84] [(91,.bool (decide ((IntKind.wrap .i64 ((IntKind.wrap .i64 (a5-(IntKind.wrap .i64 (2*(xN:Int)))))-8))<o)))] ?_
  by_cases c25:(IntKind.wrap .i64 ((IntKind.wrap .i64 (a5-(IntKind.wrap .i64 (2*(xN:Int)))))-8))<o
  ·rw[if_pos c25]at h
   exact T_cTz 91 (decide_eq_true c25)<| T_srz 11<| T_nr 2 [8,9] [vp none,vi 2] hQ h
  rw[if_neg c25]at h
  refine T_cFz 91 (decide_eq_false c25)<| T_kt<| T_srz 12<| T_nd 2 [91] [(92,vp (some j)),(93,vi d)]<| T_nw (some 94) (λb=> .map (some b)) (.map #[] 0) ?_
  intro a6 H6 e27 e28
  replace h:=h a6 H6 e27 e28
  refine T_pd [] [(94,.map (some a6))]<| T_nw (some 95) (λb=> .map (some b)) (.map #[] 0) ?_
  intro bc H7 e29 e30
  replace h:=h bc H7 e29 e30
  refine T_pd [] [(95,.map (some bc))]<| T_nd 1 [92,93,94,95] [(96,.agg ([vp (some j),vi d]++List.replicate 1024 (vi 0)++[.map (some a6),.map (some bc),vs none 0 0,vi 0]:List Value).toArray)]<| T_nw (some 97) (λb=>vp (pa b)) (.cells ([vp (some j),vi d]++List.replicate 1024 (vi 0)++[.map (some a6),.map (some bc),vs none 0 0,vi 0]:List Value).toArray 190) ?_
  intro m H8 e31 e32
  replace h:=h m H8 e31 e32
  refine T_pd [96] [(97,vp (pa m))]<| T_ed 1 [97] [(13,vp (pa m))]<| T_sz<| T_srz 13<| T_ed 3 [12] [(98,vs xB xN xC),(99,vi xN),(100,vi 0)]<| T_bz 2 ?_
  obtain⟨b1,m48,i33,i34⟩:=h
  refine S_loop (x:=K47) (σ:=Int) (λs_=> [(0,vp (some j)),(1,vi g),(2,vi d),(10,vs f gensN gensC),(13,vp (pa m)),(98,vs xB xN xC),(99,vi xN),(100,vi s_)]) (λs_ H=>b1 s_ H) (λs_ H=>m48 s_ H) (0:Int) (by kernel_rfl) i33 sk ?_
  rintro y H9 i35
  have h:=i34 y H9 i35
  refine T_su [(0,vp (some j)),(1,vi g),(2,vi d),(10,vs f gensN gensC),(13,vp (pa m)),(98,vs xB xN xC),(99,vi xN),(100,vi y)]<| T_srz 14<| T_ed 1 [] [(101,.bool (decide (y< (xN:Int))))]<| T_sz ?_
  by_cases c36:y< (xN:Int)
  ·rw[if_pos c36]at h
   refine T_cTz 101 (decide_eq_true c36)<| T_kt<| T_sz<| T_bz 3<| T_srz 15<| T_ud [101] [] ?_
   obtain⟨aq,rfl,h⟩:=h
   obtain⟨q38,h⟩:=h
   refine T_xd (some 102) 52 3 1 aq xN xC .i64 y Tryz.underlying52 q38.1 q38.2 [98] [(98,vs (some aq) xN xC),(102,vp (some (aq.add (Int.toNat y*1))))] ?_
   obtain⟨am,q39,h⟩:=h
   refine T_l1 103 3 q39 [102]<| T_ed 1 [103] [(15,vi am)]<| T_rz 16<| T_nd 4 [15] [(105,vi am),(107,vp (some ((ad m).add 2)))] ?_
   obtain⟨q40,h⟩:=h
   refine T_v1 108 (indexAtN 187 (vp (some ((ad m).add 2))) (vi am)) (vp (some (((ad m).add 2).add (Int.toNat am*1)))) (λw _=>indexArr_run (P:=Tryz.prog) (t:=187) (elem:=3) (sz:=1) (n:=1024) (a:=((ad m).add 2)) (k:=.i64) (i:=am) Tryz.underlying187 (λ_=>by kernel_rfl) q40.1 q40.2 w) [105,107] ?_
   obtain⟨q42,h⟩:=h
   refine T_st1 3 (vi 1) q42 ?_
   intro b0 e41
   replace h:=h b0 e41
   refine T_pd [108] [] ?_
   refine N_end (by kernel_rfl) ?_
   refine S_blockEnd ?_
   refine S_then ?_
   refine T_rz 17<| T_ed 2 [100] [(100,vi (IntKind.wrap .i64 (y+1)))] ?_
   exact S_round ((IntKind.wrap .i64 (y+1)):Int) sk h
  rw[if_neg c36]at h
  refine T_cFz 101 (decide_eq_false c36) ?_
  refine S_exit 2 (by kernel_rfl) ?_
  refine S_exitThen ?_
  refine S_exitThen ?_
  refine S_exitHere ?_
  refine S_then ?_
  refine T_sz<| T_srz 18<| T_nd 3 [98,99,100,101] [(112,vp (some j))] ?_
  obtain⟨a7,q43,h⟩:=h
  refine T_l1 113 54 q43 [112] ?_
  obtain⟨ba,rfl,h⟩:=h
  refine T_nd 2 [113] [(115,vp (some ba))] ?_
  obtain⟨bn,q44,h⟩:=h
  refine T_l1 116 58 q44 [115] ?_
  obtain⟨bk,rfl,h⟩:=h
  refine T_nd 2 [116] [(118,vp (some bk))] ?_
  obtain⟨au,q45,h⟩:=h
  refine T_l1 119 61 q45 [118]<| T_nd 1 [2] [(120,vi d)]<| T_nw (some 121) (λb=>vs (pa b) 1 1) (.cells #[vi d] 3) ?_
  intro bo H11 e46 e47
  replace h:=h bo H11 e46 e47
  refine T_pd [120] [(121,vs (pa bo) 1 1)] ?_
  refine T_c (some 122) h ?_;clear h
  rintro cg cj ⟨ao,l,r,rfl,h⟩
  refine T_pd [119,121] [(122,vs ao l r)]<| T_ed 2 [] [(123,vi l),(124,vi 0)]<| T_bz 4 ?_
  obtain⟨bt,m65,i48,i49⟩:=h
  refine S_loop (x:=K64) (σ:=Int) (λs_=> [(0,vp (some j)),(1,vi g),(10,vs f gensN gensC),(13,vp (pa m)),(122,vs ao l r),(123,vi l),(124,vi s_)]) (λs_ H=>bt s_ H) (λs_ H=>m65 s_ H) (0:Int) (by kernel_rfl) i48 sk ?_
  rintro p H13 i50
  have h:=i49 p H13 i50
  refine T_su [(0,vp (some j)),(1,vi g),(10,vs f gensN gensC),(13,vp (pa m)),(122,vs ao l r),(123,vi l),(124,vi p)]<| T_srz 19<| T_ed 1 [] [(125,.bool (decide (p< (l:Int))))]<| T_sz ?_
  by_cases c51:p< (l:Int)
  ·rw[if_pos c51]at h
   refine T_cTz 125 (decide_eq_true c51)<| T_kt<| T_sz<| T_bz 5<| T_srz 20<| T_ud [125] [] ?_
   obtain⟨s,rfl,h⟩:=h
   obtain⟨q53,h⟩:=h
   refine T_xd (some 126) 52 3 1 s l r .i64 p Tryz.underlying52 q53.1 q53.2 [122] [(122,vs (some s) l r),(126,vp (some (s.add (Int.toNat p*1))))] ?_
   obtain⟨q,q54,h⟩:=h
   refine T_l1 127 3 q54 [126]<| T_ed 1 [127] [(17,vi q)]<| T_srz 21<| T_nd 3 [] [(131,vp (some j))] ?_
   obtain⟨bi,q55,h⟩:=h
   refine T_l1 132 54 q55 [131] ?_
   obtain⟨be,rfl,h⟩:=h
   refine T_nd 2 [132] [(134,vp (some be))] ?_
   obtain⟨bd,q56,h⟩:=h
   refine T_l1 135 58 q56 [134] ?_
   obtain⟨a9,rfl,h⟩:=h
   refine T_nd 2 [135] [(137,vp (some a9))] ?_
   obtain⟨az,q57,h⟩:=h
   refine T_l1 138 61 q57 [137]<| T_nd 1 [] [(139,vi q)] ?_
   refine T_c (some 140) h ?_;clear h
   rintro ck cd ⟨an,aj,a2,ae,ac,af,ab,rb,rfl,h⟩
   refine T_pd [138,139] [(140,.tuple #[.agg #[vi an,vi aj,vi a2,vi ae,vi ac,vi af,vi ab],.bool rb])]<| T_nd 3 [140] [(141,.agg #[vi an,vi aj,vi a2,vi ae,vi ac,vi af,vi ab]),(142,.bool rb)]<| T_nw (some 18) (λb=>vp (pa b)) (.cells #[vi 0,vi 0,vi 0,vi 0,vi 0,vi 0,vi 0] 82) ?_
   intro aa H15 e58 e59
   replace h:=h aa H15 e58 e59
   refine T_pd [] [(18,vp (pa aa))] ?_
   obtain⟨q61,h⟩:=h
   refine T_sta 82 [vi an,vi aj,vi a2,vi ae,vi ac,vi af,vi ab] q61 ?_
   intro ay e60
   replace h:=h ay e60
   refine T_pd [141] []<| T_ed 1 [142] [] ?_
   obtain⟨ag,q62,h⟩:=h
   obtain⟨ai,q63,h⟩:=h
   obtain⟨ak,q64,h⟩:=h
   obtain⟨ah,q65,h⟩:=h
   refine S_regionG 22 (Code.ops K77) [(14,((ad m).add 1026),[.map ag]),(14,((ad m).add 1027),[.map ai]),(16,((ad aa).add 2),[vi ak]),(19,((ad aa).add 2),[vi ah])] 20 (bv 20 0) (by kernel_rfl) (by kernel_rfl) (by kernel_rfl) (by kernel_rfl) (by kernel_rfl) (show FactsAt _ _ _ from⟨⟨q62,trivial⟩,⟨q63,trivial⟩,⟨q64,trivial⟩,⟨q65,trivial⟩,trivial⟩) ?_
   refine T_gp 0 (some 143) (vp (pa m)) (bv 20 1) [(0,vp (some j)),(1,vi g),(10,vs f gensN gensC),(13,vp (pa m)),(17,vi q),(18,vp (pa aa)),(122,vs (some s) l r),(123,vi l),(124,vi p),(143,vp (pa m))]<| T_gp1 1 144 (vp (pa m)) (bv 20 3) [143]<| T_gp1 2 145 (vp (some ((ad m).add 1026))) (bv 20 7) [144]<| T_g1 3 146 (.map ag) (bv 20 15) [145] (loadN 186 (vp (some ((ad m).add 1026)))) (held_one 14 (λ_=>by kernel_rfl) (List.Mem.head _) (.inl (by kernel_rfl)))<| T_gp1 4 147 (vi q) (bv 20 31) []<| T_gp1 5 148 (vp (pa m)) (bv 20 63) []<| T_gp1 6 149 (vp (pa m)) (bv 20 127) [148]<| T_gp1 7 150 (vp (some ((ad m).add 1027))) (bv 20 255) [149]<| T_g1 8 151 (.map ai) (bv 20 511) [150] (loadN 186 (vp (some ((ad m).add 1027)))) (held_one 14 (λ_=>by kernel_rfl) (List.Mem.tail _ (List.Mem.head _)) (.inl (by kernel_rfl))) ?_
   refine T_gp1 9 152 (vi q) (bv 20 1023) [17]<| T_gp1 10 153 (vp (some ((ad aa).add 2))) (bv 20 2047) []<| T_g1 11 154 (vi ak) (bv 20 4095) [153] (loadN 3 (vp (some ((ad aa).add 2)))) (held_one 16 (λ_=>by kernel_rfl) (List.Mem.tail _ (List.Mem.tail _ (List.Mem.head _))) (.inl (by kernel_rfl)))<| T_gp1 12 155 (vp (some ((ad aa).add 2))) (bv 20 8191) [18]<| T_g1 13 156 (vi ah) (bv 20 16383) [155] (loadN 3 (vp (some ((ad aa).add 2)))) (held_one 19 (λ_=>by kernel_rfl) (List.Mem.tail _ (List.Mem.tail _ (List.Mem.tail _ (List.Mem.head _)))) (.inl (by kernel_rfl))) ?_
   obtain⟨mr,rfl,h⟩:=h
   obtain⟨es,cl,ks,q68,q69,q73,h⟩:=h
   refine G_only 14 (some 157) (bv 20 32767) (mapEntN 186 (.map (some mr)) (vi q)) (λu Hz=> ∃es2 cl2 sp v0,Hz=setBlk ay mr (.map es2 cl2)/\Ents (intKey .i64) es2.toList (mput ks q v0)/\Born es2 cl2/\HasBorn es2 (vi q) sp/\u=.tuple #[v0,vi sp]) (by kernel_rfl) (λ_=>by kernel_rfl) (mapEnt_run (kk:=(intKey .i64)) (z:=vi 0) Tryz.underlying186 Tryz.underlying3 (λ_=>by kernel_rfl) q68 q69 q73) (by kernel_rfl) ?_
   rintro _ H17 ⟨a4,cl_2,stamp,x_21,e71,e72,e74,e75,rfl⟩
   replace h:=h a4 cl_2 stamp x_21 H17 e71 e72 e74 e75
   obtain⟨f66,f67,h⟩:=h
   refine⟨[(0,vp (some j)),(1,vi g),(10,vs f gensN gensC),(13,vp (pa m)),(122,vs (some s) l r),(123,vi l),(124,vi p),(146,.map (some mr)),(151,.map ai),(152,vi q),(154,vi ak),(156,vi ah),(157,.tuple #[x_21,vi stamp])],pk,(show FactsAt _ _ _ from⟨trivial,trivial,f66,f67,trivial⟩),?_⟩
   refine T_g 15 (some 158) (vi stamp) (bv 20 65535) [(0,vp (some j)),(1,vi g),(10,vs f gensN gensC),(13,vp (pa m)),(122,vs (some s) l r),(123,vi l),(124,vi p),(146,.map (some mr)),(151,.map ai),(152,vi q),(154,vi ak),(156,vi ah),(158,vi stamp)] (pure (.value (vi stamp)):Sem Next) (λ_ _ _ _ _=>rfl) ?_
   obtain⟨bf,cl_3,ks_2,k,q77,q78,q79,q80,h⟩:=h
   refine G_onlyskip 16 none (bv 20 131071) (entPutN 186 (.map (some mr)) (vi stamp) (vi ak)) (λHz=> ∃es2,Hz=setBlk H17 mr (.map es2 cl_3)/\Ents (intKey .i64) es2.toList (mput ks_2 k (vi ak))/\Born es2 cl_3) (by kernel_rfl) (λ_=>by kernel_rfl) (entPut_run (kk:=(intKey .i64)) q77 q78 q79 q80) (by kernel_rfl) ?_
   rintro H18 ⟨a8,e81,e82,e83⟩
   replace h:=h a8 H18 e81 e82 e83
   obtain⟨f76,h⟩:=h
   refine⟨[(0,vp (some j)),(1,vi g),(10,vs f gensN gensC),(13,vp (pa m)),(122,vs (some s) l r),(123,vi l),(124,vi p),(151,.map ai),(152,vi q),(156,vi ah)],pk,(show FactsAt _ _ _ from⟨trivial,trivial,trivial,f76,trivial⟩),?_⟩
   obtain⟨al,rfl,h⟩:=h
   obtain⟨bq,cl_4,ks_3,q85,q86,q90,h⟩:=h
   refine G_only 17 (some 159) (bv 20 262143) (mapEntN 186 (.map (some al)) (vi q)) (λu Hz=> ∃es2 cl2 sp v0,Hz=setBlk H18 al (.map es2 cl2)/\Ents (intKey .i64) es2.toList (mput ks_3 q v0)/\Born es2 cl2/\HasBorn es2 (vi q) sp/\u=.tuple #[v0,vi sp]) (by kernel_rfl) (λ_=>by kernel_rfl) (mapEnt_run (kk:=(intKey .i64)) (z:=vi 0) Tryz.underlying186 Tryz.underlying3 (λ_=>by kernel_rfl) q85 q86 q90) (by kernel_rfl) ?_
   rintro _ H19 ⟨a3,cl_5,stamp_2,x_22,e88,e89,e91,e92,rfl⟩
   replace h:=h a3 cl_5 stamp_2 x_22 H19 e88 e89 e91 e92
   obtain⟨f84,h⟩:=h
   refine⟨[(0,vp (some j)),(1,vi g),(10,vs f gensN gensC),(13,vp (pa m)),(122,vs (some s) l r),(123,vi l),(124,vi p),(151,.map (some al)),(156,vi ah),(159,.tuple #[x_22,vi stamp_2])],pk,(show FactsAt _ _ _ from⟨trivial,trivial,trivial,f84,trivial⟩),?_⟩
   refine T_g 18 (some 160) (vi stamp_2) (bv 20 524287) [(0,vp (some j)),(1,vi g),(10,vs f gensN gensC),(13,vp (pa m)),(122,vs (some s) l r),(123,vi l),(124,vi p),(151,.map (some al)),(156,vi ah),(160,vi stamp_2)] (pure (.value (vi stamp_2)):Sem Next) (λ_ _ _ _ _=>rfl) ?_
   obtain⟨bg,cl_6,ks_4,k_2,q93,q94,q95,q96,h⟩:=h
   refine G_onlyskip 19 none (bv 20 1048575) (entPutN 186 (.map (some al)) (vi stamp_2) (vi ah)) (λHz=> ∃es2,Hz=setBlk H19 al (.map es2 cl_6)/\Ents (intKey .i64) es2.toList (mput ks_4 k_2 (vi ah))/\Born es2 cl_6) (by kernel_rfl) (λ_=>by kernel_rfl) (entPut_run (kk:=(intKey .i64)) q93 q94 q95 q96) (by kernel_rfl) ?_
   rintro H20 ⟨bl,e97,e98,e99⟩
   replace h:=h bl H20 e97 e98 e99
   refine⟨[(0,vp (some j)),(1,vi g),(10,vs f gensN gensC),(13,vp (pa m)),(122,vs (some s) l r),(123,vi l),(124,vi p)],pk,(show FactsAt _ _ _ from⟨trivial,trivial,trivial,trivial,trivial⟩),?_⟩
   refine G_sub [(0,vp (some j)),(1,vi g),(10,vs f gensN gensC),(13,vp (pa m)),(122,vs (some s) l r),(123,vi l),(124,vi p)] sk ?_
   refine G_end (by kernel_rfl) ?_
   refine S_blockEnd ?_
   refine S_then ?_
   refine T_rz 23<| T_ne 2 [(0,vp (some j)),(1,vi g),(10,vs f gensN gensC),(13,vp (pa m)),(122,vs (some s) l r),(123,vi l),(124,vi (IntKind.wrap .i64 (p+1)))] ?_
   exact S_round ((IntKind.wrap .i64 (p+1)):Int) sk h
  rw[if_neg c51]at h
  refine T_cFz 125 (decide_eq_false c51) ?_
  refine S_exit 4 (by kernel_rfl) ?_
  refine S_exitThen ?_
  refine S_exitThen ?_
  refine S_exitHere ?_
  refine S_then ?_
  refine T_srz 24<| T_nd 3 [122,123,124,125] [(164,vp (some j))] ?_
  obtain⟨bh,q100,h⟩:=h
  refine T_l1 165 54 q100 [164] ?_
  obtain⟨bm,rfl,h⟩:=h
  refine T_nd 2 [165] [(167,vp (some bm))] ?_
  obtain⟨a0,q101,h⟩:=h
  refine T_l1 168 58 q101 [167]<| T_nd 1 [10] [(169,vs f gensN gensC)] ?_
  refine T_c (some 170) h ?_;clear h
  intro v_5 ce h
  refine T_pd [168,169] []<| T_e<| T_srz 25<| T_nd 4 [0] [(171,vp (pa m)),(174,vp (some j))] ?_
  obtain⟨a1,q102,h⟩:=h
  refine T_l1 175 54 q102 [174]<| T_nd 1 [1] [(176,vi g)] ?_
  refine T_c (some 177) h ?_;clear h
  rintro ci cc ⟨ax,av,aw,rfl,h⟩
  refine T_pd [175,176] [(177,vs ax av aw)]<| T_nd 2 [171] [(179,vp (some ((ad m).add 1028)))] ?_
  obtain⟨q104,h⟩:=h
  refine T_st1 188 (vs ax av aw) q104 ?_
  intro b8 e103
  replace h:=h b8 e103
  exact T_pd [177,179] []<| T_e<| T_srz 26<| T_nr 3 [8,9] [vp (pa m),vi 0] hQ h
 intro hk
 refine T_nu [(0,vp (some j)),(1,vi g),(2,vi d),(3,vi o),(33,.bool (decide (g<0)))] ?_
 by_cases c2:g<0
 ·have b3:(decide (g<0))=true:=decide_eq_true c2
  refine N_env [(0,vp (some j)),(1,vi g),(2,vi d),(3,vi o),(33,.bool true)] (by rw[b3]) ?_
  refine T_nd 18 [33] [(51,.bool true)] ?_
  refine N_end (by kernel_rfl) ?_
  refine S_bd 51 (b:=true) (v:=(((((decide (g<0)) || (decide (g>=4))) || (decide (d<g))) || (decide (d>(IntKind.wrap .i64 (g+1))))) || (decide (o<0)))) (by simp only[b3,BL]) ?_
  exact hk
 have b3:(decide (g<0))=false:=decide_eq_false c2
 refine N_env [(0,vp (some j)),(1,vi g),(2,vi d),(3,vi o),(33,.bool false)] (by rw[b3]) ?_
 refine T_nd 4 [33] [(37,.bool (decide (g>=4)))] ?_
 by_cases c4:g>=4
 ·have b5:(decide (g>=4))=true:=decide_eq_true c4
  refine N_bd 37 b5<| T_nd 14 [37] [(51,.bool true)] ?_
  refine N_end (by kernel_rfl) ?_
  refine S_bd 51 (b:=true) (v:=(((((decide (g<0)) || (decide (g>=4))) || (decide (d<g))) || (decide (d>(IntKind.wrap .i64 (g+1))))) || (decide (o<0)))) (by simp only[b3,b5,BL]) ?_
  exact hk
 have b5:(decide (g>=4))=false:=decide_eq_false c4
 refine N_bd 37 b5<| T_nd 5 [37] [(42,.bool (decide (d<g)))] ?_
 by_cases c6:d<g
 ·have b7:(decide (d<g))=true:=decide_eq_true c6
  refine N_bd 42 b7<| T_nd 9 [42] [(51,.bool true)] ?_
  refine N_end (by kernel_rfl) ?_
  refine S_bd 51 (b:=true) (v:=(((((decide (g<0)) || (decide (g>=4))) || (decide (d<g))) || (decide (d>(IntKind.wrap .i64 (g+1))))) || (decide (o<0)))) (by simp only[b3,b5,b7,BL]) ?_
  exact hk
 have b7:(decide (d<g))=false:=decide_eq_false c6
 refine N_bd 42 b7<| T_nd 6 [42] [(48,.bool (decide (d>(IntKind.wrap .i64 (g+1)))))] ?_
 by_cases c8:d>(IntKind.wrap .i64 (g+1))
 ·have b9:(decide (d>(IntKind.wrap .i64 (g+1))))=true:=decide_eq_true c8
  refine N_bd 48 b9<| T_nd 3 [48] [(51,.bool true)] ?_
  refine N_end (by kernel_rfl) ?_
  refine S_bd 51 (b:=true) (v:=(((((decide (g<0)) || (decide (g>=4))) || (decide (d<g))) || (decide (d>(IntKind.wrap .i64 (g+1))))) || (decide (o<0)))) (by simp only[b3,b5,b7,b9,BL]) ?_
  exact hk
 have b9:(decide (d>(IntKind.wrap .i64 (g+1))))=false:=decide_eq_false c8
 refine N_bd 48 b9<| T_nd 3 [48] [(51,.bool (decide (o<0)))] ?_
 refine N_end (by kernel_rfl) ?_
 refine S_bd 51 (b:=(decide (o<0))) (v:=(((((decide (g<0)) || (decide (g>=4))) || (decide (d<g))) || (decide (d>(IntKind.wrap .i64 (g+1))))) || (decide (o<0)))) (by simp only[b3,b5,b7,b9,BL]) ?_
 exact hk
end trace_Start

/-! (*moraine/trace.Trace).Visit -/
namespace trace_Trace_Visit
def K0:=Func.code Tryz.f34
def K2:=cb K0
def K4:=cb K2
def K10:=cb K4
def K20:=cb K10
def K22:=cb K20
def K30:=cb K22
def K32:=cb K30
def K33:=ca K32
def K34:=cb K32
def K36:=cb K34
def K41:=ca K36
def K44:=cb K41
def K45:=ca K44
def K46:=ca K45
end trace_Trace_Visit
def trace_Trace_Visit.pt(tv:Option Addr)(wv:Int)(H:Array Obj)(R:Value->Array Obj->Prop):Prop:=
 trace_Trace_Old.C tv wv H (λv H1=> ∃x:Bool,v=.bool x/\
 if x=true then(
 trace_Trace_moved.C tv wv H1 (λbz H2=> ∃(ra:Int) (rb:Bool),bz=.tuple #[.int .u64 ra,.bool rb]/\
 if rb=true then(
 R (.int .u64 ra) H2)
 else
 ∃d:Addr,tv=some d/\
 ∃a5:Option Addr,hat H2 d=some (.pointer a5)/\
 obj_Heap_Size.C a5 wv H2 (λbw H3=> ∃i:Int,bw=.int .i64 i/\
 if i=0 then(
 R (.int .u64 wv) H3)
 else
 word_Addr.C wv H3 (λb1 H4=> ∃(a:Int) (bi:Bool),b1=.tuple #[.int .i64 a,.bool bi]/\
 ∃a9:Option Addr,hat H4 d=some (.pointer a9)/\
 ∃bc:Addr,a9=some bc/\
 ∃bb:Option Addr,hat H4 bc=some (.pointer bb)/\
 ∃bd:Addr,bb=some bd/\
 ∃be:Option Addr,hat H4 bd=some (.pointer be)/\
 ∃a8:Addr,be=some a8/\
 ∃ap:Option Addr,hat H4 a8=some (.pointer ap)/\
 seg_Mem_Seg.C ap (IntKind.wrap .i64 (Int.tdiv a 64)) H4 (λbr H5=> ∃(t s ag m l n k:Int) (ah:Bool),br=.tuple #[.agg #[.int .i64 t,.int .i64 s,.int .i64 ag,.int .i64 m,.int .i64 l,.int .i64 n,.int .i64 k],.bool ah]/\
 ∀(b:Nat) (H6:Array Obj),b=H5.size->H6=H5.push (.cells #[.int .i64 0,.int .i64 0,.int .i64 0,.int .i64 0,.int .i64 0,.int .i64 0,.int .i64 0] 82)->
 (CanPuts H6 (ad b) 0 7)/\ ∀H7,H7=hputs H6 (ad b) [.int .i64 t,.int .i64 s,.int .i64 ag,.int .i64 m,.int .i64 l,.int .i64 n,.int .i64 k] 0->
 ∃bj:Option Addr,hat H7 d=some (.pointer bj)/\
 ∃u:Addr,bj=some u/\
 ∃bo:Option Addr,hat H7 u=some (.pointer bo)/\
 ∃y:Addr,bo=some y/\
 ∃r:Option Addr,hat H7 y=some (.pointer r)/\
 ∃z:Int,hat H7 (d.add 1)=some (.int .i64 z)/\
 ∃aa:Int,hat H7 ((ad b).add 1)=some (.int .i64 aa)/\
 space_Space_Alloc.C r z aa i H7 (λb0 H8=> ∃f o:Int,b0=.tuple #[.int .i64 f,.int .i64 o]/\
 if o=0 then(
 ∃(ba:Int->Array Obj->Prop) (m47:Int->Array Obj->Nat),ba 0 H8/\ ∀(j:Int) (H9:Array Obj),ba j H9->
 if j<i then(
 ∃aj:Option Addr,hat H9 d=some (.pointer aj)/\
 ∃ax:Addr,aj=some ax/\
 ∃a0:Option Addr,hat H9 ax=some (.pointer a0)/\
 ∃aw:Addr,a0=some aw/\
 ∃au:Option Addr,hat H9 aw=some (.pointer au)/\
 ∃an:Addr,au=some an/\
 ∃ac:Option Addr,hat H9 an=some (.pointer ac)/\
 seg_Mem_Read.C ac (IntKind.wrap .i64 (a+j)) H9 (λbt a7=> ∃p bg:Int,bt=.tuple #[.int .u64 p,.int .i64 bg]/\
 ∃am:Option Addr,hat a7 d=some (.pointer am)/\
 ∃a3:Addr,am=some a3/\
 ∃aq:Option Addr,hat a7 a3=some (.pointer aq)/\
 ∃a2:Addr,aq=some a2/\
 ∃al:Option Addr,hat a7 a2=some (.pointer al)/\
 ∃az:Addr,al=some az/\
 ∃ab:Option Addr,hat a7 az=some (.pointer ab)/\
 seg_Mem_Write.C ab (IntKind.wrap .i64 (f+j)) p a7 (λb5 bm=> ∃bl:Int,b5=.int .i64 bl/\
 (ba (IntKind.wrap .i64 (j+1)) bm/\m47 (IntKind.wrap .i64 (j+1)) bm<m47 j H9))))
 else
 word_At.C 6 f H9 (λb3 a6=> ∃q bh:Int,b3=.tuple #[.int .u64 q,.int .i64 bh]/\
 ∃av:Option Addr,hat a6 d=some (.pointer av)/\
 ∃ao:Addr,av=some ao/\
 ∃ay:Option Addr,hat a6 ao=some (.pointer ay)/\
 ∃a4:Addr,ay=some a4/\
 ∃a1:Option Addr,hat a6 a4=some (.pointer a1)/\
 ∃ak:Addr,a1=some ak/\
 ∃ae:Option Addr,hat a6 ak=some (.pointer ae)/\
 seg_Mem_Write.C ae a q a6 (λbp bs=> ∃bn:Int,bp=.int .i64 bn/\
 word_Tag.C wv bs (λbk bx=> ∃ai:Int,bk=.int .i64 ai/\
 word_At.C ai f bx (λbq bu=> ∃af bf:Int,bq=.tuple #[.int .u64 af,.int .i64 bf]/\
 R (.int .u64 af) bu)))))
 else
 R (.int .u64 wv) H8))))))
 else
 R (.int .u64 wv) H1)
namespace trace_Trace_Visit
theorem link{tv:Option Addr}{wv:Int}{H:Array Obj}{R:Value->Array Obj->Prop}(h:pt tv wv H R):C tv wv H R:=by
 refine T_en K0 163 Tryz.func34 ?_
 intro w0 Q hQ
 unfold pt at h
 refine T_su [(0,vp tv),(1,vu wv)]<| T_srz 0<| T_ed 1 [] []<| T_sz<| T_srz 1<| T_nd 2 [] [(21,vp tv),(22,vu wv)] ?_
 refine T_c (some 23) h ?_;clear h
 rintro v H1 ⟨x,rfl,h⟩
 refine T_pd [21,22] [(23,.bool x)]<| T_ed 1 [23] [(24,.bool (!x))] ?_
 by_cases c1:x=true
 ·rw[if_pos c1]at h
  refine T_cFz 24 (congrArg Bool.not (c1))<| T_kt<| T_sz<| T_srz 3<| T_nd 2 [24] [(27,vp tv),(28,vu wv)] ?_
  refine T_c (some 29) h ?_;clear h
  rintro bz H2 ⟨ra,rb,rfl,h⟩
  refine T_pd [27,28] [(29,.tuple #[vu ra,.bool rb])]<| T_ed 5 [29] [(5,vu ra),(6,.bool rb)]<| T_srz 4<| T_ed 1 [6] [(32,.bool rb)] ?_
  by_cases c3:rb=true
  ·rw[if_pos c3]at h
   exact T_cTz 32 c3<| T_srz 5<| T_nr 2 [4] [vu ra] hQ h
  rw[if_neg c3]at h
  refine T_cFz 32 (eq_false_of_ne_true c3)<| T_kt<| T_srz 6<| T_nd 1 [5,32] [(34,vp tv)] ?_
  obtain⟨d,rfl,h⟩:=h
  refine T_nd 2 [0,34] [(0,vp (some d)),(36,vp (some d))] ?_
  obtain⟨a5,q5,h⟩:=h
  refine T_l1 37 28 q5 [36]<| T_nd 1 [] [(38,vu wv)] ?_
  refine T_c (some 39) h ?_;clear h
  rintro bw H3 ⟨i,rfl,h⟩
  refine T_pd [37,38] [(39,vi i)]<| T_ed 1 [39] [(7,vi i)]<| T_sz<| T_srz 7<| T_ed 2 [] [(41,.bool (i==0))] ?_
  by_cases c6:i=0
  ·rw[if_pos c6]at h
   exact T_cTz 41 (beq_iff_eq.mpr c6)<| T_srz 8<| T_nr 2 [4] [vu wv] hQ h
  rw[if_neg c6]at h
  refine T_cFz 41 (beq_eq_false_iff_ne.mpr c6)<| T_kt<| T_srz 9<| T_nd 1 [41] [(44,vu wv)] ?_
  refine T_c (some 45) h ?_;clear h
  rintro b1 H4 ⟨a,bi,rfl,h⟩
  refine T_pd [44] [(45,.tuple #[vi a,.bool bi])]<| T_ed 5 [45] [(8,vi a)]<| T_srz 10<| T_nd 3 [] [(51,vp (some d))] ?_
  obtain⟨a9,q8,h⟩:=h
  refine T_l1 52 28 q8 [51] ?_
  obtain⟨bc,rfl,h⟩:=h
  refine T_nd 2 [52] [(54,vp (some bc))] ?_
  obtain⟨bb,q9,h⟩:=h
  refine T_l1 55 54 q9 [54] ?_
  obtain⟨bd,rfl,h⟩:=h
  refine T_nd 2 [55] [(57,vp (some bd))] ?_
  obtain⟨be,q10,h⟩:=h
  refine T_l1 58 58 q10 [57] ?_
  obtain⟨a8,rfl,h⟩:=h
  refine T_nd 2 [58] [(60,vp (some a8))] ?_
  obtain⟨ap,q11,h⟩:=h
  refine T_l1 61 61 q11 [60]<| T_nd 2 [] [(63,vi (IntKind.wrap .i64 (Int.tdiv a 64)))] ?_
  refine T_c (some 64) h ?_;clear h
  rintro br H5 ⟨t,s,ag,m,l,n,k,ah,rfl,h⟩
  refine T_pd [61,63] [(64,.tuple #[.agg #[vi t,vi s,vi ag,vi m,vi l,vi n,vi k],.bool ah])]<| T_nd 3 [64] [(65,.agg #[vi t,vi s,vi ag,vi m,vi l,vi n,vi k]),(66,.bool ah)]<| T_nw (some 10) (λb=>vp (pa b)) (.cells #[vi 0,vi 0,vi 0,vi 0,vi 0,vi 0,vi 0] 82) ?_
  intro b H6 e12 e13
  replace h:=h b H6 e12 e13
  refine T_pd [] [(10,vp (pa b))] ?_
  obtain⟨q15,h⟩:=h
  refine T_sta 82 [vi t,vi s,vi ag,vi m,vi l,vi n,vi k] q15 ?_
  intro H7 e14
  replace h:=h H7 e14
  refine T_pd [65] []<| T_ed 1 [66] []<| T_sz ?_
  obtain⟨bj,q16,h⟩:=h
  obtain⟨u,rfl,h⟩:=h
  obtain⟨bo,q17,h⟩:=h
  obtain⟨y,rfl,h⟩:=h
  obtain⟨r,q18,h⟩:=h
  obtain⟨z,q19,h⟩:=h
  obtain⟨aa,q20,h⟩:=h
  refine S_regionG 11 (Code.ops K33) [(17,d,[vp (some u)]),(17,u,[vp (some y)]),(17,y,[vp r]),(17,(d.add 1),[vi z]),(17,((ad b).add 1),[vi aa])] 23 (bv 23 0) (by kernel_rfl) (by kernel_rfl) (by kernel_rfl) (by kernel_rfl) (by kernel_rfl) (show FactsAt _ _ _ from⟨⟨q16,trivial⟩,⟨q17,trivial⟩,⟨q18,trivial⟩,⟨q19,trivial⟩,⟨q20,trivial⟩,trivial⟩) ?_
  refine T_gp 0 (some 68) (vp (some d)) (bv 23 1) [(0,vp (some d)),(1,vu wv),(7,vi i),(8,vi a),(10,vp (pa b)),(68,vp (some d))]<| T_gp1 1 69 (vp (some d)) (bv 23 3) [68]<| T_gp1 2 70 (vp (some d)) (bv 23 7) [69]<| T_g1 3 71 (vp (some u)) (bv 23 15) [70] (loadN 28 (vp (some d))) (held_one 17 (λ_=>by kernel_rfl) (List.Mem.head _) (.inl (by kernel_rfl)))<| T_gp1 4 72 (vp (some u)) (bv 23 31) [71]<| T_gp1 5 73 (vp (some u)) (bv 23 63) [72]<| T_g1 6 74 (vp (some y)) (bv 23 127) [73] (loadN 54 (vp (some u))) (held_one 17 (λ_=>by kernel_rfl) (List.Mem.tail _ (List.Mem.head _)) (.inl (by kernel_rfl)))<| T_gp1 7 75 (vp (some y)) (bv 23 255) [74]<| T_gp1 8 76 (vp (some y)) (bv 23 511) [75] ?_
  refine T_g1 9 77 (vp r) (bv 23 1023) [76] (loadN 58 (vp (some y))) (held_one 17 (λ_=>by kernel_rfl) (List.Mem.tail _ (List.Mem.tail _ (List.Mem.head _))) (.inl (by kernel_rfl)))<| T_gp1 10 78 (vp (some d)) (bv 23 2047) []<| T_gp1 11 79 (vp (some d)) (bv 23 4095) [78]<| T_gp1 12 80 (vp (some (d.add 1))) (bv 23 8191) [79]<| T_g1 13 81 (vi z) (bv 23 16383) [80] (loadN 3 (vp (some (d.add 1)))) (held_one 17 (λ_=>by kernel_rfl) (List.Mem.tail _ (List.Mem.tail _ (List.Mem.tail _ (List.Mem.head _)))) (.inl (by kernel_rfl)))<| T_gp1 14 82 (vp (some ((ad b).add 1))) (bv 23 32767) [10]<| T_g1 15 83 (vi aa) (bv 23 65535) [82] (loadN 3 (vp (some ((ad b).add 1)))) (held_one 17 (λ_=>by kernel_rfl) (List.Mem.tail _ (List.Mem.tail _ (List.Mem.tail _ (List.Mem.tail _ (List.Mem.head _))))) (.inl (by kernel_rfl)))<| T_gp1 16 84 (vi i) (bv 23 131071) [] ?_
  refine G_call 17 (some 85) (bv 23 262143) 111 #[vp r,vi z,vi aa,vi i] (by kernel_rfl) (λ_=>by kernel_rfl) h (by kernel_rfl) ?_;clear h
  rintro b0 H8 ⟨f,o,rfl,h⟩
  refine⟨[(0,vp (some d)),(1,vu wv),(7,vi i),(8,vi a),(85,.tuple #[vi f,vi o])],pk,(show FactsAt _ _ _ from⟨trivial,trivial,trivial,trivial,trivial,trivial⟩),?_⟩
  refine T_g 18 (some 67) (.tuple #[vi f,vi o]) (bv 23 524287) [(0,vp (some d)),(1,vu wv),(7,vi i),(8,vi a),(67,.tuple #[vi f,vi o])] (pure (.value (.tuple #[vi f,vi o])):Sem Next) (λ_ _ _ _ _=>rfl)<| T_g1 19 86 (vi f) (bv 23 1048575) [] (pure (.value (vi f)):Sem Next) (λ_ _ _ _ _=>rfl)<| T_g1 20 87 (vi o) (bv 23 2097151) [67] (pure (.value (vi o)):Sem Next) (λ_ _ _ _ _=>rfl)<| T_g1 21 12 (vi f) (bv 23 4194303) [86] (pure (.value (vi f)):Sem Next) (λ_ _ _ _ _=>rfl)<| T_g1 22 13 (vi o) (bv 23 8388607) [87] (pure (.value (vi o)):Sem Next) (λ_ _ _ _ _=>rfl) ?_
  refine G_sub [(0,vp (some d)),(1,vu wv),(7,vi i),(8,vi a),(12,vi f),(13,vi o)] sk ?_
  refine G_end (by kernel_rfl) ?_
  refine S_then ?_
  refine T_sz<| T_srz 12<| T_ne 2 [(0,vp (some d)),(1,vu wv),(7,vi i),(8,vi a),(12,vi f),(89,.bool (o !=0))] ?_
  by_cases c21:o=0
  ·rw[if_pos c21]at h
   refine T_cFz 89 (bne_eq_false_iff_eq.mpr c21)<| T_kt<| T_sz<| T_srz 14<| T_ed 2 [7,89] [(91,vi i),(92,vi 0)]<| T_bz 0 ?_
   obtain⟨ba,m47,i23,i24⟩:=h
   refine S_loop (x:=K46) (σ:=Int) (λs_=> [(0,vp (some d)),(1,vu wv),(8,vi a),(12,vi f),(91,vi i),(92,vi s_)]) (λs_ H=>ba s_ H) (λs_ H=>m47 s_ H) (0:Int) (by kernel_rfl) i23 sk ?_
   rintro j H9 i25
   have h:=i24 j H9 i25
   refine T_su [(0,vp (some d)),(1,vu wv),(8,vi a),(12,vi f),(91,vi i),(92,vi j)]<| T_srz 15<| T_ed 1 [] [(93,.bool (decide (j<i)))]<| T_sz ?_
   by_cases c26:j<i
   ·rw[if_pos c26]at h
    refine T_cTz 93 (decide_eq_true c26)<| T_kt<| T_sz<| T_bz 1<| T_srz 16<| T_ed 2 [93] [(14,vi j)]<| T_srz 17<| T_nd 3 [] [(98,vp (some d))] ?_
    obtain⟨aj,q28,h⟩:=h
    refine T_l1 99 28 q28 [98] ?_
    obtain⟨ax,rfl,h⟩:=h
    refine T_nd 2 [99] [(101,vp (some ax))] ?_
    obtain⟨a0,q29,h⟩:=h
    refine T_l1 102 54 q29 [101] ?_
    obtain⟨aw,rfl,h⟩:=h
    refine T_nd 2 [102] [(104,vp (some aw))] ?_
    obtain⟨au,q30,h⟩:=h
    refine T_l1 105 58 q30 [104] ?_
    obtain⟨an,rfl,h⟩:=h
    refine T_nd 2 [105] [(107,vp (some an))] ?_
    obtain⟨ac,q31,h⟩:=h
    refine T_l1 108 61 q31 [107]<| T_nd 3 [] [(111,vi (IntKind.wrap .i64 (a+j)))] ?_
    refine T_c (some 112) h ?_;clear h
    rintro bt a7 ⟨p,bg,rfl,h⟩
    refine T_pd [108,111] [(112,.tuple #[vu p,vi bg])]<| T_ed 5 [112] [(15,vu p)]<| T_rz 18<| T_nd 3 [] [(117,vp (some d))] ?_
    obtain⟨am,q32,h⟩:=h
    refine T_l1 118 28 q32 [117] ?_
    obtain⟨a3,rfl,h⟩:=h
    refine T_nd 2 [118] [(120,vp (some a3))] ?_
    obtain⟨aq,q33,h⟩:=h
    refine T_l1 121 54 q33 [120] ?_
    obtain⟨a2,rfl,h⟩:=h
    refine T_nd 2 [121] [(123,vp (some a2))] ?_
    obtain⟨al,q34,h⟩:=h
    refine T_l1 124 58 q34 [123] ?_
    obtain⟨az,rfl,h⟩:=h
    refine T_nd 2 [124] [(126,vp (some az))] ?_
    obtain⟨ab,q35,h⟩:=h
    refine T_l1 127 61 q35 [126]<| T_nd 4 [14,15] [(130,vi (IntKind.wrap .i64 (f+j))),(131,vu p)] ?_
    refine T_c (some 132) h ?_;clear h
    rintro b5 bm ⟨bl,rfl,h⟩
    refine T_pd [127,130,131] [] ?_
    refine N_end (by kernel_rfl) ?_
    refine S_blockEnd ?_
    refine S_then ?_
    refine T_rz 19<| T_ed 2 [92] [(92,vi (IntKind.wrap .i64 (j+1)))] ?_
    exact S_round ((IntKind.wrap .i64 (j+1)):Int) sk h
   rw[if_neg c26]at h
   refine T_cFz 93 (decide_eq_false c26) ?_
   refine S_exit 0 (by kernel_rfl) ?_
   refine S_exitThen ?_
   refine S_exitThen ?_
   refine S_exitHere ?_
   refine S_then ?_
   refine T_srz 20<| T_nd 1 [91,92,93] [(135,vi f)] ?_
   refine T_c (some 136) h ?_;clear h
   rintro b3 a6 ⟨q,bh,rfl,h⟩
   refine T_pd [135] [(136,.tuple #[vu q,vi bh])]<| T_ed 5 [136] [(17,vu q)]<| T_srz 21<| T_nd 3 [0] [(141,vp (some d))] ?_
   obtain⟨av,q36,h⟩:=h
   refine T_l1 142 28 q36 [141] ?_
   obtain⟨ao,rfl,h⟩:=h
   refine T_nd 2 [142] [(144,vp (some ao))] ?_
   obtain⟨ay,q37,h⟩:=h
   refine T_l1 145 54 q37 [144] ?_
   obtain⟨a4,rfl,h⟩:=h
   refine T_nd 2 [145] [(147,vp (some a4))] ?_
   obtain⟨a1,q38,h⟩:=h
   refine T_l1 148 58 q38 [147] ?_
   obtain⟨ak,rfl,h⟩:=h
   refine T_nd 2 [148] [(150,vp (some ak))] ?_
   obtain⟨ae,q39,h⟩:=h
   refine T_l1 151 61 q39 [150]<| T_nd 2 [8,17] [(152,vi a),(153,vu q)] ?_
   refine T_c (some 154) h ?_;clear h
   rintro bp bs ⟨bn,rfl,h⟩
   refine T_pd [151,152,153] []<| T_e<| T_srz 22<| T_nd 1 [1] [(156,vu wv)] ?_
   refine T_c (some 157) h ?_;clear h
   rintro bk bx ⟨ai,rfl,h⟩
   refine T_pd [156] [(157,vi ai)]<| T_nd 1 [12] [(158,vi f)] ?_
   refine T_c (some 159) h ?_;clear h
   rintro bq bu ⟨af,bf,rfl,h⟩
   refine⟨[(159,.tuple #[vu af,vi bf])],pk,?_⟩
   exact T_ne 5 [(19,vu af)]<| T_srz 23<| T_nr 2 [4] [vu af] hQ h
  rw[if_neg c21]at h
  exact T_cTz 89 (bne_iff_ne.mpr c21)<| T_srz 13<| T_nr 2 [4] [vu wv] hQ h
 rw[if_neg c1]at h
 exact T_cTz 24 (congrArg Bool.not (eq_false_of_ne_true c1))<| T_srz 2<| T_nr 2 [4] [vu wv] hQ h
end trace_Trace_Visit

/-! (*moraine/trace.Trace).Cards -/
namespace trace_Trace_Cards
def K0:=Func.code Tryz.f35
def K2:=cb K0
def K8:=cb K2
def K9:=ca K8
def K10:=ca K9
def K12:=cb K10
def K14:=cb K12
def K17:=ca K14
def K19:=ca K17
def K21:=cb K19
def K22:=ca K21
end trace_Trace_Cards
def trace_Trace_Cards.pt(tv:Option Addr)(H:Array Obj)(R:Value->Array Obj->Prop):Prop:=
 trace_Trace_none.C tv H (λv H1=> ∃x:Bool,v=.bool x/\
 if x=true then(
 R (.tuple #[]) H1)
 else
 ∃d:Addr,tv=some d/\
 ∃(xB:Option Addr) (xN xC:Nat),hat H1 (d.add 1028)=some (.slice xB xN xC)/\
 ∃(a2:Int->Array Obj->Prop) (m11:Int->Array Obj->Nat),a2 0 H1/\ ∀(f:Int) (H2:Array Obj),a2 f H2->
 if f< (xN:Int)then(
 ∃j:Addr,xB=some j/\
 ((0:Int)<=f/\f< (xN:Int))/\
 ∃aw ap:Int,RowAt H2 (j.add (Int.toNat f*2)) 0 [.int .i64 aw,.int .i64 ap]/\
 ∀(b:Nat) (H3:Array Obj),b=H2.size->H3=H2.push (.cells #[.int .i64 0,.int .i64 0] 198)->
 (CanPuts H3 (ad b) 0 2)/\ ∀H4,H4=hputs H3 (ad b) [.int .i64 aw,.int .i64 ap] 0->
 ∃a7:Option Addr,hat H4 d=some (.pointer a7)/\
 ∃am:Addr,a7=some am/\
 ∃a6:Option Addr,hat H4 am=some (.pointer a6)/\
 ∃al:Addr,a6=some al/\
 ∃a4:Option Addr,hat H4 al=some (.pointer a4)/\
 ∃ao:Addr,a4=some ao/\
 ∃av:Option Addr,hat H4 ao=some (.pointer av)/\
 ∃ay:Int,hat H4 (ad b)=some (.int .i64 ay)/\
 (
 seg_Mem_Seg.C av ay H4 (λa9 H5=> ∃(ab z an r q s p:Int) (rb:Bool),a9=.tuple #[.agg #[.int .i64 ab,.int .i64 z,.int .i64 an,.int .i64 r,.int .i64 q,.int .i64 s,.int .i64 p],.bool rb]/\
 ∀(ae:Nat) (H6:Array Obj),ae=H5.size->H6=H5.push (.cells #[.int .i64 0,.int .i64 0,.int .i64 0,.int .i64 0,.int .i64 0,.int .i64 0,.int .i64 0] 82)->
 (CanPuts H6 (ad ae) 0 7)/\ ∀H7,H7=hputs H6 (ad ae) [.int .i64 ab,.int .i64 z,.int .i64 an,.int .i64 r,.int .i64 q,.int .i64 s,.int .i64 p] 0->
 ∃au:Int,hat H7 (ad b)=some (.int .i64 au)/\
 ∃ax:Int,hat H7 ((ad b).add 1)=some (.int .i64 ax)/\
 ∃aq:Int,hat H7 ((ad ae).add 2)=some (.int .i64 aq)/\
 ∃aj:Int,hat H7 ((ad b).add 1)=some (.int .i64 aj)/\
 ∃a1:Int,hat H7 ((ad ae).add 1)=some (.int .i64 a1)/\
 trace_Trace_look.C (some d) au (IntKind.wrap .i64 (ax*16)) (if(IntKind.wrap .i64 ((IntKind.wrap .i64 (aj+1))*16))<aq then(IntKind.wrap .i64 ((IntKind.wrap .i64 (aj+1))*16))else aq) a1 H7 (λ_ H8=>
 (a2 (IntKind.wrap .i64 (f+1)) H8/\m11 (IntKind.wrap .i64 (f+1)) H8<m11 f H2))))/\(
 ∀(aa:Nat) (H9:Array Obj),aa=H4.size->H9=H4.push (.cells #[.int .i64 0,.int .i64 0,.int .i64 0,.int .i64 0,.int .i64 0,.int .i64 0,.int .i64 0] 82)->RowAt H9 d 0 [.pointer (some am)]/\RowAt H9 am 0 [.pointer (some al)]/\RowAt H9 al 0 [.pointer (some ao)]/\RowAt H9 ao 0 [.pointer av]/\RowAt H9 (ad b) 0 [.int .i64 ay]/\
 seg_Mem_Seg.C av ay H9 (λa8 a3=> ∃(y u ac n l o m:Int) (ah:Bool),a8=.tuple #[.agg #[.int .i64 y,.int .i64 u,.int .i64 ac,.int .i64 n,.int .i64 l,.int .i64 o,.int .i64 m],.bool ah]/\
 (CanPuts a3 (ad aa) 0 7)/\ ∀az,az=hputs a3 (ad aa) [.int .i64 y,.int .i64 u,.int .i64 ac,.int .i64 n,.int .i64 l,.int .i64 o,.int .i64 m] 0->
 ∃af:Int,hat az (ad b)=some (.int .i64 af)/\
 ∃ai:Int,hat az ((ad b).add 1)=some (.int .i64 ai)/\
 ∃ag:Int,hat az ((ad aa).add 2)=some (.int .i64 ag)/\
 ∃ak:Int,hat az ((ad b).add 1)=some (.int .i64 ak)/\
 ∃a0:Int,hat az ((ad aa).add 1)=some (.int .i64 a0)/\
 trace_Trace_look.C (some d) af (IntKind.wrap .i64 (ai*16)) (if(IntKind.wrap .i64 ((IntKind.wrap .i64 (ak+1))*16))<ag then(IntKind.wrap .i64 ((IntKind.wrap .i64 (ak+1))*16))else ag) a0 az (λ_ a5=>
 (a2 (IntKind.wrap .i64 (f+1)) a5/\m11 (IntKind.wrap .i64 (f+1)) a5<m11 f H2)))))
 else
 R (.tuple #[]) H2)
namespace trace_Trace_Cards
theorem link{tv:Option Addr}{H:Array Obj}{R:Value->Array Obj->Prop}(h:pt tv H R):C tv H R:=by
 refine T_en K0 53 Tryz.func35 ?_
 intro w0 Q hQ
 unfold pt at h
 refine T_su [(0,vp tv)]<| T_sz<| T_srz 0<| T_nd 1 [] [(6,vp tv)] ?_
 refine T_c (some 7) h ?_;clear h
 rintro v H1 ⟨x,rfl,h⟩
 refine T_pd [6] [(7,.bool x)]<| T_e ?_
 by_cases c1:x=true
 ·rw[if_pos c1]at h
  exact T_cTz 7 c1<| T_ret [] [] hQ h
 rw[if_neg c1]at h
 refine T_cFz 7 (eq_false_of_ne_true c1)<| T_kt<| T_srz 1<| T_nd 1 [7] [(8,vp tv)] ?_
 obtain⟨d,rfl,h⟩:=h
 refine T_n 2 [(0,vp (some d)),(10,vp (some (d.add 1028)))] ?_
 obtain⟨xB,xN,xC,q3,h⟩:=h
 refine T_l1 11 188 q3 [10]<| T_ed 2 [] [(12,vi xN),(13,vi 0)]<| T_bz 0 ?_
 obtain⟨a2,m11,i4,i5⟩:=h
 refine S_loop (x:=K10) (σ:=Int) (λs_=> [(0,vp (some d)),(11,vs xB xN xC),(12,vi xN),(13,vi s_)]) (λs_ H=>a2 s_ H) (λs_ H=>m11 s_ H) (0:Int) (by kernel_rfl) i4 sk ?_
 rintro f H2 i6
 have h:=i5 f H2 i6
 refine T_su [(0,vp (some d)),(11,vs xB xN xC),(12,vi xN),(13,vi f)]<| T_srz 2<| T_ed 1 [] [(14,.bool (decide (f< (xN:Int))))]<| T_sz ?_
 by_cases c7:f< (xN:Int)
 ·rw[if_pos c7]at h
  refine T_cTz 14 (decide_eq_true c7)<| T_kt<| T_sz<| T_bz 1<| T_srz 3<| T_ud [14] [] ?_
  obtain⟨j,rfl,h⟩:=h
  obtain⟨q9,h⟩:=h
  refine T_xd (some 15) 188 198 2 j xN xC .i64 f Tryz.underlying188 q9.1 q9.2 [11] [(11,vs (some j) xN xC),(15,vp (some (j.add (Int.toNat f*2))))] ?_
  obtain⟨aw,ap,q10,h⟩:=h
  refine T_lr 16 198 q10 [15]<| T_nw (some 3) (λb=>vp (pa b)) (.cells #[vi 0,vi 0] 198) ?_
  intro b H3 e11 e12
  replace h:=h b H3 e11 e12
  refine T_pd [] [(3,vp (pa b))] ?_
  obtain⟨q14,h⟩:=h
  refine T_sta 198 [vi aw,vi ap] q14 ?_
  intro H4 e13
  replace h:=h H4 e13
  refine T_pd [16] []<| T_e<| T_sz ?_
  obtain⟨a7,q15,h⟩:=h
  obtain⟨am,rfl,h⟩:=h
  obtain⟨a6,q16,h⟩:=h
  obtain⟨al,rfl,h⟩:=h
  obtain⟨a4,q17,h⟩:=h
  obtain⟨ao,rfl,h⟩:=h
  obtain⟨av,q18,h⟩:=h
  obtain⟨ay,q19,h⟩:=h
  refine S_regionG 4 (Code.ops K22) [(15,d,[vp (some am)]),(15,am,[vp (some al)]),(15,al,[vp (some ao)]),(15,ao,[vp av]),(15,(ad b),[vi ay])] 22 (bv 22 0) (by kernel_rfl) (by kernel_rfl) (by kernel_rfl) (by kernel_rfl) (by kernel_rfl) (show FactsAt _ _ _ from⟨⟨q15,trivial⟩,⟨q16,trivial⟩,⟨q17,trivial⟩,⟨q18,trivial⟩,⟨q19,trivial⟩,trivial⟩) ?_
  refine T_gp 0 (some 18) (vp (some d)) (bv 22 1) [(0,vp (some d)),(3,vp (pa b)),(11,vs (some j) xN xC),(12,vi xN),(13,vi f),(18,vp (some d))]<| T_gp1 1 19 (vp (some d)) (bv 22 3) [18]<| T_gp1 2 20 (vp (some d)) (bv 22 7) [19]<| T_g1 3 21 (vp (some am)) (bv 22 15) [20] (loadN 28 (vp (some d))) (held_one 15 (λ_=>by kernel_rfl) (List.Mem.head _) (.inl (by kernel_rfl)))<| T_gp1 4 22 (vp (some am)) (bv 22 31) [21]<| T_gp1 5 23 (vp (some am)) (bv 22 63) [22]<| T_g1 6 24 (vp (some al)) (bv 22 127) [23] (loadN 54 (vp (some am))) (held_one 15 (λ_=>by kernel_rfl) (List.Mem.tail _ (List.Mem.head _)) (.inl (by kernel_rfl)))<| T_gp1 7 25 (vp (some al)) (bv 22 255) [24]<| T_gp1 8 26 (vp (some al)) (bv 22 511) [25] ?_
  refine T_g1 9 27 (vp (some ao)) (bv 22 1023) [26] (loadN 58 (vp (some al))) (held_one 15 (λ_=>by kernel_rfl) (List.Mem.tail _ (List.Mem.tail _ (List.Mem.head _))) (.inl (by kernel_rfl)))<| T_gp1 10 28 (vp (some ao)) (bv 22 2047) [27]<| T_gp1 11 29 (vp (some ao)) (bv 22 4095) [28]<| T_g1 12 30 (vp av) (bv 22 8191) [29] (loadN 61 (vp (some ao))) (held_one 15 (λ_=>by kernel_rfl) (List.Mem.tail _ (List.Mem.tail _ (List.Mem.tail _ (List.Mem.head _)))) (.inl (by kernel_rfl)))<| T_gp1 13 31 (vp (pa b)) (bv 22 16383) []<| T_g1 14 32 (vi ay) (bv 22 32767) [31] (loadN 3 (vp (pa b))) (held_one 15 (λ_=>by kernel_rfl) (List.Mem.tail _ (List.Mem.tail _ (List.Mem.tail _ (List.Mem.tail _ (List.Mem.head _))))) (.inl (by kernel_rfl))) ?_
  refine G_fork 15 19 (by kernel_rfl) ?_ ?_
  ·replace h:=h.1
   refine O_call 15 (some 33) (bv 22 65535) 24 #[vp av,vi ay] (by kernel_rfl) (λ_=>by kernel_rfl) h (by kernel_rfl) ?_;clear h
   rintro a9 H5 ⟨ab,z,an,r,q,s,p,rb,rfl,h⟩
   refine⟨[(0,vp (some d)),(3,vp (pa b)),(11,vs (some j) xN xC),(12,vi xN),(13,vi f),(33,.tuple #[.agg #[vi ab,vi z,vi an,vi r,vi q,vi s,vi p],.bool rb])],pk,(show FactsAt _ _ _ from⟨trivial,trivial,trivial,trivial,trivial,trivial⟩),?_⟩
   refine T_g 16 (some 17) (.tuple #[.agg #[vi ab,vi z,vi an,vi r,vi q,vi s,vi p],.bool rb]) (bv 22 131071) [(0,vp (some d)),(3,vp (pa b)),(11,vs (some j) xN xC),(12,vi xN),(13,vi f),(17,.tuple #[.agg #[vi ab,vi z,vi an,vi r,vi q,vi s,vi p],.bool rb])] (pure (.value (.tuple #[.agg #[vi ab,vi z,vi an,vi r,vi q,vi s,vi p],.bool rb])):Sem Next) (λ_ _ _ _ _=>rfl)<| T_g1 17 34 (.agg #[vi ab,vi z,vi an,vi r,vi q,vi s,vi p]) (bv 22 262143) [] (pure (.value (.agg #[vi ab,vi z,vi an,vi r,vi q,vi s,vi p])):Sem Next) (λ_ _ _ _ _=>rfl)<| T_g1 18 35 (.bool rb) (bv 22 524287) [17] (pure (.value (.bool rb)):Sem Next) (λ_ _ _ _ _=>rfl) ?_
   refine G_new 19 (some 4) (bv 22 1048575) (λb=>vp (pa b)) (.cells #[vi 0,vi 0,vi 0,vi 0,vi 0,vi 0,vi 0] 82) (by kernel_rfl) (λ_=>by kernel_rfl) (by kernel_rfl) ?_
   intro ae H6 e20 e21
   replace h:=h ae H6 e20 e21
   refine⟨[(0,vp (some d)),(3,vp (pa b)),(4,vp (pa ae)),(11,vs (some j) xN xC),(12,vi xN),(13,vi f),(34,.agg #[vi ab,vi z,vi an,vi r,vi q,vi s,vi p]),(35,.bool rb)],pk,(show FactsAt _ _ _ from⟨trivial,trivial,trivial,trivial,trivial,trivial⟩),?_⟩
   obtain⟨q23,h⟩:=h
   refine G_onlyskip 20 none (bv 22 2097151) (storeN 82 (vp (pa ae)) (.agg #[vi ab,vi z,vi an,vi r,vi q,vi s,vi p])) (λHz=>Hz=hputs H6 (ad ae) [vi ab,vi z,vi an,vi r,vi q,vi s,vi p] 0) (by kernel_rfl) (λ_=>by kernel_rfl) (ss_store [vi ab,vi z,vi an,vi r,vi q,vi s,vi p] 7 (by kernel_rfl) (by kernel_rfl) (λ_=>by kernel_rfl) (by kernel_rfl) q23) (by kernel_rfl) ?_
   intro H7 e22
   replace h:=h H7 e22
   refine⟨[(0,vp (some d)),(3,vp (pa b)),(4,vp (pa ae)),(11,vs (some j) xN xC),(12,vi xN),(13,vi f),(35,.bool rb)],pk,(show FactsAt _ _ _ from⟨trivial,trivial,trivial,trivial,trivial,trivial⟩),?_⟩
   refine T_g 21 (some 5) (.bool rb) (bv 22 4194303) [(0,vp (some d)),(3,vp (pa b)),(4,vp (pa ae)),(11,vs (some j) xN xC),(12,vi xN),(13,vi f)] (pure (.value (.bool rb)):Sem Next) (λ_ _ _ _ _=>rfl) ?_
   refine G_sub [(0,vp (some d)),(3,vp (pa b)),(4,vp (pa ae)),(11,vs (some j) xN xC),(12,vi xN),(13,vi f)] sk ?_
   refine G_end (by kernel_rfl) ?_
   refine S_then ?_
   refine T_rz 5<| T_n 2 [(0,vp (some d)),(3,vp (pa b)),(4,vp (pa ae)),(11,vs (some j) xN xC),(12,vi xN),(13,vi f),(36,vp (some d)),(37,vp (pa b))] ?_
   obtain⟨au,q24,h⟩:=h
   refine T_l1 38 3 q24 [37]<| T_nd 1 [] [(39,vp (some ((ad b).add 1)))] ?_
   obtain⟨ax,q25,h⟩:=h
   refine T_l1 40 3 q25 [39]<| T_nd 2 [40] [(41,vi (IntKind.wrap .i64 (ax*16))),(42,vp (some ((ad ae).add 2)))] ?_
   obtain⟨aq,q26,h⟩:=h
   refine T_l1 43 3 q26 [42]<| T_nd 1 [3] [(44,vp (some ((ad b).add 1)))] ?_
   obtain⟨aj,q27,h⟩:=h
   refine T_l1 45 3 q27 [44]<| T_nd 4 [4,43,45] [(48,vi (if(IntKind.wrap .i64 ((IntKind.wrap .i64 (aj+1))*16))<aq then(IntKind.wrap .i64 ((IntKind.wrap .i64 (aj+1))*16))else aq)),(49,vp (some ((ad ae).add 1)))] ?_
   obtain⟨a1,q28,h⟩:=h
   refine T_l1 50 3 q28 [49] ?_
   refine T_c (some 51) h ?_;clear h
   intro v_3 H8 h
   refine T_pd [36,38,41,48,50] [] ?_
   refine N_end (by kernel_rfl) ?_
   refine S_blockEnd ?_
   refine S_then ?_
   refine T_rz 6<| T_ed 2 [13] [(13,vi (IntKind.wrap .i64 (f+1)))] ?_
   exact S_round ((IntKind.wrap .i64 (f+1)):Int) sk h
  replace h:=h.2
  refine O_new 19 (some 4) (bv 22 557055) (λb=>vp (pa b)) (.cells #[vi 0,vi 0,vi 0,vi 0,vi 0,vi 0,vi 0] 82) (by kernel_rfl) (λ_=>by kernel_rfl) (by kernel_rfl) ?_
  intro aa H9 e34 e35
  replace h:=h aa H9 e34 e35
  obtain⟨f29,f30,f31,f32,f33,h⟩:=h
  refine⟨[(0,vp (some d)),(3,vp (pa b)),(4,vp (pa aa)),(11,vs (some j) xN xC),(12,vi xN),(13,vi f),(30,vp av),(32,vi ay)],pk,(show FactsAt _ _ _ from⟨f29,f30,f31,f32,f33,trivial⟩),?_⟩
  refine G_call 15 (some 33) (bv 22 589823) 24 #[vp av,vi ay] (by kernel_rfl) (λ_=>by kernel_rfl) h (by kernel_rfl) ?_;clear h
  rintro a8 a3 ⟨y,u,ac,n,l,o,m,ah,rfl,h⟩
  refine⟨[(0,vp (some d)),(3,vp (pa b)),(4,vp (pa aa)),(11,vs (some j) xN xC),(12,vi xN),(13,vi f),(33,.tuple #[.agg #[vi y,vi u,vi ac,vi n,vi l,vi o,vi m],.bool ah])],pk,(show FactsAt _ _ _ from⟨trivial,trivial,trivial,trivial,trivial,trivial⟩),?_⟩
  refine T_g 16 (some 17) (.tuple #[.agg #[vi y,vi u,vi ac,vi n,vi l,vi o,vi m],.bool ah]) (bv 22 655359) [(0,vp (some d)),(3,vp (pa b)),(4,vp (pa aa)),(11,vs (some j) xN xC),(12,vi xN),(13,vi f),(17,.tuple #[.agg #[vi y,vi u,vi ac,vi n,vi l,vi o,vi m],.bool ah])] (pure (.value (.tuple #[.agg #[vi y,vi u,vi ac,vi n,vi l,vi o,vi m],.bool ah])):Sem Next) (λ_ _ _ _ _=>rfl)<| T_g1 17 34 (.agg #[vi y,vi u,vi ac,vi n,vi l,vi o,vi m]) (bv 22 786431) [] (pure (.value (.agg #[vi y,vi u,vi ac,vi n,vi l,vi o,vi m])):Sem Next) (λ_ _ _ _ _=>rfl)<| T_g1 18 35 (.bool ah) (bv 22 1048575) [17] (pure (.value (.bool ah)):Sem Next) (λ_ _ _ _ _=>rfl) ?_
  obtain⟨q37,h⟩:=h
  refine G_onlyskip 20 none (bv 22 2097151) (storeN 82 (vp (pa aa)) (.agg #[vi y,vi u,vi ac,vi n,vi l,vi o,vi m])) (λHz=>Hz=hputs a3 (ad aa) [vi y,vi u,vi ac,vi n,vi l,vi o,vi m] 0) (by kernel_rfl) (λ_=>by kernel_rfl) (ss_store [vi y,vi u,vi ac,vi n,vi l,vi o,vi m] 7 (by kernel_rfl) (by kernel_rfl) (λ_=>by kernel_rfl) (by kernel_rfl) q37) (by kernel_rfl) ?_
  intro az e36
  replace h:=h az e36
  refine⟨[(0,vp (some d)),(3,vp (pa b)),(4,vp (pa aa)),(11,vs (some j) xN xC),(12,vi xN),(13,vi f),(35,.bool ah)],pk,(show FactsAt _ _ _ from⟨trivial,trivial,trivial,trivial,trivial,trivial⟩),?_⟩
  refine T_g 21 (some 5) (.bool ah) (bv 22 4194303) [(0,vp (some d)),(3,vp (pa b)),(4,vp (pa aa)),(11,vs (some j) xN xC),(12,vi xN),(13,vi f)] (pure (.value (.bool ah)):Sem Next) (λ_ _ _ _ _=>rfl) ?_
  refine G_sub [(0,vp (some d)),(3,vp (pa b)),(4,vp (pa aa)),(11,vs (some j) xN xC),(12,vi xN),(13,vi f)] sk ?_
  refine G_end (by kernel_rfl) ?_
  refine S_then ?_
  refine T_rz 5<| T_n 2 [(0,vp (some d)),(3,vp (pa b)),(4,vp (pa aa)),(11,vs (some j) xN xC),(12,vi xN),(13,vi f),(36,vp (some d)),(37,vp (pa b))] ?_
  obtain⟨af,q38,h⟩:=h
  refine T_l1 38 3 q38 [37]<| T_nd 1 [] [(39,vp (some ((ad b).add 1)))] ?_
  obtain⟨ai,q39,h⟩:=h
  refine T_l1 40 3 q39 [39]<| T_nd 2 [40] [(41,vi (IntKind.wrap .i64 (ai*16))),(42,vp (some ((ad aa).add 2)))] ?_
  obtain⟨ag,q40,h⟩:=h
  refine T_l1 43 3 q40 [42]<| T_nd 1 [3] [(44,vp (some ((ad b).add 1)))] ?_
  obtain⟨ak,q41,h⟩:=h
  refine T_l1 45 3 q41 [44]<| T_nd 4 [4,43,45] [(48,vi (if(IntKind.wrap .i64 ((IntKind.wrap .i64 (ak+1))*16))<ag then(IntKind.wrap .i64 ((IntKind.wrap .i64 (ak+1))*16))else ag)),(49,vp (some ((ad aa).add 1)))] ?_
  obtain⟨a0,q42,h⟩:=h
  refine T_l1 50 3 q42 [49] ?_
  refine T_c (some 51) h ?_;clear h
  intro v_5 a5 h
  refine T_pd [36,38,41,48,50] [] ?_
  refine N_end (by kernel_rfl) ?_
  refine S_blockEnd ?_
  refine S_then ?_
  refine T_rz 6<| T_ed 2 [13] [(13,vi (IntKind.wrap .i64 (f+1)))] ?_
  exact S_round ((IntKind.wrap .i64 (f+1)):Int) sk h
 rw[if_neg c7]at h
 refine T_cFz 14 (decide_eq_false c7) ?_
 refine S_exit 0 (by kernel_rfl) ?_
 refine S_exitThen ?_
 refine S_exitThen ?_
 refine S_exitHere ?_
 exact S_doneN (fn:=Tryz.f35) [] hQ (show ResOK _ _ _ [] _ from .nil) h
end trace_Trace_Cards

/-! (*moraine/trace.Trace).Drain -/
namespace trace_Trace_Drain
def K0:=Func.code Tryz.f36
def K1:=ca K0
def K2:=ca K1
end trace_Trace_Drain
def trace_Trace_Drain.pt(tv:Option Addr)(H:Array Obj)(R:Value->Array Obj->Prop):Prop:=
 ∃(I3:Array Obj->Prop) (m3:Array Obj->Nat),I3 H/\ ∀(H1:Array Obj),I3 H1->
 trace_Trace_none.C tv H1 (λv H2=> ∃x:Bool,v=.bool x/\
 if x=true then(
 R (.tuple #[]) H2)
 else
 trace_Trace_round.C tv H2 (λb H3=> ∃a:Bool,b=.bool a/\
 if a=true then(
 (I3 H3/\m3 H3<m3 H1))
 else
 R (.tuple #[]) H3))
namespace trace_Trace_Drain
theorem link{tv:Option Addr}{H:Array Obj}{R:Value->Array Obj->Prop}(h:pt tv H R):C tv H R:=by
 refine T_en K0 9 Tryz.func36 ?_
 intro w0 Q hQ
 unfold pt at h
 refine T_su [(0,vp tv)]<| T_bz 0 ?_
 obtain⟨I3,m3,i1,i2⟩:=h
 refine S_loop (x:=K2) (σ:=Unit) (λs_=> [(0,vp tv)]) (λs_ H=>I3 H) (λs_ H=>m3 H) (():Unit) (by kernel_rfl) i1 sk ?_
 rintro _ H1 i3
 have h:=i2 H1 i3
 refine T_su [(0,vp tv)]<| T_sz<| T_srz 0<| T_nd 1 [] [(2,vp tv)] ?_
 refine T_c (some 3) h ?_;clear h
 rintro v H2 ⟨x,rfl,h⟩
 refine T_pd [2] [(3,.bool x)]<| T_nd 2 [3] [(5,.bool (!x))] ?_
 by_cases c4:x=true
 ·rw[if_pos c4]at h
  have b5:(!x)=false:=congrArg Bool.not (c4)
  have b52:x=true:=c4
  refine N_bd 5 (b:=(!x)) (v:=false) (by simp only[b5,b52,Bool.not_true,Bool.not_false]) ?_
  clear b5 b52
  refine T_ed 3 [5] [(8,.bool false)]<| T_fz 8 ?_
  refine S_exit 0 (by kernel_rfl) ?_
  refine S_exitThen ?_
  refine S_exitThen ?_
  refine S_exitHere ?_
  exact S_doneN (fn:=Tryz.f36) [] hQ (show ResOK _ _ _ [] _ from .nil) h
 rw[if_neg c4]at h
 have b5:(!x)=true:=congrArg Bool.not (eq_false_of_ne_true c4)
 have b52:x=false:=eq_false_of_ne_true c4
 refine N_bd 5 (b:=(!x)) (v:=true) (by simp only[b5,b52,Bool.not_true,Bool.not_false]) ?_
 clear b5 b52
 refine T_nd 1 [] [(6,vp tv)] ?_
 refine T_c (some 7) h ?_;clear h
 rintro b H3 ⟨a,rfl,h⟩
 refine T_pd [6] [(7,.bool a)]<| T_ed 1 [5,7] [(8,.bool a)] ?_
 by_cases c6:a=true
 ·rw[if_pos c6]at h
  refine T_cTz 8 c6<| T_kt<| T_bz 1<| T_k ?_
  refine S_blockEnd ?_
  refine S_then ?_
  exact S_round (s:=()) (():Unit) sk h
 rw[if_neg c6]at h
 refine T_cFz 8 (eq_false_of_ne_true c6) ?_
 refine S_exit 0 (by kernel_rfl) ?_
 refine S_exitThen ?_
 refine S_exitThen ?_
 refine S_exitHere ?_
 exact S_doneN (fn:=Tryz.f36) [] hQ (show ResOK _ _ _ [] _ from .nil) h
end trace_Trace_Drain

end Go.Proofs.YtdoghjgbhefphaaGreat
