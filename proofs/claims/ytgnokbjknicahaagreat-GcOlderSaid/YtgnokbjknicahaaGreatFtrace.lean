/- Printed: what each function asks, and that it is sound. -/
import Derived.Test.YtgnokbjknicahaaGreatFnsC
set_option linter.unusedSimpArgs false
set_option linter.unusedVariables false
set_option maxRecDepth 100000
set_option maxHeartbeats 1000000
noncomputable section
namespace Go.Proofs.YtgnokbjknicahaaGreat
open Go
/-! moraine/trace.Start -/
namespace trace_Start
def K0:=Func.code Tryz.f27
def K2:=cb K0
def K4:=cb K2
def K12:=cb K4
def K13:=ca K12
def K14:=cb K12
def K16:=cb K13
def K17:=ca K16
def K18:=ca K17
def K31:=cb K14
def K33:=cb K31
def K41:=cb K33
def K42:=ca K41
def K43:=cb K41
def K45:=cb K42
def K46:=ca K45
def K47:=ca K46
def K59:=ca K43
def K62:=cb K59
def K63:=ca K62
def K64:=ca K63
def K66:=cb K64
def K68:=cb K66
def K71:=ca K68
def K73:=ca K71
def K75:=cb K73
def K77:=cb K75
end trace_Start
def trace_Start.pt(hv:Option Addr)(g d m:Int)(H:Array Obj)(R:Value->Array Obj->Prop):Prop:=
 onPtr hv (
 R (.tuple #[.pointer none,.int .i64 1]) H) (λf=>
 ∃x:Option Addr,hat H f=some (.pointer x)/\
 onPtr x (
 R (.tuple #[.pointer none,.int .i64 1]) H) (λxA=>
 if(((((decide (g<0)) || (decide (g>=4))) || (decide (d<g))) || (decide (d>(IntKind.wrap .i64 (g+1))))) || (decide (m<0)))=true then(
 R (.tuple #[.pointer none,.int .i64 1]) H)
 else
 ∃(b1:(Option Addr)->Nat->Nat->Int->Array Obj->Prop) (m19:(Option Addr)->Nat->Nat->Int->Array Obj->Nat),b1 none 0 0 0 H/\ ∀(e:Option Addr) (gensN:Nat) (gensC:Nat) (s54:Int) (H1:Array Obj),b1 e gensN gensC s54 H1->
 if s54< (IntKind.wrap .i64 (g+1))then(
 ∀(b:Nat) (H2:Array Obj),b=H1.size->H2=H1.push (.cells #[.int .i64 s54] 3)->
 appendK 1 3 8 [.int .i64 0] e gensN gensC (some (ad b)) 1 H2 (λap ba H3=>
 (b1 ap (gensN+1) ba (IntKind.wrap .i64 (s54+1)) H3/\m19 ap (gensN+1) ba (IntKind.wrap .i64 (s54+1)) H3<m19 e gensN gensC s54 H1)))
 else
 ∃br:Option Addr,hat H1 f=some (.pointer br)/\
 ∃b2:Addr,br=some b2/\
 ∃bx:Option Addr,hat H1 b2=some (.pointer bx)/\
 ∃bz:Addr,bx=some bz/\
 ∃be:Option Addr,hat H1 bz=some (.pointer be)/\
 seg_Mem_Taken.C be e gensN gensC H1 (λv H4=> ∃(xB:Option Addr) (xN xC:Nat),v=.slice xB xN xC/\
 ∃bq:Option Addr,hat H4 f=some (.pointer bq)/\
 ∃bu:Addr,bq=some bu/\
 ∃bs:Option Addr,hat H4 bu=some (.pointer bs)/\
 ∃bt:Addr,bs=some bt/\
 ∃bo:Option Addr,hat H4 bt=some (.pointer bo)/\
 seg_Mem_Free.C bo H4 (λch H5=> ∃a4:Int,ch=.int .i64 a4/\
 if(IntKind.wrap .i64 ((IntKind.wrap .i64 (a4-(IntKind.wrap .i64 (2*(xN:Int)))))-8))<m then(
 R (.tuple #[.pointer none,.int .i64 2]) H5)
 else
 ∀(a5:Nat) (H6:Array Obj),a5=H5.size->H6=H5.push (.map #[] 0)->
 ∀(a9:Nat) (H7:Array Obj),a9=H6.size->H7=H6.push (.map #[] 0)->
 ∀(l:Nat) (H8:Array Obj),l=H7.size->H8=H7.push (.cells ([.pointer (some f),.int .i64 d]++List.replicate 1024 (.int .i64 0)++[.map (some a5),.map (some a9),.slice none 0 0,.int .i64 0]:List Value).toArray 127)->
 ∃(b0:Int->Array Obj->Prop) (m48:Int->Array Obj->Nat),b0 0 H8/\ ∀(s:Int) (H9:Array Obj),b0 s H9->
 if s< (xN:Int)then(
 ∃ao:Addr,xB=some ao/\
 ((0:Int)<=s/\s< (xN:Int))/\
 ∃al:Int,hat H9 (ao.add (Int.toNat s*1))=some (.int .i64 al)/\
 ((0:Int)<=al/\al< (1024:Int))/\
 (CanPuts H9 (((ad l).add 2).add (Int.toNat al*1)) 0 1)/\ ∀b4,b4=hputs H9 (((ad l).add 2).add (Int.toNat al*1)) [.int .i64 1] 0->
 (b0 (IntKind.wrap .i64 (s+1)) b4/\m48 (IntKind.wrap .i64 (s+1)) b4<m48 s H9))
 else
 ∃bj:Option Addr,hat H9 f=some (.pointer bj)/\
 ∃bl:Addr,bj=some bl/\
 ∃bm:Option Addr,hat H9 bl=some (.pointer bm)/\
 ∃a6:Addr,bm=some a6/\
 ∃aw:Option Addr,hat H9 a6=some (.pointer aw)/\
 ∀(bn:Nat) (H11:Array Obj),bn=H9.size->H11=H9.push (.cells #[.int .i64 d] 3)->
 seg_Mem_Taken.C aw (some (ad bn)) 1 1 H11 (λcg ce=> ∃(an:Option Addr) (j q:Nat),cg=.slice an j q/\
 ∃(bw:Int->Array Obj->Prop) (m65:Int->Array Obj->Nat),bw 0 ce/\ ∀(o:Int) (H13:Array Obj),bw o H13->
 if o< (j:Int)then(
 ∃r:Addr,an=some r/\
 ((0:Int)<=o/\o< (j:Int))/\
 ∃p:Int,hat H13 (r.add (Int.toNat o*1))=some (.int .i64 p)/\
 ∃bg:Option Addr,hat H13 f=some (.pointer bg)/\
 ∃bi:Addr,bg=some bi/\
 ∃a8:Option Addr,hat H13 bi=some (.pointer a8)/\
 ∃bd:Addr,a8=some bd/\
 ∃az:Option Addr,hat H13 bd=some (.pointer az)/\
 seg_Mem_Seg.C az p H13 (λcj cd=> ∃(am ah a1 ac ab ae aa:Int) (rb:Bool),cj=.tuple #[.agg #[.int .i64 am,.int .i64 ah,.int .i64 a1,.int .i64 ac,.int .i64 ab,.int .i64 ae,.int .i64 aa],.bool rb]/\
 ∀(y:Nat) (H15:Array Obj),y=cd.size->H15=cd.push (.cells #[.int .i64 0,.int .i64 0,.int .i64 0,.int .i64 0,.int .i64 0,.int .i64 0,.int .i64 0] 76)->
 (CanPuts H15 (ad y) 0 7)/\ ∀ax,ax=hputs H15 (ad y) [.int .i64 am,.int .i64 ah,.int .i64 a1,.int .i64 ac,.int .i64 ab,.int .i64 ae,.int .i64 aa] 0->
 ∃af:Option Nat,hat ax ((ad l).add 1026)=some (.map af)/\
 ∃ai:Option Nat,hat ax ((ad l).add 1027)=some (.map ai)/\
 ∃aj:Int,hat ax ((ad y).add 2)=some (.int .i64 aj)/\
 ∃ag:Int,hat ax ((ad y).add 2)=some (.int .i64 ag)/\
 ∃mr:Nat,af=some mr/\
 ∃(es:Array MapEntry) (cl:Nat) (ks:List (Int×Value)),ax[mr]?=some (.map es cl)/\Ents (intKey .i64) es.toList ks/\Born es cl/\
 ∀(a2:Array MapEntry) (cl_2:Nat) (stamp:Int) (x_21:Value) (H17:Array Obj),H17=setBlk ax mr (.map a2 cl_2)->Ents (intKey .i64) a2.toList (mput ks p x_21)->Born a2 cl_2->HasBorn a2 (.int .i64 p) stamp->
 RowAt H17 ((ad y).add 2) 0 [.int .i64 aj]/\RowAt H17 ((ad y).add 2) 0 [.int .i64 ag]/\ ∃(bf:Array MapEntry) (cl_3:Nat) (ks_2:List (Int×Value)) (k:Int),H17[mr]?=some (.map bf cl_3)/\Ents (intKey .i64) bf.toList ks_2/\Born bf cl_3/\HasBorn bf (.int .i64 k) stamp/\
 ∀(bc:Array MapEntry) (H18:Array Obj),H18=setBlk H17 mr (.map bc cl_3)->Ents (intKey .i64) bc.toList (mput ks_2 k (.int .i64 aj))->Born bc cl_3->
 RowAt H18 ((ad y).add 2) 0 [.int .i64 ag]/\ ∃ak:Nat,ai=some ak/\
 ∃(bp:Array MapEntry) (cl_4:Nat) (ks_3:List (Int×Value)),H18[ak]?=some (.map bp cl_4)/\Ents (intKey .i64) bp.toList ks_3/\Born bp cl_4/\
 ∀(a3:Array MapEntry) (cl_5:Nat) (stamp_2:Int) (x_22:Value) (H19:Array Obj),H19=setBlk H18 ak (.map a3 cl_5)->Ents (intKey .i64) a3.toList (mput ks_3 p x_22)->Born a3 cl_5->HasBorn a3 (.int .i64 p) stamp_2->
 RowAt H19 ((ad y).add 2) 0 [.int .i64 ag]/\ ∃(bh:Array MapEntry) (cl_6:Nat) (ks_4:List (Int×Value)) (k_2:Int),H19[ak]?=some (.map bh cl_6)/\Ents (intKey .i64) bh.toList ks_4/\Born bh cl_6/\HasBorn bh (.int .i64 k_2) stamp_2/\
 ∀(bk:Array MapEntry) (H20:Array Obj),H20=setBlk H19 ak (.map bk cl_6)->Ents (intKey .i64) bk.toList (mput ks_4 k_2 (.int .i64 ag))->Born bk cl_6->
 (bw (IntKind.wrap .i64 (o+1)) H20/\m65 (IntKind.wrap .i64 (o+1)) H20<m65 o H13)))
 else
 ∃a7:Option Addr,hat H13 f=some (.pointer a7)/\
 ∃bb:Addr,a7=some bb/\
 ∃a0:Option Addr,hat H13 bb=some (.pointer a0)/\
 space_Space_Fresh.C a0 e gensN gensC H13 (λ_ cc=>
 ∃ay:Option Addr,hat cc f=some (.pointer ay)/\
 card_Cards_Dirty.C ay g cc (λci b8=> ∃(av:Option Addr) (au aq:Nat),ci=.slice av au aq/\
 (CanPuts b8 ((ad l).add 1028) 0 1)/\ ∀b6,b6=hputs b8 ((ad l).add 1028) [.slice av au aq] 0->
 R (.tuple #[.pointer (some (ad l)),.int .i64 0]) b6)))))))
namespace trace_Start
theorem link{hv:Option Addr}{g d m:Int}{H:Array Obj}{R:Value->Array Obj->Prop}(h:pt hv g d m H R):C hv g d m H R:=by
 refine T_en K0 181 Tryz.func27 ?_
 intro w0 Q hQ
 unfold pt at h
 refine T_su [(0,vp hv),(1,vi g),(2,vi d),(3,vi m)]<| T_srz 0<| T_ed 2 [] []<| T_sz<| T_srz 1<| T_nd 1 [] [(20,vp hv)] ?_
 rcases hv with _ | f
 ·rw[onPtr_none]at h
  exact T_ed 31 [0,20] [(0,vp none),(51,.bool true)]<| T_tz 51<| T_srz 2<| T_nr 2 [8,9] [vp none,vi 1] hQ h
 rw[onPtr_some]at h
 refine T_nd 5 [0,20] [(0,vp (some f)),(22,.bool false),(25,vp (some f))] ?_
 obtain⟨x,q1,h⟩:=h
 refine T_l1 26 26 q1 [25] ?_
 rcases x with _ | xA
 ·rw[onPtr_none]at h
  exact T_ed 25 [22,26] [(51,.bool true)]<| T_tz 51<| T_srz 2<| T_nr 2 [8,9] [vp none,vi 1] hQ h
 rw[onPtr_some]at h
 refine T_nd 7 [22,26] [(33,.bool (decide (g<0)))] ?_
 refine N_cut [(0,vp (some f)),(1,vi g),(2,vi d),(3,vi m),(51,.bool (((((decide (g<0)) || (decide (g>=4))) || (decide (d<g))) || (decide (d>(IntKind.wrap .i64 (g+1))))) || (decide (m<0))))] ?_ ?_
 ·refine S_then ?_
  by_cases c10:(((((decide (g<0)) || (decide (g>=4))) || (decide (d<g))) || (decide (d>(IntKind.wrap .i64 (g+1))))) || (decide (m<0)))=true
  ·rw[if_pos c10]at h
   exact T_cTz 51 c10<| T_srz 2<| T_nr 2 [8,9] [vp none,vi 1] hQ h
  rw[if_neg c10]at h
  refine T_cFz 51 (eq_false_of_ne_true c10)<| T_kt<| T_srz 3<| T_ne 1 [(0,vp (some f)),(1,vi g),(2,vi d),(3,vi m),(10,vs none 0 0)]<| T_sz<| T_srz 4<| T_ed 3 [] [(53,vi (IntKind.wrap .i64 (g+1))),(54,vi 0)]<| T_bz 0 ?_
  obtain⟨b1,m19,i12,i13⟩:=h
  refine S_loop (x:=K18) (σ:=(Option Addr)×Nat×Nat×Int) (λs_=> [(0,vp (some f)),(1,vi g),(2,vi d),(3,vi m),(10,vs s_.1 s_.2.1 s_.2.2.1),(53,vi (IntKind.wrap .i64 (g+1))),(54,vi s_.2.2.2)]) (λs_ H=>b1 s_.1 s_.2.1 s_.2.2.1 s_.2.2.2 H) (λs_ H=>m19 s_.1 s_.2.1 s_.2.2.1 s_.2.2.2 H) ((none,0,0,0):(Option Addr)×Nat×Nat×Int) (by kernel_rfl) i12 sk ?_
  rintro⟨e,gensN,gensC,s54⟩ H1 i14
  have h:=i13 e gensN gensC s54 H1 i14
  refine T_su [(0,vp (some f)),(1,vi g),(2,vi d),(3,vi m),(10,vs e gensN gensC),(53,vi (IntKind.wrap .i64 (g+1))),(54,vi s54)]<| T_srz 5<| T_ed 1 [] [(55,.bool (decide (s54< (IntKind.wrap .i64 (g+1)))))]<| T_sz ?_
  by_cases c15:s54< (IntKind.wrap .i64 (g+1))
  ·rw[if_pos c15]at h
   refine T_cTz 55 (decide_eq_true c15)<| T_kt<| T_sz<| T_bz 1<| T_srz 6<| T_ed 2 [55] [(11,vi s54)]<| T_rz 7<| T_nd 2 [10,11] [(57,vs e gensN gensC),(58,vi s54)]<| T_nw (some 59) (λb=>vs (pa b) 1 1) (.cells #[vi s54] 3) ?_
   intro b H2 e17 e18
   replace h:=h b H2 e17 e18
   refine T_pd [58] [(59,vs (pa b) 1 1)] ?_
   refine N_op (some 60) (appendN #[67,67] 67 #[vs e gensN gensC,vs (pa b) 1 1]) _ (λ_=>by kernel_rfl) (ss_append (T:=3) (sz:=1) (bytes:=8) (zero:=(vi 0:Value)) Tryz.underlying67 Tryz.underlying67 rfl (show Tryz.prog.info? 3=some Tryz.t3 from by kernel_rfl) (by kernel_rfl) (by kernel_rfl) (by decide) (by kernel_rfl) (by first | exact h | (simpa only[Value.cells,List.toList_toArray]using h))) ?_;clear h
   rintro _ H3 ⟨ap,ba,rfl,h⟩
   refine T_pd [57,59] [(60,vs ap (gensN+1) ba)]<| T_nd 1 [60] [(10,vs ap (gensN+1) ba)] ?_
   refine N_end (by kernel_rfl) ?_
   refine S_blockEnd ?_
   refine S_then ?_
   refine T_rz 8<| T_ed 2 [54] [(54,vi (IntKind.wrap .i64 (s54+1)))] ?_
   exact S_round ((ap,(gensN+1),ba,(IntKind.wrap .i64 (s54+1))):(Option Addr)×Nat×Nat×Int) sk h
  rw[if_neg c15]at h
  refine T_cFz 55 (decide_eq_false c15) ?_
  refine S_exit 0 (by kernel_rfl) ?_
  refine S_exitThen ?_
  refine S_exitThen ?_
  refine S_exitHere ?_
  refine S_then ?_
  refine T_srz 9<| T_nd 3 [53,54,55] [(64,vp (some f))] ?_
  obtain⟨br,q19,h⟩:=h
  refine T_l1 65 26 q19 [64] ?_
  obtain⟨b2,rfl,h⟩:=h
  refine T_nd 2 [65] [(67,vp (some b2))] ?_
  obtain⟨bx,q20,h⟩:=h
  refine T_l1 68 39 q20 [67] ?_
  obtain⟨bz,rfl,h⟩:=h
  refine T_nd 2 [68] [(70,vp (some bz))] ?_
  obtain⟨be,q21,h⟩:=h
  refine T_l1 71 69 q21 [70]<| T_nd 1 [] [(72,vs e gensN gensC)] ?_
  refine T_c (some 73) h ?_;clear h
  rintro v H4 ⟨xB,xN,xC,rfl,h⟩
  refine T_pd [71,72] [(73,vs xB xN xC)]<| T_ed 1 [73] [(12,vs xB xN xC)]<| T_sz<| T_srz 10<| T_nd 3 [] [(76,vp (some f))] ?_
  obtain⟨bq,q22,h⟩:=h
  refine T_l1 77 26 q22 [76] ?_
  obtain⟨bu,rfl,h⟩:=h
  refine T_nd 2 [77] [(79,vp (some bu))] ?_
  obtain⟨bs,q23,h⟩:=h
  refine T_l1 80 39 q23 [79] ?_
  obtain⟨bt,rfl,h⟩:=h
  refine T_nd 2 [80] [(82,vp (some bt))] ?_
  obtain⟨bo,q24,h⟩:=h
  refine T_l1 83 69 q24 [82] ?_
  refine T_c (some 84) h ?_;clear h
  rintro ch H5 ⟨a4,rfl,h⟩
  refine T_pd [83] [(84,vi a4)]<| T_ed 7 [3,84] [(91,.bool (decide ((IntKind.wrap .i64 ((IntKind.wrap .i64 (a4-(IntKind.wrap .i64 (2*(xN:Int)))))-8))<m)))] ?_
  by_cases c25:(IntKind.wrap .i64 ((IntKind.wrap .i64 (a4-(IntKind.wrap .i64 (2*(xN:Int)))))-8))<m
  ·rw[if_pos c25]at h
   exact T_cTz 91 (decide_eq_true c25)<| T_srz 11<| T_nr 2 [8,9] [vp none,vi 2] hQ h
  rw[if_neg c25]at h
  refine T_cFz 91 (decide_eq_false c25)<| T_kt<| T_srz 12<| T_nd 2 [91] [(92,vp (some f)),(93,vi d)]<| T_nw (some 94) (λb=> .map (some b)) (.map #[] 0) ?_
  intro a5 H6 e27 e28
  replace h:=h a5 H6 e27 e28
  refine T_pd [] [(94,.map (some a5))]<| T_nw (some 95) (λb=> .map (some b)) (.map #[] 0) ?_
  intro a9 H7 e29 e30
  replace h:=h a9 H7 e29 e30
  refine T_pd [] [(95,.map (some a9))]<| T_nd 1 [92,93,94,95] [(96,.agg ([vp (some f),vi d]++List.replicate 1024 (vi 0)++[.map (some a5),.map (some a9),vs none 0 0,vi 0]:List Value).toArray)]<| T_nw (some 97) (λb=>vp (pa b)) (.cells ([vp (some f),vi d]++List.replicate 1024 (vi 0)++[.map (some a5),.map (some a9),vs none 0 0,vi 0]:List Value).toArray 127) ?_
  intro l H8 e31 e32
  replace h:=h l H8 e31 e32
  refine T_pd [96] [(97,vp (pa l))]<| T_ed 1 [97] [(13,vp (pa l))]<| T_sz<| T_srz 13<| T_ed 3 [12] [(98,vs xB xN xC),(99,vi xN),(100,vi 0)]<| T_bz 2 ?_
  obtain⟨b0,m48,i33,i34⟩:=h
  refine S_loop (x:=K47) (σ:=Int) (λs_=> [(0,vp (some f)),(1,vi g),(2,vi d),(10,vs e gensN gensC),(13,vp (pa l)),(98,vs xB xN xC),(99,vi xN),(100,vi s_)]) (λs_ H=>b0 s_ H) (λs_ H=>m48 s_ H) (0:Int) (by kernel_rfl) i33 sk ?_
  rintro s H9 i35
  have h:=i34 s H9 i35
  refine T_su [(0,vp (some f)),(1,vi g),(2,vi d),(10,vs e gensN gensC),(13,vp (pa l)),(98,vs xB xN xC),(99,vi xN),(100,vi s)]<| T_srz 14<| T_ed 1 [] [(101,.bool (decide (s< (xN:Int))))]<| T_sz ?_
  by_cases c36:s< (xN:Int)
  ·rw[if_pos c36]at h
   refine T_cTz 101 (decide_eq_true c36)<| T_kt<| T_sz<| T_bz 3<| T_srz 15<| T_ud [101] [] ?_
   obtain⟨ao,rfl,h⟩:=h
   obtain⟨q38,h⟩:=h
   refine T_xd (some 102) 67 3 1 ao xN xC .i64 s Tryz.underlying67 q38.1 q38.2 [98] [(98,vs (some ao) xN xC),(102,vp (some (ao.add (Int.toNat s*1))))] ?_
   obtain⟨al,q39,h⟩:=h
   refine T_l1 103 3 q39 [102]<| T_ed 1 [103] [(15,vi al)]<| T_rz 16<| T_nd 4 [15] [(105,vi al),(107,vp (some ((ad l).add 2)))] ?_
   obtain⟨q40,h⟩:=h
   refine T_v1 108 (indexAtN 124 (vp (some ((ad l).add 2))) (vi al)) (vp (some (((ad l).add 2).add (Int.toNat al*1)))) (λw _=>indexArr_run (P:=Tryz.prog) (t:=124) (elem:=3) (sz:=1) (n:=1024) (a:=((ad l).add 2)) (k:=.i64) (i:=al) Tryz.underlying124 (λ_=>by kernel_rfl) q40.1 q40.2 w) [105,107] ?_
   obtain⟨q42,h⟩:=h
   refine T_st1 3 (vi 1) q42 ?_
   intro b4 e41
   replace h:=h b4 e41
   refine T_pd [108] [] ?_
   refine N_end (by kernel_rfl) ?_
   refine S_blockEnd ?_
   refine S_then ?_
   refine T_rz 17<| T_ed 2 [100] [(100,vi (IntKind.wrap .i64 (s+1)))] ?_
   exact S_round ((IntKind.wrap .i64 (s+1)):Int) sk h
  rw[if_neg c36]at h
  refine T_cFz 101 (decide_eq_false c36) ?_
  refine S_exit 2 (by kernel_rfl) ?_
  refine S_exitThen ?_
  refine S_exitThen ?_
  refine S_exitHere ?_
  refine S_then ?_
  refine T_sz<| T_srz 18<| T_nd 3 [98,99,100,101] [(112,vp (some f))] ?_
  obtain⟨bj,q43,h⟩:=h
  refine T_l1 113 26 q43 [112] ?_
  obtain⟨bl,rfl,h⟩:=h
  refine T_nd 2 [113] [(115,vp (some bl))] ?_
  obtain⟨bm,q44,h⟩:=h
  refine T_l1 116 39 q44 [115] ?_
  obtain⟨a6,rfl,h⟩:=h
  refine T_nd 2 [116] [(118,vp (some a6))] ?_
  obtain⟨aw,q45,h⟩:=h
  refine T_l1 119 69 q45 [118]<| T_nd 1 [2] [(120,vi d)]<| T_nw (some 121) (λb=>vs (pa b) 1 1) (.cells #[vi d] 3) ?_
  intro bn H11 e46 e47
  replace h:=h bn H11 e46 e47
  refine T_pd [120] [(121,vs (pa bn) 1 1)] ?_
  refine T_c (some 122) h ?_;clear h
  rintro cg ce ⟨an,j,q,rfl,h⟩
  refine T_pd [119,121] [(122,vs an j q)]<| T_ed 2 [] [(123,vi j),(124,vi 0)]<| T_bz 4 ?_
  obtain⟨bw,m65,i48,i49⟩:=h
  refine S_loop (x:=K64) (σ:=Int) (λs_=> [(0,vp (some f)),(1,vi g),(10,vs e gensN gensC),(13,vp (pa l)),(122,vs an j q),(123,vi j),(124,vi s_)]) (λs_ H=>bw s_ H) (λs_ H=>m65 s_ H) (0:Int) (by kernel_rfl) i48 sk ?_
  rintro o H13 i50
  have h:=i49 o H13 i50
  refine T_su [(0,vp (some f)),(1,vi g),(10,vs e gensN gensC),(13,vp (pa l)),(122,vs an j q),(123,vi j),(124,vi o)]<| T_srz 19<| T_ed 1 [] [(125,.bool (decide (o< (j:Int))))]<| T_sz ?_
  by_cases c51:o< (j:Int)
  ·rw[if_pos c51]at h
   refine T_cTz 125 (decide_eq_true c51)<| T_kt<| T_sz<| T_bz 5<| T_srz 20<| T_ud [125] [] ?_
   obtain⟨r,rfl,h⟩:=h
   obtain⟨q53,h⟩:=h
   refine T_xd (some 126) 67 3 1 r j q .i64 o Tryz.underlying67 q53.1 q53.2 [122] [(122,vs (some r) j q),(126,vp (some (r.add (Int.toNat o*1))))] ?_
   obtain⟨p,q54,h⟩:=h
   refine T_l1 127 3 q54 [126]<| T_ed 1 [127] [(17,vi p)]<| T_srz 21<| T_nd 3 [] [(131,vp (some f))] ?_
   obtain⟨bg,q55,h⟩:=h
   refine T_l1 132 26 q55 [131] ?_
   obtain⟨bi,rfl,h⟩:=h
   refine T_nd 2 [132] [(134,vp (some bi))] ?_
   obtain⟨a8,q56,h⟩:=h
   refine T_l1 135 39 q56 [134] ?_
   obtain⟨bd,rfl,h⟩:=h
   refine T_nd 2 [135] [(137,vp (some bd))] ?_
   obtain⟨az,q57,h⟩:=h
   refine T_l1 138 69 q57 [137]<| T_nd 1 [] [(139,vi p)] ?_
   refine T_c (some 140) h ?_;clear h
   rintro cj cd ⟨am,ah,a1,ac,ab,ae,aa,rb,rfl,h⟩
   refine T_pd [138,139] [(140,.tuple #[.agg #[vi am,vi ah,vi a1,vi ac,vi ab,vi ae,vi aa],.bool rb])]<| T_nd 3 [140] [(141,.agg #[vi am,vi ah,vi a1,vi ac,vi ab,vi ae,vi aa]),(142,.bool rb)]<| T_nw (some 18) (λb=>vp (pa b)) (.cells #[vi 0,vi 0,vi 0,vi 0,vi 0,vi 0,vi 0] 76) ?_
   intro y H15 e58 e59
   replace h:=h y H15 e58 e59
   refine T_pd [] [(18,vp (pa y))] ?_
   obtain⟨q61,h⟩:=h
   refine T_sta 76 [vi am,vi ah,vi a1,vi ac,vi ab,vi ae,vi aa] q61 ?_
   intro ax e60
   replace h:=h ax e60
   refine T_pd [141] []<| T_ed 1 [142] [] ?_
   obtain⟨af,q62,h⟩:=h
   obtain⟨ai,q63,h⟩:=h
   obtain⟨aj,q64,h⟩:=h
   obtain⟨ag,q65,h⟩:=h
   refine S_regionG 22 (Code.ops K77) [(14,((ad l).add 1026),[.map af]),(14,((ad l).add 1027),[.map ai]),(16,((ad y).add 2),[vi aj]),(19,((ad y).add 2),[vi ag])] 20 (bv 20 0) (by kernel_rfl) (by kernel_rfl) (by kernel_rfl) (by kernel_rfl) (by kernel_rfl) (show FactsAt _ _ _ from⟨⟨q62,trivial⟩,⟨q63,trivial⟩,⟨q64,trivial⟩,⟨q65,trivial⟩,trivial⟩) ?_
   refine T_gp 0 (some 143) (vp (pa l)) (bv 20 1) [(0,vp (some f)),(1,vi g),(10,vs e gensN gensC),(13,vp (pa l)),(17,vi p),(18,vp (pa y)),(122,vs (some r) j q),(123,vi j),(124,vi o),(143,vp (pa l))]<| T_gp1 1 144 (vp (pa l)) (bv 20 3) [143]<| T_gp1 2 145 (vp (some ((ad l).add 1026))) (bv 20 7) [144]<| T_g1 3 146 (.map af) (bv 20 15) [145] (loadN 123 (vp (some ((ad l).add 1026)))) (held_one 14 (λ_=>by kernel_rfl) (List.Mem.head _) (.inl (by kernel_rfl)))<| T_gp1 4 147 (vi p) (bv 20 31) []<| T_gp1 5 148 (vp (pa l)) (bv 20 63) []<| T_gp1 6 149 (vp (pa l)) (bv 20 127) [148]<| T_gp1 7 150 (vp (some ((ad l).add 1027))) (bv 20 255) [149]<| T_g1 8 151 (.map ai) (bv 20 511) [150] (loadN 123 (vp (some ((ad l).add 1027)))) (held_one 14 (λ_=>by kernel_rfl) (List.Mem.tail _ (List.Mem.head _)) (.inl (by kernel_rfl))) ?_
   refine T_gp1 9 152 (vi p) (bv 20 1023) [17]<| T_gp1 10 153 (vp (some ((ad y).add 2))) (bv 20 2047) []<| T_g1 11 154 (vi aj) (bv 20 4095) [153] (loadN 3 (vp (some ((ad y).add 2)))) (held_one 16 (λ_=>by kernel_rfl) (List.Mem.tail _ (List.Mem.tail _ (List.Mem.head _))) (.inl (by kernel_rfl)))<| T_gp1 12 155 (vp (some ((ad y).add 2))) (bv 20 8191) [18]<| T_g1 13 156 (vi ag) (bv 20 16383) [155] (loadN 3 (vp (some ((ad y).add 2)))) (held_one 19 (λ_=>by kernel_rfl) (List.Mem.tail _ (List.Mem.tail _ (List.Mem.tail _ (List.Mem.head _)))) (.inl (by kernel_rfl))) ?_
   obtain⟨mr,rfl,h⟩:=h
   obtain⟨es,cl,ks,q68,q69,q73,h⟩:=h
   refine G_only 14 (some 157) (bv 20 32767) (mapEntN 123 (.map (some mr)) (vi p)) (λu Hz=> ∃es2 cl2 sp v0,Hz=setBlk ax mr (.map es2 cl2)/\Ents (intKey .i64) es2.toList (mput ks p v0)/\Born es2 cl2/\HasBorn es2 (vi p) sp/\u=.tuple #[v0,vi sp]) (by kernel_rfl) (λ_=>by kernel_rfl) (mapEnt_run (kk:=(intKey .i64)) (z:=vi 0) Tryz.underlying123 Tryz.underlying3 (λ_=>by kernel_rfl) q68 q69 q73) (by kernel_rfl) ?_
   rintro _ H17 ⟨a2,cl_2,stamp,x_21,e71,e72,e74,e75,rfl⟩
   replace h:=h a2 cl_2 stamp x_21 H17 e71 e72 e74 e75
   obtain⟨f66,f67,h⟩:=h
   refine⟨[(0,vp (some f)),(1,vi g),(10,vs e gensN gensC),(13,vp (pa l)),(122,vs (some r) j q),(123,vi j),(124,vi o),(146,.map (some mr)),(151,.map ai),(152,vi p),(154,vi aj),(156,vi ag),(157,.tuple #[x_21,vi stamp])],pk,(show FactsAt _ _ _ from⟨trivial,trivial,f66,f67,trivial⟩),?_⟩
   refine T_g 15 (some 158) (vi stamp) (bv 20 65535) [(0,vp (some f)),(1,vi g),(10,vs e gensN gensC),(13,vp (pa l)),(122,vs (some r) j q),(123,vi j),(124,vi o),(146,.map (some mr)),(151,.map ai),(152,vi p),(154,vi aj),(156,vi ag),(158,vi stamp)] (pure (.value (vi stamp)):Sem Next) (λ_ _ _ _ _=>rfl) ?_
   obtain⟨bf,cl_3,ks_2,k,q77,q78,q79,q80,h⟩:=h
   refine G_onlyskip 16 none (bv 20 131071) (entPutN 123 (.map (some mr)) (vi stamp) (vi aj)) (λHz=> ∃es2,Hz=setBlk H17 mr (.map es2 cl_3)/\Ents (intKey .i64) es2.toList (mput ks_2 k (vi aj))/\Born es2 cl_3) (by kernel_rfl) (λ_=>by kernel_rfl) (entPut_run (kk:=(intKey .i64)) q77 q78 q79 q80) (by kernel_rfl) ?_
   rintro H18 ⟨bc,e81,e82,e83⟩
   replace h:=h bc H18 e81 e82 e83
   obtain⟨f76,h⟩:=h
   refine⟨[(0,vp (some f)),(1,vi g),(10,vs e gensN gensC),(13,vp (pa l)),(122,vs (some r) j q),(123,vi j),(124,vi o),(151,.map ai),(152,vi p),(156,vi ag)],pk,(show FactsAt _ _ _ from⟨trivial,trivial,trivial,f76,trivial⟩),?_⟩
   obtain⟨ak,rfl,h⟩:=h
   obtain⟨bp,cl_4,ks_3,q85,q86,q90,h⟩:=h
   refine G_only 17 (some 159) (bv 20 262143) (mapEntN 123 (.map (some ak)) (vi p)) (λu Hz=> ∃es2 cl2 sp v0,Hz=setBlk H18 ak (.map es2 cl2)/\Ents (intKey .i64) es2.toList (mput ks_3 p v0)/\Born es2 cl2/\HasBorn es2 (vi p) sp/\u=.tuple #[v0,vi sp]) (by kernel_rfl) (λ_=>by kernel_rfl) (mapEnt_run (kk:=(intKey .i64)) (z:=vi 0) Tryz.underlying123 Tryz.underlying3 (λ_=>by kernel_rfl) q85 q86 q90) (by kernel_rfl) ?_
   rintro _ H19 ⟨a3,cl_5,stamp_2,x_22,e88,e89,e91,e92,rfl⟩
   replace h:=h a3 cl_5 stamp_2 x_22 H19 e88 e89 e91 e92
   obtain⟨f84,h⟩:=h
   refine⟨[(0,vp (some f)),(1,vi g),(10,vs e gensN gensC),(13,vp (pa l)),(122,vs (some r) j q),(123,vi j),(124,vi o),(151,.map (some ak)),(156,vi ag),(159,.tuple #[x_22,vi stamp_2])],pk,(show FactsAt _ _ _ from⟨trivial,trivial,trivial,f84,trivial⟩),?_⟩
   refine T_g 18 (some 160) (vi stamp_2) (bv 20 524287) [(0,vp (some f)),(1,vi g),(10,vs e gensN gensC),(13,vp (pa l)),(122,vs (some r) j q),(123,vi j),(124,vi o),(151,.map (some ak)),(156,vi ag),(160,vi stamp_2)] (pure (.value (vi stamp_2)):Sem Next) (λ_ _ _ _ _=>rfl) ?_
   obtain⟨bh,cl_6,ks_4,k_2,q93,q94,q95,q96,h⟩:=h
   refine G_onlyskip 19 none (bv 20 1048575) (entPutN 123 (.map (some ak)) (vi stamp_2) (vi ag)) (λHz=> ∃es2,Hz=setBlk H19 ak (.map es2 cl_6)/\Ents (intKey .i64) es2.toList (mput ks_4 k_2 (vi ag))/\Born es2 cl_6) (by kernel_rfl) (λ_=>by kernel_rfl) (entPut_run (kk:=(intKey .i64)) q93 q94 q95 q96) (by kernel_rfl) ?_
   rintro H20 ⟨bk,e97,e98,e99⟩
   replace h:=h bk H20 e97 e98 e99
   refine⟨[(0,vp (some f)),(1,vi g),(10,vs e gensN gensC),(13,vp (pa l)),(122,vs (some r) j q),(123,vi j),(124,vi o)],pk,(show FactsAt _ _ _ from⟨trivial,trivial,trivial,trivial,trivial⟩),?_⟩
   refine G_sub [(0,vp (some f)),(1,vi g),(10,vs e gensN gensC),(13,vp (pa l)),(122,vs (some r) j q),(123,vi j),(124,vi o)] sk ?_
   refine G_end (by kernel_rfl) ?_
   refine S_blockEnd ?_
   refine S_then ?_
   refine T_rz 23<| T_ne 2 [(0,vp (some f)),(1,vi g),(10,vs e gensN gensC),(13,vp (pa l)),(122,vs (some r) j q),(123,vi j),(124,vi (IntKind.wrap .i64 (o+1)))] ?_
   exact S_round ((IntKind.wrap .i64 (o+1)):Int) sk h
  rw[if_neg c51]at h
  refine T_cFz 125 (decide_eq_false c51) ?_
  refine S_exit 4 (by kernel_rfl) ?_
  refine S_exitThen ?_
  refine S_exitThen ?_
  refine S_exitHere ?_
  refine S_then ?_
  refine T_srz 24<| T_nd 3 [122,123,124,125] [(164,vp (some f))] ?_
  obtain⟨a7,q100,h⟩:=h
  refine T_l1 165 26 q100 [164] ?_
  obtain⟨bb,rfl,h⟩:=h
  refine T_nd 2 [165] [(167,vp (some bb))] ?_
  obtain⟨a0,q101,h⟩:=h
  refine T_l1 168 39 q101 [167]<| T_nd 1 [10] [(169,vs e gensN gensC)] ?_
  refine T_c (some 170) h ?_;clear h
  intro v_5 cc h
  refine T_pd [168,169] []<| T_e<| T_srz 25<| T_nd 4 [0] [(171,vp (pa l)),(174,vp (some f))] ?_
  obtain⟨ay,q102,h⟩:=h
  refine T_l1 175 26 q102 [174]<| T_nd 1 [1] [(176,vi g)] ?_
  refine T_c (some 177) h ?_;clear h
  rintro ci b8 ⟨av,au,aq,rfl,h⟩
  refine T_pd [175,176] [(177,vs av au aq)]<| T_nd 2 [171] [(179,vp (some ((ad l).add 1028)))] ?_
  obtain⟨q104,h⟩:=h
  refine T_st1 125 (vs av au aq) q104 ?_
  intro b6 e103
  replace h:=h b6 e103
  exact T_pd [177,179] []<| T_e<| T_srz 26<| T_nr 3 [8,9] [vp (pa l),vi 0] hQ h
 intro hk
 refine T_nu [(0,vp (some f)),(1,vi g),(2,vi d),(3,vi m),(33,.bool (decide (g<0)))] ?_
 by_cases c2:g<0
 ·have b3:(decide (g<0))=true:=decide_eq_true c2
  refine N_env [(0,vp (some f)),(1,vi g),(2,vi d),(3,vi m),(33,.bool true)] (by rw[b3]) ?_
  refine T_nd 18 [33] [(51,.bool true)] ?_
  refine N_end (by kernel_rfl) ?_
  refine S_bd 51 (b:=true) (v:=(((((decide (g<0)) || (decide (g>=4))) || (decide (d<g))) || (decide (d>(IntKind.wrap .i64 (g+1))))) || (decide (m<0)))) (by simp only[b3,BL]) ?_
  exact hk
 have b3:(decide (g<0))=false:=decide_eq_false c2
 refine N_env [(0,vp (some f)),(1,vi g),(2,vi d),(3,vi m),(33,.bool false)] (by rw[b3]) ?_
 refine T_nd 4 [33] [(37,.bool (decide (g>=4)))] ?_
 by_cases c4:g>=4
 ·have b5:(decide (g>=4))=true:=decide_eq_true c4
  refine N_bd 37 b5<| T_nd 14 [37] [(51,.bool true)] ?_
  refine N_end (by kernel_rfl) ?_
  refine S_bd 51 (b:=true) (v:=(((((decide (g<0)) || (decide (g>=4))) || (decide (d<g))) || (decide (d>(IntKind.wrap .i64 (g+1))))) || (decide (m<0)))) (by simp only[b3,b5,BL]) ?_
  exact hk
 have b5:(decide (g>=4))=false:=decide_eq_false c4
 refine N_bd 37 b5<| T_nd 5 [37] [(42,.bool (decide (d<g)))] ?_
 by_cases c6:d<g
 ·have b7:(decide (d<g))=true:=decide_eq_true c6
  refine N_bd 42 b7<| T_nd 9 [42] [(51,.bool true)] ?_
  refine N_end (by kernel_rfl) ?_
  refine S_bd 51 (b:=true) (v:=(((((decide (g<0)) || (decide (g>=4))) || (decide (d<g))) || (decide (d>(IntKind.wrap .i64 (g+1))))) || (decide (m<0)))) (by simp only[b3,b5,b7,BL]) ?_
  exact hk
 have b7:(decide (d<g))=false:=decide_eq_false c6
 refine N_bd 42 b7<| T_nd 6 [42] [(48,.bool (decide (d>(IntKind.wrap .i64 (g+1)))))] ?_
 by_cases c8:d>(IntKind.wrap .i64 (g+1))
 ·have b9:(decide (d>(IntKind.wrap .i64 (g+1))))=true:=decide_eq_true c8
  refine N_bd 48 b9<| T_nd 3 [48] [(51,.bool true)] ?_
  refine N_end (by kernel_rfl) ?_
  refine S_bd 51 (b:=true) (v:=(((((decide (g<0)) || (decide (g>=4))) || (decide (d<g))) || (decide (d>(IntKind.wrap .i64 (g+1))))) || (decide (m<0)))) (by simp only[b3,b5,b7,b9,BL]) ?_
  exact hk
 have b9:(decide (d>(IntKind.wrap .i64 (g+1))))=false:=decide_eq_false c8
 refine N_bd 48 b9<| T_nd 3 [48] [(51,.bool (decide (m<0)))] ?_
 refine N_end (by kernel_rfl) ?_
 refine S_bd 51 (b:=(decide (m<0))) (v:=(((((decide (g<0)) || (decide (g>=4))) || (decide (d<g))) || (decide (d>(IntKind.wrap .i64 (g+1))))) || (decide (m<0)))) (by simp only[b3,b5,b7,b9,BL]) ?_
 exact hk
end trace_Start

/-! (*moraine/trace.Trace).End -/
namespace trace_Trace_End
def K0:=Func.code Tryz.f28
def K2:=cb K0
def K7:=ca K2
def K8:=cb K2
def K10:=cb K7
def K11:=ca K10
def K12:=ca K11
def K28:=ca K8
def K31:=cb K28
def K32:=ca K31
def K33:=ca K32
def K35:=cb K33
def K37:=cb K35
def K40:=ca K37
def K42:=ca K40
def K44:=cb K42
end trace_Trace_End
def trace_Trace_End.pt(tv:Option Addr)(H:Array Obj)(R:Value->Array Obj->Prop):Prop:=
 trace_Trace_none.C tv H (λv H1=> ∃x:Bool,v=.bool x/\
 if x=true then(
 R (.tuple #[]) H1)
 else
 ∃d:Addr,tv=some d/\
 ∃g:List Value,g.length=1024/\RowAt H1 (d.add 2) 0 g/\
 ∃(ab:Int->Array Obj->Prop) (m13:Int->Array Obj->Nat),ab 0 H1/\ ∀(e:Int) (H2:Array Obj),ab e H2->
 if e<1024 then(
 ∃r:Int,((0<=e/\e< (1024:Int))/\((g:List Value).toArray)[Int.toNat e]?=some (.int .i64 r))/\
 if r=1 then(
 ∃ac:Option Addr,hat H2 d=some (.pointer ac)/\
 ∃ae:Addr,ac=some ae/\
 ∃z:Option Addr,hat H2 ae=some (.pointer z)/\
 ∃aa:Addr,z=some aa/\
 ∃y:Option Addr,hat H2 aa=some (.pointer y)/\
 space_Space_Give.C y e H2 (λaj H3=> ∃ai:Int,aj=.int .i64 ai/\
 (ab (IntKind.wrap .i64 (e+1)) H3/\m13 (IntKind.wrap .i64 (e+1)) H3<m13 e H2)))
 else
 (ab (IntKind.wrap .i64 (e+1)) H2/\m13 (IntKind.wrap .i64 (e+1)) H2<m13 e H2))
 else
 ∃(xB:Option Addr) (xN xC:Nat),hat H2 (d.add 1028)=some (.slice xB xN xC)/\
 ∃(af:Int->Array Obj->Prop) (m34:Int->Array Obj->Nat),af 0 H2/\ ∀(f:Int) (H4:Array Obj),af f H4->
 if f< (xN:Int)then(
 ∃j:Addr,xB=some j/\
 ((0:Int)<=f/\f< (xN:Int))/\
 ∃o l:Int,RowAt H4 (j.add (Int.toNat f*2)) 0 [.int .i64 o,.int .i64 l]/\
 ∀(b:Nat) (H5:Array Obj),b=H4.size->H5=H4.push (.cells #[.int .i64 0,.int .i64 0] 132)->
 (CanPuts H5 (ad b) 0 2)/\ ∀H6,H6=hputs H5 (ad b) [.int .i64 o,.int .i64 l] 0->
 ∃ah:Option Addr,hat H6 d=some (.pointer ah)/\
 ∃m:Addr,ah=some m/\
 ∃q:Option Addr,hat H6 m=some (.pointer q)/\
 ∃p:Int,hat H6 (ad b)=some (.int .i64 p)/\
 ∃s:Int,hat H6 ((ad b).add 1)=some (.int .i64 s)/\
 card_Cards_Again.C q p s H6 (λak H7=> ∃ag:Int,ak=.int .i64 ag/\
 (af (IntKind.wrap .i64 (f+1)) H7/\m34 (IntKind.wrap .i64 (f+1)) H7<m34 f H4)))
 else
 ∃u:Option Addr,hat H4 d=some (.pointer u)/\
 obj_Heap_Next.C u H4 (λ_ H8=>
 (CanPuts H8 (d.add 1029) 0 1)/\ ∀H9,H9=hputs H8 (d.add 1029) [.int .i64 1] 0->
 R (.tuple #[]) H9))
namespace trace_Trace_End
theorem link{tv:Option Addr}{H:Array Obj}{R:Value->Array Obj->Prop}(h:pt tv H R):C tv H R:=by
 refine T_en K0 61 Tryz.func28 ?_
 intro w0 Q hQ
 unfold pt at h
 refine T_su [(0,vp tv)]<| T_sz<| T_srz 0<| T_nd 1 [] [(6,vp tv)] ?_
 refine T_c (some 7) h ?_;clear h
 rintro v H1 ⟨x,rfl,h⟩
 refine T_pd [6] [(7,.bool x)]<| T_e ?_
 by_cases c1:x=true
 ·rw[if_pos c1]at h
  exact T_cTz 7 c1<| T_ret [] [] hQ h
 rw[if_neg c1]at h
 refine T_cFz 7 (eq_false_of_ne_true c1)<| T_kt<| T_sz<| T_srz 1<| T_nd 1 [7] [(8,vp tv)] ?_
 obtain⟨d,rfl,h⟩:=h
 refine T_n 2 [(0,vp (some d)),(10,vp (some (d.add 2)))] ?_
 obtain⟨g,l4,q3,h⟩:=h
 refine T_v1 11 (loadN 124 (vp (some (d.add 2)))) (.agg (g).toArray) (loadN_run (loadOK_row (λ_=>by kernel_rfl) (λw=>by rw[l4];kernel_rfl) q3)) [10] ?_
 refine T_ed 1 [] [(12,vi 0)]<| T_bz 0 ?_
 obtain⟨ab,m13,i5,i6⟩:=h
 refine S_loop (x:=K12) (σ:=Int) (λs_=> [(0,vp (some d)),(11,.agg (g).toArray),(12,vi s_)]) (λs_ H=>ab s_ H) (λs_ H=>m13 s_ H) (0:Int) (by kernel_rfl) i5 sk ?_
 rintro e H2 i7
 have h:=i6 e H2 i7
 refine T_su [(0,vp (some d)),(11,.agg (g).toArray),(12,vi e)]<| T_srz 2<| T_ed 1 [] [(13,.bool (decide (e<1024)))]<| T_sz ?_
 by_cases c8:e<1024
 ·rw[if_pos c8]at h
  refine T_cTz 13 (decide_eq_true c8)<| T_kt<| T_sz<| T_bz 1<| T_srz 3<| T_nd 1 [13] [(14,vi e)] ?_
  obtain⟨r,q10,h⟩:=h
  refine T_v1 15 (indexN 124 (.agg (g).toArray) (vi e)) (vi r) (λw _=>indexAgg_run (P:=Tryz.prog) (t:=124) (elem:=3) (n:=1024) Tryz.underlying124 (λ_=>by kernel_rfl) (λ_=>by kernel_rfl) q10.1.1 q10.1.2 q10.2 w) []<| T_ed 2 [14,15] [(2,vi e),(3,vi r)]<| T_srz 4<| T_ed 2 [3] [(17,.bool (r==1))] ?_
  by_cases c11:r=1
  ·rw[if_pos c11]at h
   refine T_cTz 17 (beq_iff_eq.mpr c11)<| T_rz 5<| T_nd 3 [17] [(20,vp (some d))] ?_
   obtain⟨ac,q13,h⟩:=h
   refine T_l1 21 22 q13 [20] ?_
   obtain⟨ae,rfl,h⟩:=h
   refine T_nd 2 [21] [(23,vp (some ae))] ?_
   obtain⟨z,q14,h⟩:=h
   refine T_l1 24 26 q14 [23] ?_
   obtain⟨aa,rfl,h⟩:=h
   refine T_nd 2 [24] [(26,vp (some aa))] ?_
   obtain⟨y,q15,h⟩:=h
   refine T_l1 27 39 q15 [26]<| T_nd 1 [2] [(28,vi e)] ?_
   refine T_c (some 29) h ?_;clear h
   rintro aj H3 ⟨ai,rfl,h⟩
   refine T_pd [27,28] [] ?_
   refine N_end (by kernel_rfl) ?_
   refine S_blockEnd ?_
   refine S_then ?_
   refine T_rz 6<| T_ed 2 [12] [(12,vi (IntKind.wrap .i64 (e+1)))] ?_
   exact S_round ((IntKind.wrap .i64 (e+1)):Int) sk h
  rw[if_neg c11]at h
  refine T_cFz 17 (beq_eq_false_iff_ne.mpr c11)<| T_k ?_
  refine S_blockEnd ?_
  refine S_then ?_
  refine T_rz 6<| T_ed 2 [2,12,17] [(12,vi (IntKind.wrap .i64 (e+1)))] ?_
  exact S_round ((IntKind.wrap .i64 (e+1)):Int) sk h
 rw[if_neg c8]at h
 refine T_cFz 13 (decide_eq_false c8) ?_
 refine S_exit 0 (by kernel_rfl) ?_
 refine S_exitThen ?_
 refine S_exitThen ?_
 refine S_exitHere ?_
 refine S_then ?_
 refine T_sz<| T_srz 7<| T_nd 3 [11,12,13] [(33,vp (some (d.add 1028)))] ?_
 obtain⟨xB,xN,xC,q16,h⟩:=h
 refine T_l1 34 125 q16 [33]<| T_ed 2 [] [(35,vi xN),(36,vi 0)]<| T_bz 2 ?_
 obtain⟨af,m34,i17,i18⟩:=h
 refine S_loop (x:=K33) (σ:=Int) (λs_=> [(0,vp (some d)),(34,vs xB xN xC),(35,vi xN),(36,vi s_)]) (λs_ H=>af s_ H) (λs_ H=>m34 s_ H) (0:Int) (by kernel_rfl) i17 sk ?_
 rintro f H4 i19
 have h:=i18 f H4 i19
 refine T_su [(0,vp (some d)),(34,vs xB xN xC),(35,vi xN),(36,vi f)]<| T_srz 8<| T_ed 1 [] [(37,.bool (decide (f< (xN:Int))))]<| T_sz ?_
 by_cases c20:f< (xN:Int)
 ·rw[if_pos c20]at h
  refine T_cTz 37 (decide_eq_true c20)<| T_kt<| T_sz<| T_bz 3<| T_srz 9<| T_ud [37] [] ?_
  obtain⟨j,rfl,h⟩:=h
  obtain⟨q22,h⟩:=h
  refine T_xd (some 38) 125 132 2 j xN xC .i64 f Tryz.underlying125 q22.1 q22.2 [34] [(34,vs (some j) xN xC),(38,vp (some (j.add (Int.toNat f*2))))] ?_
  obtain⟨o,l,q23,h⟩:=h
  refine T_lr 39 132 q23 [38]<| T_nw (some 5) (λb=>vp (pa b)) (.cells #[vi 0,vi 0] 132) ?_
  intro b H5 e24 e25
  replace h:=h b H5 e24 e25
  refine T_pd [] [(5,vp (pa b))] ?_
  obtain⟨q27,h⟩:=h
  refine T_sta 132 [vi o,vi l] q27 ?_
  intro H6 e26
  replace h:=h H6 e26
  refine T_pd [39] []<| T_e ?_
  obtain⟨ah,q28,h⟩:=h
  obtain⟨m,rfl,h⟩:=h
  obtain⟨q,q29,h⟩:=h
  obtain⟨p,q30,h⟩:=h
  obtain⟨s,q31,h⟩:=h
  refine S_regionG 10 (Code.ops K44) [(11,d,[vp (some m)]),(11,m,[vp q]),(11,(ad b),[vi p]),(11,((ad b).add 1),[vi s])] 12 (bv 12 0) (by kernel_rfl) (by kernel_rfl) (by kernel_rfl) (by kernel_rfl) (by kernel_rfl) (show FactsAt _ _ _ from⟨⟨q28,trivial⟩,⟨q29,trivial⟩,⟨q30,trivial⟩,⟨q31,trivial⟩,trivial⟩) ?_
  refine T_gp 0 (some 40) (vp (some d)) (bv 12 1) [(0,vp (some d)),(5,vp (pa b)),(34,vs (some j) xN xC),(35,vi xN),(36,vi f),(40,vp (some d))]<| T_gp1 1 41 (vp (some d)) (bv 12 3) [40]<| T_gp1 2 42 (vp (some d)) (bv 12 7) [41]<| T_g1 3 43 (vp (some m)) (bv 12 15) [42] (loadN 22 (vp (some d))) (held_one 11 (λ_=>by kernel_rfl) (List.Mem.head _) (.inl (by kernel_rfl)))<| T_gp1 4 44 (vp (some m)) (bv 12 31) [43]<| T_gp1 5 45 (vp (some m)) (bv 12 63) [44]<| T_g1 6 46 (vp q) (bv 12 127) [45] (loadN 26 (vp (some m))) (held_one 11 (λ_=>by kernel_rfl) (List.Mem.tail _ (List.Mem.head _)) (.inl (by kernel_rfl)))<| T_gp1 7 47 (vp (pa b)) (bv 12 255) []<| T_g1 8 48 (vi p) (bv 12 511) [47] (loadN 3 (vp (pa b))) (held_one 11 (λ_=>by kernel_rfl) (List.Mem.tail _ (List.Mem.tail _ (List.Mem.head _))) (.inl (by kernel_rfl))) ?_
  refine T_gp1 9 49 (vp (some ((ad b).add 1))) (bv 12 1023) [5]<| T_g1 10 50 (vi s) (bv 12 2047) [49] (loadN 3 (vp (some ((ad b).add 1)))) (held_one 11 (λ_=>by kernel_rfl) (List.Mem.tail _ (List.Mem.tail _ (List.Mem.tail _ (List.Mem.head _)))) (.inl (by kernel_rfl))) ?_
  refine G_call 11 (some 51) (bv 12 4095) 62 #[vp q,vi p,vi s] (by kernel_rfl) (λ_=>by kernel_rfl) h (by kernel_rfl) ?_;clear h
  rintro ak H7 ⟨ag,rfl,h⟩
  refine⟨[(0,vp (some d)),(34,vs (some j) xN xC),(35,vi xN),(36,vi f)],pk,(show FactsAt _ _ _ from⟨trivial,trivial,trivial,trivial,trivial⟩),?_⟩
  refine G_sub [(0,vp (some d)),(34,vs (some j) xN xC),(35,vi xN),(36,vi f)] sk ?_
  refine G_end (by kernel_rfl) ?_
  refine S_blockEnd ?_
  refine S_then ?_
  refine T_rz 11<| T_ne 2 [(0,vp (some d)),(34,vs (some j) xN xC),(35,vi xN),(36,vi (IntKind.wrap .i64 (f+1)))] ?_
  exact S_round ((IntKind.wrap .i64 (f+1)):Int) sk h
 rw[if_neg c20]at h
 refine T_cFz 37 (decide_eq_false c20) ?_
 refine S_exit 2 (by kernel_rfl) ?_
 refine S_exitThen ?_
 refine S_exitThen ?_
 refine S_exitHere ?_
 refine S_then ?_
 refine T_srz 12<| T_n 3 [(0,vp (some d)),(55,vp (some d))] ?_
 obtain⟨u,q32,h⟩:=h
 refine T_l1 56 22 q32 [55] ?_
 refine T_c (some 57) h ?_;clear h
 intro v_4 H8 h
 refine T_pd [56] []<| T_e<| T_rz 13<| T_n 3 [(60,vp (some (d.add 1029)))] ?_
 obtain⟨q34,h⟩:=h
 refine T_st1 3 (vi 1) q34 ?_
 intro H9 e33
 replace h:=h H9 e33
 refine⟨[],pk,?_⟩
 refine N_end (by kernel_rfl) ?_
 exact S_doneN (fn:=Tryz.f28) [] hQ (show ResOK _ _ _ [] _ from .nil) h
theorem linkD{tv:Option Addr}{H:Array Obj}{R:Value->Array Obj->Prop}(h:pt tv H R):CD tv H (λH=> ∃v,R v H):=by
 refine S_enterD (fn:=Tryz.f28) (c:=K0) 61 Tryz.func28 (by kernel_rfl) (by kernel_rfl) (Nat.le_of_ble_eq_true (by kernel_rfl)) ?_
 intro w0 Q hQ
 unfold pt at h
 refine T_su [(0,vp tv)]<| T_sz<| T_srz 0<| T_nd 1 [] [(6,vp tv)] ?_
 refine T_c (some 7) h ?_;clear h
 rintro v H1 ⟨x,rfl,h⟩
 refine T_pd [6] [(7,.bool x)]<| T_e ?_
 by_cases c1:x=true
 ·rw[if_pos c1]at h
  refine T_cTz 7 c1 ?_
  refine S_ret (by kernel_rfl) ?_
  show At _ _ _ _ _ (Q .ret)
  exact S_done0 (fn:=Tryz.f28) [] hQ (show ResOK _ _ _ [] _ from .nil) h
 rw[if_neg c1]at h
 refine T_cFz 7 (eq_false_of_ne_true c1)<| T_kt<| T_sz<| T_srz 1<| T_nd 1 [7] [(8,vp tv)] ?_
 obtain⟨d,rfl,h⟩:=h
 refine T_n 2 [(0,vp (some d)),(10,vp (some (d.add 2)))] ?_
 obtain⟨g,l4,q3,h⟩:=h
 refine T_v1 11 (loadN 124 (vp (some (d.add 2)))) (.agg (g).toArray) (loadN_run (loadOK_row (λ_=>by kernel_rfl) (λw=>by rw[l4];kernel_rfl) q3)) [10] ?_
 refine T_ed 1 [] [(12,vi 0)]<| T_bz 0 ?_
 obtain⟨ab,m13,i5,i6⟩:=h
 refine S_loop (x:=K12) (σ:=Int) (λs_=> [(0,vp (some d)),(11,.agg (g).toArray),(12,vi s_)]) (λs_ H=>ab s_ H) (λs_ H=>m13 s_ H) (0:Int) (by kernel_rfl) i5 sk ?_
 rintro e H2 i7
 have h:=i6 e H2 i7
 refine T_su [(0,vp (some d)),(11,.agg (g).toArray),(12,vi e)]<| T_srz 2<| T_ed 1 [] [(13,.bool (decide (e<1024)))]<| T_sz ?_
 by_cases c8:e<1024
 ·rw[if_pos c8]at h
  refine T_cTz 13 (decide_eq_true c8)<| T_kt<| T_sz<| T_bz 1<| T_srz 3<| T_nd 1 [13] [(14,vi e)] ?_
  obtain⟨r,q10,h⟩:=h
  refine T_v1 15 (indexN 124 (.agg (g).toArray) (vi e)) (vi r) (λw _=>indexAgg_run (P:=Tryz.prog) (t:=124) (elem:=3) (n:=1024) Tryz.underlying124 (λ_=>by kernel_rfl) (λ_=>by kernel_rfl) q10.1.1 q10.1.2 q10.2 w) []<| T_ed 2 [14,15] [(2,vi e),(3,vi r)]<| T_srz 4<| T_ed 2 [3] [(17,.bool (r==1))] ?_
  by_cases c11:r=1
  ·rw[if_pos c11]at h
   refine T_cTz 17 (beq_iff_eq.mpr c11)<| T_rz 5<| T_nd 3 [17] [(20,vp (some d))] ?_
   obtain⟨ac,q13,h⟩:=h
   refine T_l1 21 22 q13 [20] ?_
   obtain⟨ae,rfl,h⟩:=h
   refine T_nd 2 [21] [(23,vp (some ae))] ?_
   obtain⟨z,q14,h⟩:=h
   refine T_l1 24 26 q14 [23] ?_
   obtain⟨aa,rfl,h⟩:=h
   refine T_nd 2 [24] [(26,vp (some aa))] ?_
   obtain⟨y,q15,h⟩:=h
   refine T_l1 27 39 q15 [26]<| T_nd 1 [2] [(28,vi e)] ?_
   refine T_c (some 29) h ?_;clear h
   rintro aj H3 ⟨ai,rfl,h⟩
   refine T_pd [27,28] [] ?_
   refine N_end (by kernel_rfl) ?_
   refine S_blockEnd ?_
   refine S_then ?_
   refine T_rz 6<| T_ed 2 [12] [(12,vi (IntKind.wrap .i64 (e+1)))] ?_
   exact S_round ((IntKind.wrap .i64 (e+1)):Int) sk h
  rw[if_neg c11]at h
  refine T_cFz 17 (beq_eq_false_iff_ne.mpr c11)<| T_k ?_
  refine S_blockEnd ?_
  refine S_then ?_
  refine T_rz 6<| T_ed 2 [2,12,17] [(12,vi (IntKind.wrap .i64 (e+1)))] ?_
  exact S_round ((IntKind.wrap .i64 (e+1)):Int) sk h
 rw[if_neg c8]at h
 refine T_cFz 13 (decide_eq_false c8) ?_
 refine S_exit 0 (by kernel_rfl) ?_
 refine S_exitThen ?_
 refine S_exitThen ?_
 refine S_exitHere ?_
 refine S_then ?_
 refine T_sz<| T_srz 7<| T_nd 3 [11,12,13] [(33,vp (some (d.add 1028)))] ?_
 obtain⟨xB,xN,xC,q16,h⟩:=h
 refine T_l1 34 125 q16 [33]<| T_ed 2 [] [(35,vi xN),(36,vi 0)]<| T_bz 2 ?_
 obtain⟨af,m34,i17,i18⟩:=h
 refine S_loop (x:=K33) (σ:=Int) (λs_=> [(0,vp (some d)),(34,vs xB xN xC),(35,vi xN),(36,vi s_)]) (λs_ H=>af s_ H) (λs_ H=>m34 s_ H) (0:Int) (by kernel_rfl) i17 sk ?_
 rintro f H4 i19
 have h:=i18 f H4 i19
 refine T_su [(0,vp (some d)),(34,vs xB xN xC),(35,vi xN),(36,vi f)]<| T_srz 8<| T_ed 1 [] [(37,.bool (decide (f< (xN:Int))))]<| T_sz ?_
 by_cases c20:f< (xN:Int)
 ·rw[if_pos c20]at h
  refine T_cTz 37 (decide_eq_true c20)<| T_kt<| T_sz<| T_bz 3<| T_srz 9<| T_ud [37] [] ?_
  obtain⟨j,rfl,h⟩:=h
  obtain⟨q22,h⟩:=h
  refine T_xd (some 38) 125 132 2 j xN xC .i64 f Tryz.underlying125 q22.1 q22.2 [34] [(34,vs (some j) xN xC),(38,vp (some (j.add (Int.toNat f*2))))] ?_
  obtain⟨o,l,q23,h⟩:=h
  refine T_lr 39 132 q23 [38]<| T_nw (some 5) (λb=>vp (pa b)) (.cells #[vi 0,vi 0] 132) ?_
  intro b H5 e24 e25
  replace h:=h b H5 e24 e25
  refine T_pd [] [(5,vp (pa b))] ?_
  obtain⟨q27,h⟩:=h
  refine T_sta 132 [vi o,vi l] q27 ?_
  intro H6 e26
  replace h:=h H6 e26
  refine T_pd [39] []<| T_e ?_
  obtain⟨ah,q28,h⟩:=h
  obtain⟨m,rfl,h⟩:=h
  obtain⟨q,q29,h⟩:=h
  obtain⟨p,q30,h⟩:=h
  obtain⟨s,q31,h⟩:=h
  refine S_regionG 10 (Code.ops K44) [(11,d,[vp (some m)]),(11,m,[vp q]),(11,(ad b),[vi p]),(11,((ad b).add 1),[vi s])] 12 (bv 12 0) (by kernel_rfl) (by kernel_rfl) (by kernel_rfl) (by kernel_rfl) (by kernel_rfl) (show FactsAt _ _ _ from⟨⟨q28,trivial⟩,⟨q29,trivial⟩,⟨q30,trivial⟩,⟨q31,trivial⟩,trivial⟩) ?_
  refine T_gp 0 (some 40) (vp (some d)) (bv 12 1) [(0,vp (some d)),(5,vp (pa b)),(34,vs (some j) xN xC),(35,vi xN),(36,vi f),(40,vp (some d))]<| T_gp1 1 41 (vp (some d)) (bv 12 3) [40]<| T_gp1 2 42 (vp (some d)) (bv 12 7) [41]<| T_g1 3 43 (vp (some m)) (bv 12 15) [42] (loadN 22 (vp (some d))) (held_one 11 (λ_=>by kernel_rfl) (List.Mem.head _) (.inl (by kernel_rfl)))<| T_gp1 4 44 (vp (some m)) (bv 12 31) [43]<| T_gp1 5 45 (vp (some m)) (bv 12 63) [44]<| T_g1 6 46 (vp q) (bv 12 127) [45] (loadN 26 (vp (some m))) (held_one 11 (λ_=>by kernel_rfl) (List.Mem.tail _ (List.Mem.head _)) (.inl (by kernel_rfl)))<| T_gp1 7 47 (vp (pa b)) (bv 12 255) []<| T_g1 8 48 (vi p) (bv 12 511) [47] (loadN 3 (vp (pa b))) (held_one 11 (λ_=>by kernel_rfl) (List.Mem.tail _ (List.Mem.tail _ (List.Mem.head _))) (.inl (by kernel_rfl))) ?_
  refine T_gp1 9 49 (vp (some ((ad b).add 1))) (bv 12 1023) [5]<| T_g1 10 50 (vi s) (bv 12 2047) [49] (loadN 3 (vp (some ((ad b).add 1)))) (held_one 11 (λ_=>by kernel_rfl) (List.Mem.tail _ (List.Mem.tail _ (List.Mem.tail _ (List.Mem.head _)))) (.inl (by kernel_rfl))) ?_
  refine G_call 11 (some 51) (bv 12 4095) 62 #[vp q,vi p,vi s] (by kernel_rfl) (λ_=>by kernel_rfl) h (by kernel_rfl) ?_;clear h
  rintro ak H7 ⟨ag,rfl,h⟩
  refine⟨[(0,vp (some d)),(34,vs (some j) xN xC),(35,vi xN),(36,vi f)],pk,(show FactsAt _ _ _ from⟨trivial,trivial,trivial,trivial,trivial⟩),?_⟩
  refine G_sub [(0,vp (some d)),(34,vs (some j) xN xC),(35,vi xN),(36,vi f)] sk ?_
  refine G_end (by kernel_rfl) ?_
  refine S_blockEnd ?_
  refine S_then ?_
  refine T_rz 11<| T_ne 2 [(0,vp (some d)),(34,vs (some j) xN xC),(35,vi xN),(36,vi (IntKind.wrap .i64 (f+1)))] ?_
  exact S_round ((IntKind.wrap .i64 (f+1)):Int) sk h
 rw[if_neg c20]at h
 refine T_cFz 37 (decide_eq_false c20) ?_
 refine S_exit 2 (by kernel_rfl) ?_
 refine S_exitThen ?_
 refine S_exitThen ?_
 refine S_exitHere ?_
 refine S_then ?_
 refine T_srz 12<| T_n 3 [(0,vp (some d)),(55,vp (some d))] ?_
 obtain⟨u,q32,h⟩:=h
 refine T_l1 56 22 q32 [55] ?_
 refine T_c (some 57) h ?_;clear h
 intro v_4 H8 h
 refine T_pd [56] []<| T_e<| T_rz 13<| T_n 3 [(60,vp (some (d.add 1029)))] ?_
 obtain⟨q34,h⟩:=h
 refine T_st1 3 (vi 1) q34 ?_
 intro H9 e33
 replace h:=h H9 e33
 refine⟨[],pk,?_⟩
 refine N_end (by kernel_rfl) ?_
 exact S_doneN0 (fn:=Tryz.f28) [] hQ (show ResOK _ _ _ [] _ from .nil) h
end trace_Trace_End

/-! (*moraine/trace.Trace).Visit -/
namespace trace_Trace_Visit
def K0:=Func.code Tryz.f29
def K2:=cb K0
def K4:=cb K2
def K10:=cb K4
def K20:=cb K10
def K22:=cb K20
def K30:=cb K22
def K32:=cb K30
def K33:=ca K32
def K34:=cb K32
def K36:=cb K34
def K41:=ca K36
def K44:=cb K41
def K45:=ca K44
def K46:=ca K45
end trace_Trace_Visit
def trace_Trace_Visit.pt(tv:Option Addr)(wv:Int)(H:Array Obj)(R:Value->Array Obj->Prop):Prop:=
 trace_Trace_Old.C tv wv H (λv H1=> ∃x:Bool,v=.bool x/\
 if x=true then(
 trace_Trace_moved.C tv wv H1 (λbu H2=> ∃(ra:Int) (rb:Bool),bu=.tuple #[.int .u64 ra,.bool rb]/\
 if rb=true then(
 R (.int .u64 ra) H2)
 else
 ∃d:Addr,tv=some d/\
 ∃aj:Option Addr,hat H2 d=some (.pointer aj)/\
 obj_Heap_Size.C aj wv H2 (λbt H3=> ∃f:Int,bt=.int .i64 f/\
 if f=0 then(
 R (.int .u64 wv) H3)
 else
 word_Addr.C wv H3 (λb1 H4=> ∃(a:Int) (bg:Bool),b1=.tuple #[.int .i64 a,.bool bg]/\
 ∃bb:Option Addr,hat H4 d=some (.pointer bb)/\
 ∃bc:Addr,bb=some bc/\
 ∃a6:Option Addr,hat H4 bc=some (.pointer a6)/\
 ∃ba:Addr,a6=some ba/\
 ∃a7:Option Addr,hat H4 ba=some (.pointer a7)/\
 ∃a9:Addr,a7=some a9/\
 ∃a3:Option Addr,hat H4 a9=some (.pointer a3)/\
 seg_Mem_Seg.C a3 (IntKind.wrap .i64 (Int.tdiv a 64)) H4 (λbs H5=> ∃(r q ae k j l i:Int) (ag:Bool),bs=.tuple #[.agg #[.int .i64 r,.int .i64 q,.int .i64 ae,.int .i64 k,.int .i64 j,.int .i64 l,.int .i64 i],.bool ag]/\
 ∀(b:Nat) (H6:Array Obj),b=H5.size->H6=H5.push (.cells #[.int .i64 0,.int .i64 0,.int .i64 0,.int .i64 0,.int .i64 0,.int .i64 0,.int .i64 0] 76)->
 (CanPuts H6 (ad b) 0 7)/\ ∀H7,H7=hputs H6 (ad b) [.int .i64 r,.int .i64 q,.int .i64 ae,.int .i64 k,.int .i64 j,.int .i64 l,.int .i64 i] 0->
 ∃bi:Option Addr,hat H7 d=some (.pointer bi)/\
 ∃t:Addr,bi=some t/\
 ∃bn:Option Addr,hat H7 t=some (.pointer bn)/\
 ∃s:Addr,bn=some s/\
 ∃p:Option Addr,hat H7 s=some (.pointer p)/\
 ∃u:Int,hat H7 (d.add 1)=some (.int .i64 u)/\
 ∃y:Int,hat H7 ((ad b).add 1)=some (.int .i64 y)/\
 space_Space_Alloc.C p u y f H7 (λbw H8=> ∃e m:Int,bw=.tuple #[.int .i64 e,.int .i64 m]/\
 if m=0 then(
 ∃(a8:Int->Array Obj->Prop) (m47:Int->Array Obj->Nat),a8 0 H8/\ ∀(g:Int) (H9:Array Obj),a8 g H9->
 if g<f then(
 ∃al:Option Addr,hat H9 d=some (.pointer al)/\
 ∃ay:Addr,al=some ay/\
 ∃au:Option Addr,hat H9 ay=some (.pointer au)/\
 ∃ax:Addr,au=some ax/\
 ∃am:Option Addr,hat H9 ax=some (.pointer am)/\
 ∃aq:Addr,am=some aq/\
 ∃ab:Option Addr,hat H9 aq=some (.pointer ab)/\
 seg_Mem_Read.C ab (IntKind.wrap .i64 (a+g)) H9 (λbx a5=> ∃n be:Int,bx=.tuple #[.int .u64 n,.int .i64 be]/\
 ∃a2:Option Addr,hat a5 d=some (.pointer a2)/\
 ∃aw:Addr,a2=some aw/\
 ∃a0:Option Addr,hat a5 aw=some (.pointer a0)/\
 ∃an:Addr,a0=some an/\
 ∃ah:Option Addr,hat a5 an=some (.pointer ah)/\
 ∃ak:Addr,ah=some ak/\
 ∃ac:Option Addr,hat a5 ak=some (.pointer ac)/\
 seg_Mem_Write.C ac (IntKind.wrap .i64 (e+g)) n a5 (λbz bh=> ∃bm:Int,bz=.int .i64 bm/\
 (a8 (IntKind.wrap .i64 (g+1)) bh/\m47 (IntKind.wrap .i64 (g+1)) bh<m47 g H9))))
 else
 word_At.C 6 e H9 (λbr a4=> ∃o bf:Int,br=.tuple #[.int .u64 o,.int .i64 bf]/\
 ∃a1:Option Addr,hat a4 d=some (.pointer a1)/\
 ∃ap:Addr,a1=some ap/\
 ∃ai:Option Addr,hat a4 ap=some (.pointer ai)/\
 ∃ao:Addr,ai=some ao/\
 ∃az:Option Addr,hat a4 ao=some (.pointer az)/\
 ∃av:Addr,az=some av/\
 ∃aa:Option Addr,hat a4 av=some (.pointer aa)/\
 seg_Mem_Write.C aa a o a4 (λbo bp=> ∃bk:Int,bo=.int .i64 bk/\
 word_Tag.C wv bp (λbl b0=> ∃af:Int,bl=.int .i64 af/\
 word_At.C af e b0 (λbj bq=> ∃z bd:Int,bj=.tuple #[.int .u64 z,.int .i64 bd]/\
 R (.int .u64 z) bq)))))
 else
 R (.int .u64 wv) H8))))))
 else
 R (.int .u64 wv) H1)
namespace trace_Trace_Visit
theorem link{tv:Option Addr}{wv:Int}{H:Array Obj}{R:Value->Array Obj->Prop}(h:pt tv wv H R):C tv wv H R:=by
 refine T_en K0 163 Tryz.func29 ?_
 intro w0 Q hQ
 unfold pt at h
 refine T_su [(0,vp tv),(1,vu wv)]<| T_srz 0<| T_ed 1 [] []<| T_sz<| T_srz 1<| T_nd 2 [] [(21,vp tv),(22,vu wv)] ?_
 refine T_c (some 23) h ?_;clear h
 rintro v H1 ⟨x,rfl,h⟩
 refine T_pd [21,22] [(23,.bool x)]<| T_ed 1 [23] [(24,.bool (!x))] ?_
 by_cases c1:x=true
 ·rw[if_pos c1]at h
  refine T_cFz 24 (congrArg Bool.not (c1))<| T_kt<| T_sz<| T_srz 3<| T_nd 2 [24] [(27,vp tv),(28,vu wv)] ?_
  refine T_c (some 29) h ?_;clear h
  rintro bu H2 ⟨ra,rb,rfl,h⟩
  refine T_pd [27,28] [(29,.tuple #[vu ra,.bool rb])]<| T_ed 5 [29] [(5,vu ra),(6,.bool rb)]<| T_srz 4<| T_ed 1 [6] [(32,.bool rb)] ?_
  by_cases c3:rb=true
  ·rw[if_pos c3]at h
   exact T_cTz 32 c3<| T_srz 5<| T_nr 2 [4] [vu ra] hQ h
  rw[if_neg c3]at h
  refine T_cFz 32 (eq_false_of_ne_true c3)<| T_kt<| T_srz 6<| T_nd 1 [5,32] [(34,vp tv)] ?_
  obtain⟨d,rfl,h⟩:=h
  refine T_nd 2 [0,34] [(0,vp (some d)),(36,vp (some d))] ?_
  obtain⟨aj,q5,h⟩:=h
  refine T_l1 37 22 q5 [36]<| T_nd 1 [] [(38,vu wv)] ?_
  refine T_c (some 39) h ?_;clear h
  rintro bt H3 ⟨f,rfl,h⟩
  refine T_pd [37,38] [(39,vi f)]<| T_ed 1 [39] [(7,vi f)]<| T_sz<| T_srz 7<| T_ed 2 [] [(41,.bool (f==0))] ?_
  by_cases c6:f=0
  ·rw[if_pos c6]at h
   exact T_cTz 41 (beq_iff_eq.mpr c6)<| T_srz 8<| T_nr 2 [4] [vu wv] hQ h
  rw[if_neg c6]at h
  refine T_cFz 41 (beq_eq_false_iff_ne.mpr c6)<| T_kt<| T_srz 9<| T_nd 1 [41] [(44,vu wv)] ?_
  refine T_c (some 45) h ?_;clear h
  rintro b1 H4 ⟨a,bg,rfl,h⟩
  refine T_pd [44] [(45,.tuple #[vi a,.bool bg])]<| T_ed 5 [45] [(8,vi a)]<| T_srz 10<| T_nd 3 [] [(51,vp (some d))] ?_
  obtain⟨bb,q8,h⟩:=h
  refine T_l1 52 22 q8 [51] ?_
  obtain⟨bc,rfl,h⟩:=h
  refine T_nd 2 [52] [(54,vp (some bc))] ?_
  obtain⟨a6,q9,h⟩:=h
  refine T_l1 55 26 q9 [54] ?_
  obtain⟨ba,rfl,h⟩:=h
  refine T_nd 2 [55] [(57,vp (some ba))] ?_
  obtain⟨a7,q10,h⟩:=h
  refine T_l1 58 39 q10 [57] ?_
  obtain⟨a9,rfl,h⟩:=h
  refine T_nd 2 [58] [(60,vp (some a9))] ?_
  obtain⟨a3,q11,h⟩:=h
  refine T_l1 61 69 q11 [60]<| T_nd 2 [] [(63,vi (IntKind.wrap .i64 (Int.tdiv a 64)))] ?_
  refine T_c (some 64) h ?_;clear h
  rintro bs H5 ⟨r,q,ae,k,j,l,i,ag,rfl,h⟩
  refine T_pd [61,63] [(64,.tuple #[.agg #[vi r,vi q,vi ae,vi k,vi j,vi l,vi i],.bool ag])]<| T_nd 3 [64] [(65,.agg #[vi r,vi q,vi ae,vi k,vi j,vi l,vi i]),(66,.bool ag)]<| T_nw (some 10) (λb=>vp (pa b)) (.cells #[vi 0,vi 0,vi 0,vi 0,vi 0,vi 0,vi 0] 76) ?_
  intro b H6 e12 e13
  replace h:=h b H6 e12 e13
  refine T_pd [] [(10,vp (pa b))] ?_
  obtain⟨q15,h⟩:=h
  refine T_sta 76 [vi r,vi q,vi ae,vi k,vi j,vi l,vi i] q15 ?_
  intro H7 e14
  replace h:=h H7 e14
  refine T_pd [65] []<| T_ed 1 [66] []<| T_sz ?_
  obtain⟨bi,q16,h⟩:=h
  obtain⟨t,rfl,h⟩:=h
  obtain⟨bn,q17,h⟩:=h
  obtain⟨s,rfl,h⟩:=h
  obtain⟨p,q18,h⟩:=h
  obtain⟨u,q19,h⟩:=h
  obtain⟨y,q20,h⟩:=h
  refine S_regionG 11 (Code.ops K33) [(17,d,[vp (some t)]),(17,t,[vp (some s)]),(17,s,[vp p]),(17,(d.add 1),[vi u]),(17,((ad b).add 1),[vi y])] 23 (bv 23 0) (by kernel_rfl) (by kernel_rfl) (by kernel_rfl) (by kernel_rfl) (by kernel_rfl) (show FactsAt _ _ _ from⟨⟨q16,trivial⟩,⟨q17,trivial⟩,⟨q18,trivial⟩,⟨q19,trivial⟩,⟨q20,trivial⟩,trivial⟩) ?_
  refine T_gp 0 (some 68) (vp (some d)) (bv 23 1) [(0,vp (some d)),(1,vu wv),(7,vi f),(8,vi a),(10,vp (pa b)),(68,vp (some d))]<| T_gp1 1 69 (vp (some d)) (bv 23 3) [68]<| T_gp1 2 70 (vp (some d)) (bv 23 7) [69]<| T_g1 3 71 (vp (some t)) (bv 23 15) [70] (loadN 22 (vp (some d))) (held_one 17 (λ_=>by kernel_rfl) (List.Mem.head _) (.inl (by kernel_rfl)))<| T_gp1 4 72 (vp (some t)) (bv 23 31) [71]<| T_gp1 5 73 (vp (some t)) (bv 23 63) [72]<| T_g1 6 74 (vp (some s)) (bv 23 127) [73] (loadN 26 (vp (some t))) (held_one 17 (λ_=>by kernel_rfl) (List.Mem.tail _ (List.Mem.head _)) (.inl (by kernel_rfl)))<| T_gp1 7 75 (vp (some s)) (bv 23 255) [74]<| T_gp1 8 76 (vp (some s)) (bv 23 511) [75] ?_
  refine T_g1 9 77 (vp p) (bv 23 1023) [76] (loadN 39 (vp (some s))) (held_one 17 (λ_=>by kernel_rfl) (List.Mem.tail _ (List.Mem.tail _ (List.Mem.head _))) (.inl (by kernel_rfl)))<| T_gp1 10 78 (vp (some d)) (bv 23 2047) []<| T_gp1 11 79 (vp (some d)) (bv 23 4095) [78]<| T_gp1 12 80 (vp (some (d.add 1))) (bv 23 8191) [79]<| T_g1 13 81 (vi u) (bv 23 16383) [80] (loadN 3 (vp (some (d.add 1)))) (held_one 17 (λ_=>by kernel_rfl) (List.Mem.tail _ (List.Mem.tail _ (List.Mem.tail _ (List.Mem.head _)))) (.inl (by kernel_rfl)))<| T_gp1 14 82 (vp (some ((ad b).add 1))) (bv 23 32767) [10]<| T_g1 15 83 (vi y) (bv 23 65535) [82] (loadN 3 (vp (some ((ad b).add 1)))) (held_one 17 (λ_=>by kernel_rfl) (List.Mem.tail _ (List.Mem.tail _ (List.Mem.tail _ (List.Mem.tail _ (List.Mem.head _))))) (.inl (by kernel_rfl)))<| T_gp1 16 84 (vi f) (bv 23 131071) [] ?_
  refine G_call 17 (some 85) (bv 23 262143) 66 #[vp p,vi u,vi y,vi f] (by kernel_rfl) (λ_=>by kernel_rfl) h (by kernel_rfl) ?_;clear h
  rintro bw H8 ⟨e,m,rfl,h⟩
  refine⟨[(0,vp (some d)),(1,vu wv),(7,vi f),(8,vi a),(85,.tuple #[vi e,vi m])],pk,(show FactsAt _ _ _ from⟨trivial,trivial,trivial,trivial,trivial,trivial⟩),?_⟩
  refine T_g 18 (some 67) (.tuple #[vi e,vi m]) (bv 23 524287) [(0,vp (some d)),(1,vu wv),(7,vi f),(8,vi a),(67,.tuple #[vi e,vi m])] (pure (.value (.tuple #[vi e,vi m])):Sem Next) (λ_ _ _ _ _=>rfl)<| T_g1 19 86 (vi e) (bv 23 1048575) [] (pure (.value (vi e)):Sem Next) (λ_ _ _ _ _=>rfl)<| T_g1 20 87 (vi m) (bv 23 2097151) [67] (pure (.value (vi m)):Sem Next) (λ_ _ _ _ _=>rfl)<| T_g1 21 12 (vi e) (bv 23 4194303) [86] (pure (.value (vi e)):Sem Next) (λ_ _ _ _ _=>rfl)<| T_g1 22 13 (vi m) (bv 23 8388607) [87] (pure (.value (vi m)):Sem Next) (λ_ _ _ _ _=>rfl) ?_
  refine G_sub [(0,vp (some d)),(1,vu wv),(7,vi f),(8,vi a),(12,vi e),(13,vi m)] sk ?_
  refine G_end (by kernel_rfl) ?_
  refine S_then ?_
  refine T_sz<| T_srz 12<| T_ne 2 [(0,vp (some d)),(1,vu wv),(7,vi f),(8,vi a),(12,vi e),(89,.bool (m !=0))] ?_
  by_cases c21:m=0
  ·rw[if_pos c21]at h
   refine T_cFz 89 (bne_eq_false_iff_eq.mpr c21)<| T_kt<| T_sz<| T_srz 14<| T_ed 2 [7,89] [(91,vi f),(92,vi 0)]<| T_bz 0 ?_
   obtain⟨a8,m47,i23,i24⟩:=h
   refine S_loop (x:=K46) (σ:=Int) (λs_=> [(0,vp (some d)),(1,vu wv),(8,vi a),(12,vi e),(91,vi f),(92,vi s_)]) (λs_ H=>a8 s_ H) (λs_ H=>m47 s_ H) (0:Int) (by kernel_rfl) i23 sk ?_
   rintro g H9 i25
   have h:=i24 g H9 i25
   refine T_su [(0,vp (some d)),(1,vu wv),(8,vi a),(12,vi e),(91,vi f),(92,vi g)]<| T_srz 15<| T_ed 1 [] [(93,.bool (decide (g<f)))]<| T_sz ?_
   by_cases c26:g<f
   ·rw[if_pos c26]at h
    refine T_cTz 93 (decide_eq_true c26)<| T_kt<| T_sz<| T_bz 1<| T_srz 16<| T_ed 2 [93] [(14,vi g)]<| T_srz 17<| T_nd 3 [] [(98,vp (some d))] ?_
    obtain⟨al,q28,h⟩:=h
    refine T_l1 99 22 q28 [98] ?_
    obtain⟨ay,rfl,h⟩:=h
    refine T_nd 2 [99] [(101,vp (some ay))] ?_
    obtain⟨au,q29,h⟩:=h
    refine T_l1 102 26 q29 [101] ?_
    obtain⟨ax,rfl,h⟩:=h
    refine T_nd 2 [102] [(104,vp (some ax))] ?_
    obtain⟨am,q30,h⟩:=h
    refine T_l1 105 39 q30 [104] ?_
    obtain⟨aq,rfl,h⟩:=h
    refine T_nd 2 [105] [(107,vp (some aq))] ?_
    obtain⟨ab,q31,h⟩:=h
    refine T_l1 108 69 q31 [107]<| T_nd 3 [] [(111,vi (IntKind.wrap .i64 (a+g)))] ?_
    refine T_c (some 112) h ?_;clear h
    rintro bx a5 ⟨n,be,rfl,h⟩
    refine T_pd [108,111] [(112,.tuple #[vu n,vi be])]<| T_ed 5 [112] [(15,vu n)]<| T_rz 18<| T_nd 3 [] [(117,vp (some d))] ?_
    obtain⟨a2,q32,h⟩:=h
    refine T_l1 118 22 q32 [117] ?_
    obtain⟨aw,rfl,h⟩:=h
    refine T_nd 2 [118] [(120,vp (some aw))] ?_
    obtain⟨a0,q33,h⟩:=h
    refine T_l1 121 26 q33 [120] ?_
    obtain⟨an,rfl,h⟩:=h
    refine T_nd 2 [121] [(123,vp (some an))] ?_
    obtain⟨ah,q34,h⟩:=h
    refine T_l1 124 39 q34 [123] ?_
    obtain⟨ak,rfl,h⟩:=h
    refine T_nd 2 [124] [(126,vp (some ak))] ?_
    obtain⟨ac,q35,h⟩:=h
    refine T_l1 127 69 q35 [126]<| T_nd 4 [14,15] [(130,vi (IntKind.wrap .i64 (e+g))),(131,vu n)] ?_
    refine T_c (some 132) h ?_;clear h
    rintro bz bh ⟨bm,rfl,h⟩
    refine T_pd [127,130,131] [] ?_
    refine N_end (by kernel_rfl) ?_
    refine S_blockEnd ?_
    refine S_then ?_
    refine T_rz 19<| T_ed 2 [92] [(92,vi (IntKind.wrap .i64 (g+1)))] ?_
    exact S_round ((IntKind.wrap .i64 (g+1)):Int) sk h
   rw[if_neg c26]at h
   refine T_cFz 93 (decide_eq_false c26) ?_
   refine S_exit 0 (by kernel_rfl) ?_
   refine S_exitThen ?_
   refine S_exitThen ?_
   refine S_exitHere ?_
   refine S_then ?_
   refine T_srz 20<| T_nd 1 [91,92,93] [(135,vi e)] ?_
   refine T_c (some 136) h ?_;clear h
   rintro br a4 ⟨o,bf,rfl,h⟩
   refine T_pd [135] [(136,.tuple #[vu o,vi bf])]<| T_ed 5 [136] [(17,vu o)]<| T_srz 21<| T_nd 3 [0] [(141,vp (some d))] ?_
   obtain⟨a1,q36,h⟩:=h
   refine T_l1 142 22 q36 [141] ?_
   obtain⟨ap,rfl,h⟩:=h
   refine T_nd 2 [142] [(144,vp (some ap))] ?_
   obtain⟨ai,q37,h⟩:=h
   refine T_l1 145 26 q37 [144] ?_
   obtain⟨ao,rfl,h⟩:=h
   refine T_nd 2 [145] [(147,vp (some ao))] ?_
   obtain⟨az,q38,h⟩:=h
   refine T_l1 148 39 q38 [147] ?_
   obtain⟨av,rfl,h⟩:=h
   refine T_nd 2 [148] [(150,vp (some av))] ?_
   obtain⟨aa,q39,h⟩:=h
   refine T_l1 151 69 q39 [150]<| T_nd 2 [8,17] [(152,vi a),(153,vu o)] ?_
   refine T_c (some 154) h ?_;clear h
   rintro bo bp ⟨bk,rfl,h⟩
   refine T_pd [151,152,153] []<| T_e<| T_srz 22<| T_nd 1 [1] [(156,vu wv)] ?_
   refine T_c (some 157) h ?_;clear h
   rintro bl b0 ⟨af,rfl,h⟩
   refine T_pd [156] [(157,vi af)]<| T_nd 1 [12] [(158,vi e)] ?_
   refine T_c (some 159) h ?_;clear h
   rintro bj bq ⟨z,bd,rfl,h⟩
   refine⟨[(159,.tuple #[vu z,vi bd])],pk,?_⟩
   exact T_ne 5 [(19,vu z)]<| T_srz 23<| T_nr 2 [4] [vu z] hQ h
  rw[if_neg c21]at h
  exact T_cTz 89 (bne_iff_ne.mpr c21)<| T_srz 13<| T_nr 2 [4] [vu wv] hQ h
 rw[if_neg c1]at h
 exact T_cTz 24 (congrArg Bool.not (eq_false_of_ne_true c1))<| T_srz 2<| T_nr 2 [4] [vu wv] hQ h
end trace_Trace_Visit

end Go.Proofs.YtgnokbjknicahaaGreat
