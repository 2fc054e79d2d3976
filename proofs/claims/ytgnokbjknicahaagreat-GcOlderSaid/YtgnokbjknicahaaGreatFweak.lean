/- Printed: what each function asks, and that it is sound. -/
import Derived.Test.YtgnokbjknicahaaGreatFnsC
set_option linter.unusedSimpArgs false
set_option linter.unusedVariables false
set_option maxRecDepth 100000
set_option maxHeartbeats 1000000
noncomputable section
namespace Go.Proofs.YtgnokbjknicahaaGreat
open Go
/-! moraine/weak.Guards -/
namespace weak_Guards
def K0:=Func.code Tryz.f32
def K2:=cb K0
def K3:=ca K2
def K5:=cb K3
def K13:=cb K5
def K14:=ca K13
def K15:=cb K13
def K17:=cb K14
def K18:=ca K17
def K19:=ca K18
def K36:=cb K15
def K38:=cb K36
def K39:=ca K38
def K40:=cb K38
def K42:=cb K39
def K43:=ca K42
def K44:=ca K43
def K46:=cb K44
def K48:=cb K46
def K51:=ca K48
def K53:=ca K51
def K55:=cb K53
def K57:=cb K55
def K58:=ca K57
def K61:=cb K58
def K63:=cb K61
def K64:=ca K63
def K69:=cb K40
def K70:=ca K69
def K73:=cb K70
def K74:=ca K73
def K75:=ca K74
def K77:=cb K75
def K79:=cb K77
def K82:=ca K79
def K84:=ca K82
def K86:=cb K84
def K88:=cb K86
def K89:=ca K88
end weak_Guards
def weak_Guards.pt(tv lB:Option Addr)(lN lC:Nat)(H:Array Obj)(R:Value->Array Obj->Prop):Prop:=
 ∀(b:Nat) (H1:Array Obj),b=H.size->H1=H.push (.cells #[.pointer tv] 82)->
 ∀(f:Nat) (H2:Array Obj),f=H1.size->H2=H1.push (.cells #[.slice lB lN lC] 28)->
 ∃x:Option Addr,hat H2 (ad b)=some (.pointer x)/\
 weak_ended.C x H2 (λv H3=> ∃bt:Bool,v=.bool bt/\
 if bt=true then(
 ∃(xB:Option Addr) (xN xC:Nat),hat H3 (ad f)=some (.slice xB xN xC)/\
 slices_Clone_api_Entry_api_Entry.C xB xN xC H3 (λcp H4=> ∃(bi:Option Addr) (bg bm:Nat),cp=.slice bi bg bm/\
 R (.slice bi bg bm) H4))
 else
 ∃(b6:Option Addr) (y b5:Nat),hat H3 (ad f)=some (.slice b6 y b5)/\
 0<=(y:Int)/\(y:Int)<=(y:Int)/\8*(y:Int)<=2 ^ 48/\(y:Int)<=9223372036854775807/\
 ∀(bf:Nat) (H5:Array Obj),bf=H3.size->H5=H3.push (.cells (Builtin.zeroCells #[.int .i64 0] (Int.toNat (y:Int))) 3)->
 ∀(e:Nat) (H6:Array Obj),e=H5.size->H6=H5.push (.cells #[.slice none 0 0] 67)->
 (CanPuts H6 (ad e) 0 1)/\ ∀H7,H7=hputs H6 (ad e) [.slice (some (ad bf)) (Int.toNat (y:Int)) (Int.toNat (y:Int))] 0->
 ∃(al:Option Addr) (j r:Nat),hat H7 (ad f)=some (.slice al j r)/\
 ∃(b0:Int->Array Obj->Prop) (m20:Int->Array Obj->Nat),b0 0 H7/\ ∀(l:Int) (H8:Array Obj),b0 l H8->
 if l< (j:Int)then(
 ∃z:Addr,al=some z/\
 ((0:Int)<=l/\l< (j:Int))/\
 ∃ax ab:Int,RowAt H8 (z.add (Int.toNat l*2)) 0 [.int .u64 ax,.int .u64 ab]/\
 ∀(an:Nat) (H9:Array Obj),an=H8.size->H9=H8.push (.cells #[.int .u64 0,.int .u64 0] 144)->
 (CanPuts H9 (ad an) 0 2)/\ ∀b4,b4=hputs H9 (ad an) [.int .u64 ax,.int .u64 ab] 0->
 ∃bp:Option Addr,hat b4 (ad b)=some (.pointer bp)/\
 ∃b2:Int,hat b4 (ad an)=some (.int .u64 b2)/\
 trace_Trace_Reached.C bp b2 b4 (λco br=> ∃a9:Bool,co=.bool a9/\
 if a9=true then(
 (b0 (IntKind.wrap .i64 (l+1)) br/\m20 (IntKind.wrap .i64 (l+1)) br<m20 l H8))
 else
 ∃(bn:Option Addr) (a1 bc:Nat),hat br (ad e)=some (.slice bn a1 bc)/\
 ∃au:Addr,bn=some au/\
 ((0:Int)<=l/\l< (a1:Int))/\
 (CanPuts br (au.add (Int.toNat l*1)) 0 1)/\ ∀b8,b8=hputs br (au.add (Int.toNat l*1)) [.int .i64 1] 0->
 (b0 (IntKind.wrap .i64 (l+1)) b8/\m20 (IntKind.wrap .i64 (l+1)) b8<m20 l H8)))
 else
 ∃(aj:Option Addr) (n ac:Nat),hat H8 (ad f)=some (.slice aj n ac)/\
 ∃(cc:Int->Array Obj->Prop) (m45:Int->Array Obj->Nat),cc 0 H8/\ ∀(o:Int) (H13:Array Obj),cc o H13->
 if o< (n:Int)then(
 ∃ae:Addr,aj=some ae/\
 ((0:Int)<=o/\o< (n:Int))/\
 ∃af u:Int,RowAt H13 (ae.add (Int.toNat o*2)) 0 [.int .u64 af,.int .u64 u]/\
 ∀(aa:Nat) (H14:Array Obj),aa=H13.size->H14=H13.push (.cells #[.int .u64 0,.int .u64 0] 144)->
 (CanPuts H14 (ad aa) 0 2)/\ ∀cd,cd=hputs H14 (ad aa) [.int .u64 af,.int .u64 u] 0->
 weak_Guards_1.C o (some (ad e)) (some (ad b)) (some (ad f)) cd (λcr bs=> ∃bw:Bool,cr=.bool bw/\
 if bw=true then(
 ∃(bj:Option Addr) (a4 bd:Nat),hat bs (ad e)=some (.slice bj a4 bd)/\
 ∃aq:Addr,bj=some aq/\
 ((0:Int)<=o/\o< (a4:Int))/\
 (CanPuts bs (aq.add (Int.toNat o*1)) 0 1)/\ ∀b3,b3=hputs bs (aq.add (Int.toNat o*1)) [.int .i64 2] 0->
 ∃bq:Option Addr,hat b3 (ad b)=some (.pointer bq)/\
 ∃b1:Int,hat b3 (ad aa)=some (.int .u64 b1)/\
 trace_Trace_Visit.C bq b1 b3 (λcn b9=> ∃ao:Int,cn=.int .u64 ao/\
 ∃ah:Option Addr,hat b9 (ad b)=some (.pointer ah)/\
 ∃av:Option Addr,hat b9 (ad b)=some (.pointer av)/\
 ∃a8:Int,hat b9 ((ad aa).add 1)=some (.int .u64 a8)/\
 trace_Trace_Visit.C av a8 b9 (λcq ci=> ∃bu:Int,cq=.int .u64 bu/\RowAt ci (ad b) 0 [.pointer ah]/\
 weak_puts.C ah bu ao ci (λ_ ch=>
 ∃bh:Option Addr,hat ch (ad b)=some (.pointer bh)/\
 trace_Trace_Drain.C bh ch (λ_ cs=>
 False)))))
 else
 (cc (IntKind.wrap .i64 (o+1)) bs/\m45 (IntKind.wrap .i64 (o+1)) bs<m45 o H13)))
 else
 ∃(ak:Option Addr) (d m:Nat),hat H13 (ad f)=some (.slice ak d m)/\
 ∃(bx:(Option Addr)->Nat->Nat->Int->Array Obj->Prop) (m76:(Option Addr)->Nat->Nat->Int->Array Obj->Nat),bx none 0 0 0 H13/\ ∀(g:Option Addr) (outN:Nat) (outC:Nat) (s68:Int) (H22:Array Obj),bx g outN outC s68 H22->
 if s68< (d:Int)then(
 ∃p:Addr,ak=some p/\
 ((0:Int)<=s68/\s68< (d:Int))/\
 ∃ag s:Int,RowAt H22 (p.add (Int.toNat s68*2)) 0 [.int .u64 ag,.int .u64 s]/\
 ∀(q:Nat) (H23:Array Obj),q=H22.size->H23=H22.push (.cells #[.int .u64 0,.int .u64 0] 144)->
 (CanPuts H23 (ad q) 0 2)/\ ∀bb,bb=hputs H23 (ad q) [.int .u64 ag,.int .u64 s] 0->
 ∃(bk:Option Addr) (a2 be:Nat),hat bb (ad e)=some (.slice bk a2 be)/\
 ∃a3:Addr,bk=some a3/\
 ((0:Int)<=s68/\s68< (a2:Int))/\
 ∃az:Int,hat bb (a3.add (Int.toNat s68*1))=some (.int .i64 az)/\
 if az<2 then(
 ∃a5:Option Addr,hat bb (ad b)=some (.pointer a5)/\
 ∃bl:Int,hat bb ((ad q).add 1)=some (.int .u64 bl)/\
 trace_Trace_Reached.C a5 bl bb (λcm bo=> ∃a7:Bool,cm=.bool a7/\
 if a7=true then(
 ∃ai:Option Addr,hat bo (ad b)=some (.pointer ai)/\
 ∃aw:Int,hat bo (ad q)=some (.int .u64 aw)/\
 ∃am:Option Addr,hat bo (ad b)=some (.pointer am)/\
 ∃a0:Int,hat bo ((ad q).add 1)=some (.int .u64 a0)/\
 trace_Trace_Visit.C ai aw bo (λcl ce=> ∃ay:Int,cl=.int .u64 ay/\RowAt ce (ad b) 0 [.pointer am]/\RowAt ce ((ad q).add 1) 0 [.int .u64 a0]/\
 trace_Trace_Visit.C am a0 ce (λcg cj=> ∃a6:Int,cg=.int .u64 a6/\
 ∀(bz:Nat) (H28:Array Obj),bz=cj.size->H28=cj.push (.cells #[.int .u64 ay,.int .u64 a6] 144)->
 appendK 2 144 16 [.int .u64 0,.int .u64 0] g outN outC (some (ad bz)) 1 H28 (λap ba ck=>
 (bx ap (outN+1) ba (IntKind.wrap .i64 (s68+1)) ck/\m76 ap (outN+1) ba (IntKind.wrap .i64 (s68+1)) ck<m76 g outN outC s68 H22)))))
 else
 (bx g outN outC (IntKind.wrap .i64 (s68+1)) bo/\m76 g outN outC (IntKind.wrap .i64 (s68+1)) bo<m76 g outN outC s68 H22)))
 else
 (bx g outN outC (IntKind.wrap .i64 (s68+1)) bb/\m76 g outN outC (IntKind.wrap .i64 (s68+1)) bb<m76 g outN outC s68 H22))
 else
 R (.slice g outN outC) H22)
namespace weak_Guards
theorem link{tv lB:Option Addr}{lN lC:Nat}{H:Array Obj}{R:Value->Array Obj->Prop}(h:pt tv lB lN lC H R):C tv lB lN lC H R:=by
 refine T_en K0 98 Tryz.func32 ?_
 intro w0 Q hQ
 unfold pt at h
 refine T_su [(0,vp tv),(1,vs lB lN lC)]<| T_srz 0<| T_nw (some 2) (λb=>vp (pa b)) (.cells #[vp tv] 82) ?_
 intro b H1 e1 e2
 replace h:=h b H1 e1 e2
 refine T_pd [0] [(2,vp (pa b))]<| T_nw (some 3) (λb=>vp (pa b)) (.cells #[vs lB lN lC] 28) ?_
 intro f H2 e3 e4
 replace h:=h f H2 e3 e4
 refine T_pd [1] [(3,vp (pa f))]<| T_ed 1 [] [] ?_
 refine S_scope K3 (by kernel_rfl) ?_
 refine T_sz<| T_srz 1 ?_
 obtain⟨x,q5,h⟩:=h
 refine T_l1 15 82 q5 [] ?_
 refine T_c (some 16) h ?_;clear h
 rintro v H3 ⟨bt,rfl,h⟩
 refine T_pd [15] [(16,.bool bt)]<| T_e ?_
 by_cases c6:bt=true
 ·rw[if_pos c6]at h
  refine T_cTz 16 c6<| T_srz 2<| T_ud [2,16] [] ?_
  obtain⟨xB,xN,xC,q8,h⟩:=h
  refine T_l1 17 28 q8 [3] ?_
  refine T_c (some 18) h ?_;clear h
  rintro cp H4 ⟨bi,bg,bm,rfl,h⟩
  refine⟨[(18,vs bi bg bm)],pk,?_⟩
  exact T_nr 1 [4] [vs bi bg bm] hQ h
 rw[if_neg c6]at h
 refine T_cFz 16 (eq_false_of_ne_true c6)<| T_kt<| T_srz 3<| T_ud [16] [] ?_
 obtain⟨b6,y,b5,q9,h⟩:=h
 refine T_l1 19 28 q9 []<| T_nd 1 [19] [(20,vi y)] ?_
 obtain⟨q10,q11,q12,q13,h⟩:=h
 refine N_op (some 21) (makeSliceN 67 (vi y) (vi y)) (λv Hz=>v=Value.slice (some (Addr.mk H3.size 0 none)) (Int.toNat (y:Int)) (Int.toNat (y:Int))/\Hz=H3.push (.cells (Builtin.zeroCells #[vi 0] (Int.toNat (y:Int))) 3)) (λ_=>by kernel_rfl) (ss_make (T:=3) (zero:=vi 0) Tryz.underlying67 (show Tryz.prog.info? 3=some Tryz.t3 from by kernel_rfl) (by kernel_rfl) q10 q11 q12 q13 (by kernel_rfl) (by decide)) ?_
 rintro _ H5 ⟨rfl,e15⟩
 obtain⟨bf,e14⟩: ∃b,b=H3.size:=⟨_,rfl⟩
 replace h:=h bf H5 e14 e15
 rw[<-e14]
 refine T_pd [20] [(21,vs (pa bf) (Int.toNat (y:Int)) (Int.toNat (y:Int)))]<| T_nw (some 5) (λb=>vp (pa b)) (.cells #[vs none 0 0] 67) ?_
 intro e H6 e16 e17
 replace h:=h e H6 e16 e17
 refine T_pd [] [(5,vp (pa e))] ?_
 obtain⟨q19,h⟩:=h
 refine T_st1 67 (vs (pa bf) (Int.toNat (y:Int)) (Int.toNat (y:Int))) q19 ?_
 intro H7 e18
 replace h:=h H7 e18
 refine T_pd [21] []<| T_e<| T_sz<| T_srz 4 ?_
 obtain⟨al,j,r,q20,h⟩:=h
 refine T_l1 22 28 q20 []<| T_ed 2 [] [(23,vi j),(24,vi 0)]<| T_bz 0 ?_
 obtain⟨b0,m20,i21,i22⟩:=h
 refine S_loop (x:=K19) (σ:=Int) (λs_=> [(2,vp (pa b)),(3,vp (pa f)),(5,vp (pa e)),(22,vs al j r),(23,vi j),(24,vi s_)]) (λs_ H=>b0 s_ H) (λs_ H=>m20 s_ H) (0:Int) (by kernel_rfl) i21 sk ?_
 rintro l H8 i23
 have h:=i22 l H8 i23
 refine T_su [(2,vp (pa b)),(3,vp (pa f)),(5,vp (pa e)),(22,vs al j r),(23,vi j),(24,vi l)]<| T_srz 5<| T_ed 1 [] [(25,.bool (decide (l< (j:Int))))]<| T_sz ?_
 by_cases c24:l< (j:Int)
 ·rw[if_pos c24]at h
  refine T_cTz 25 (decide_eq_true c24)<| T_kt<| T_sz<| T_bz 1<| T_srz 6<| T_nd 1 [25] [(26,vi l)] ?_
  obtain⟨z,rfl,h⟩:=h
  obtain⟨q26,h⟩:=h
  refine T_xd (some 27) 28 144 2 z j r .i64 l Tryz.underlying28 q26.1 q26.2 [22] [(22,vs (some z) j r),(27,vp (some (z.add (Int.toNat l*2))))] ?_
  obtain⟨ax,ab,q27,h⟩:=h
  refine T_lr 28 144 q27 [27]<| T_nw (some 7) (λb=>vp (pa b)) (.cells #[vu 0,vu 0] 144) ?_
  intro an H9 e28 e29
  replace h:=h an H9 e28 e29
  refine T_pd [] [(7,vp (pa an))]<| T_nd 1 [26] [(6,vi l)] ?_
  obtain⟨q31,h⟩:=h
  refine T_sta 144 [vu ax,vu ab] q31 ?_
  intro b4 e30
  replace h:=h b4 e30
  refine T_pd [28] []<| T_e<| T_srz 7 ?_
  obtain⟨bp,q32,h⟩:=h
  refine T_l1 29 82 q32 []<| T_nd 1 [7] [(30,vp (pa an))] ?_
  obtain⟨b2,q33,h⟩:=h
  refine T_l1 31 24 q33 [30] ?_
  refine T_c (some 32) h ?_;clear h
  rintro co br ⟨a9,rfl,h⟩
  refine T_pd [29,31] [(32,.bool a9)]<| T_ed 1 [32] [(33,.bool (!a9))] ?_
  by_cases c34:a9=true
  ·rw[if_pos c34]at h
   refine T_cFz 33 (congrArg Bool.not (c34))<| T_k ?_
   refine S_blockEnd ?_
   refine S_then ?_
   refine T_rz 9<| T_ed 2 [6,24,33] [(24,vi (IntKind.wrap .i64 (l+1)))] ?_
   exact S_round ((IntKind.wrap .i64 (l+1)):Int) sk h
  rw[if_neg c34]at h
  refine T_cTz 33 (congrArg Bool.not (eq_false_of_ne_true c34))<| T_rz 8<| T_ud [33] [] ?_
  obtain⟨bn,a1,bc,q36,h⟩:=h
  refine T_l1 34 67 q36 []<| T_nd 1 [6] [(35,vi l)] ?_
  obtain⟨au,rfl,h⟩:=h
  obtain⟨q37,h⟩:=h
  refine T_xd (some 36) 67 3 1 au a1 bc .i64 l Tryz.underlying67 q37.1 q37.2 [34,35] [(36,vp (some (au.add (Int.toNat l*1))))] ?_
  obtain⟨q39,h⟩:=h
  refine T_st1 3 (vi 1) q39 ?_
  intro b8 e38
  replace h:=h b8 e38
  refine T_pd [36] [] ?_
  refine N_end (by kernel_rfl) ?_
  refine S_blockEnd ?_
  refine S_then ?_
  refine T_rz 9<| T_ed 2 [24] [(24,vi (IntKind.wrap .i64 (l+1)))] ?_
  exact S_round ((IntKind.wrap .i64 (l+1)):Int) sk h
 rw[if_neg c24]at h
 refine T_cFz 25 (decide_eq_false c24) ?_
 refine S_exit 0 (by kernel_rfl) ?_
 refine S_exitThen ?_
 refine S_exitThen ?_
 refine S_exitHere ?_
 refine S_then ?_
 refine T_srz 10<| T_ed 2 [22,23,24,25] [(8,.func (.func 74) #[] #[vp (pa e),vp (pa b),vp (pa f)])]<| T_sz ?_
 refine S_label 0 (by kernel_rfl) ?_
 refine S_then ?_
 refine T_sz<| T_srz 11 ?_
 obtain⟨aj,n,ac,q40,h⟩:=h
 refine T_l1 39 28 q40 []<| T_ed 2 [] [(40,vi n),(41,vi 0)]<| T_bz 2 ?_
 obtain⟨cc,m45,i41,i42⟩:=h
 refine S_loop (x:=K44) (σ:=Int) (λs_=> [(2,vp (pa b)),(3,vp (pa f)),(5,vp (pa e)),(8,.func (.func 74) #[] #[vp (pa e),vp (pa b),vp (pa f)]),(39,vs aj n ac),(40,vi n),(41,vi s_)]) (λs_ H=>cc s_ H) (λs_ H=>m45 s_ H) (0:Int) (by kernel_rfl) i41 sk ?_
 rintro o H13 i43
 have h:=i42 o H13 i43
 refine T_su [(2,vp (pa b)),(3,vp (pa f)),(5,vp (pa e)),(8,.func (.func 74) #[] #[vp (pa e),vp (pa b),vp (pa f)]),(39,vs aj n ac),(40,vi n),(41,vi o)]<| T_srz 12<| T_ed 1 [] [(42,.bool (decide (o< (n:Int))))]<| T_sz ?_
 by_cases c44:o< (n:Int)
 ·rw[if_pos c44]at h
  refine T_cTz 42 (decide_eq_true c44)<| T_kt<| T_sz<| T_bz 3<| T_srz 13<| T_nd 1 [42] [(43,vi o)] ?_
  obtain⟨ae,rfl,h⟩:=h
  obtain⟨q46,h⟩:=h
  refine T_xd (some 44) 28 144 2 ae n ac .i64 o Tryz.underlying28 q46.1 q46.2 [39] [(39,vs (some ae) n ac),(44,vp (some (ae.add (Int.toNat o*2))))] ?_
  obtain⟨af,u,q47,h⟩:=h
  refine T_lr 45 144 q47 [44]<| T_nw (some 10) (λb=>vp (pa b)) (.cells #[vu 0,vu 0] 144) ?_
  intro aa H14 e48 e49
  replace h:=h aa H14 e48 e49
  refine T_pd [] [(10,vp (pa aa))]<| T_nd 1 [43] [(9,vi o)] ?_
  obtain⟨q51,h⟩:=h
  refine T_sta 144 [vu af,vu u] q51 ?_
  intro cd e50
  replace h:=h cd e50
  refine T_pd [45] []<| T_e<| T_srz 14<| T_nd 2 [] [(46,.func (.func 74) #[] #[vp (pa e),vp (pa b),vp (pa f)]),(47,vi o)] ?_
  refine T_c (some 48) h ?_;clear h
  rintro cr bs ⟨bw,rfl,h⟩
  refine T_pd [46,47] [(48,.bool bw)]<| T_e ?_
  by_cases c52:bw=true
  ·rw[if_pos c52]at h
   refine T_cTz 48 c52<| T_srz 15<| T_ud [3,8,39,40,41,48] [] ?_
   obtain⟨bj,a4,bd,q54,h⟩:=h
   refine T_l1 49 67 q54 [5]<| T_nd 1 [9] [(50,vi o)] ?_
   obtain⟨aq,rfl,h⟩:=h
   obtain⟨q55,h⟩:=h
   refine T_xd (some 51) 67 3 1 aq a4 bd .i64 o Tryz.underlying67 q55.1 q55.2 [49,50] [(51,vp (some (aq.add (Int.toNat o*1))))] ?_
   obtain⟨q57,h⟩:=h
   refine T_st1 3 (vi 2) q57 ?_
   intro b3 e56
   replace h:=h b3 e56
   refine T_pd [51] []<| T_e<| T_srz 16 ?_
   obtain⟨bq,q58,h⟩:=h
   refine T_l1 52 82 q58 []<| T_nd 1 [] [(53,vp (pa aa))] ?_
   obtain⟨b1,q59,h⟩:=h
   refine T_l1 54 24 q59 [53] ?_
   refine T_c (some 55) h ?_;clear h
   rintro cn b9 ⟨ao,rfl,h⟩
   refine T_pd [52,54] [(55,vu ao)]<| T_ed 1 [55] [(11,vu ao)]<| T_sz ?_
   obtain⟨ah,q60,h⟩:=h
   obtain⟨av,q61,h⟩:=h
   obtain⟨a8,q62,h⟩:=h
   refine S_regionG 17 (Code.ops K64) [(6,(ad b),[vp ah]),(4,(ad b),[vp av]),(4,((ad aa).add 1),[vu a8])] 7 (bv 7 0) (by kernel_rfl) (by kernel_rfl) (by kernel_rfl) (by kernel_rfl) (by kernel_rfl) (show FactsAt _ _ _ from⟨⟨q60,trivial⟩,⟨q61,trivial⟩,⟨q62,trivial⟩,trivial⟩) ?_
   refine T_g 0 (some 56) (vp ah) (bv 7 1) [(2,vp (pa b)),(10,vp (pa aa)),(11,vu ao),(56,vp ah)] (loadN 82 (vp (pa b))) (held_one 6 (λ_=>by kernel_rfl) (List.Mem.head _) (.inl (by kernel_rfl)))<| T_g1 1 57 (vp av) (bv 7 3) [] (loadN 82 (vp (pa b))) (held_one 4 (λ_=>by kernel_rfl) (List.Mem.tail _ (List.Mem.head _)) (.inl (by kernel_rfl)))<| T_gp1 2 58 (vp (some ((ad aa).add 1))) (bv 7 7) [10]<| T_g1 3 59 (vu a8) (bv 7 15) [58] (loadN 24 (vp (some ((ad aa).add 1)))) (held_one 4 (λ_=>by kernel_rfl) (List.Mem.tail _ (List.Mem.tail _ (List.Mem.head _))) (.inl (by kernel_rfl)))<| T_gp1 5 61 (vu ao) (bv 7 47) [11] ?_
   refine G_call 4 (some 60) (bv 7 63) 29 #[vp av,vu a8] (by kernel_rfl) (λ_=>by kernel_rfl) h (by kernel_rfl) ?_;clear h
   rintro cq ci ⟨bu,rfl,h⟩
   obtain⟨f63,h⟩:=h
   refine⟨[(2,vp (pa b)),(56,vp ah),(60,vu bu),(61,vu ao)],pk,(show FactsAt _ _ _ from⟨f63,trivial,trivial,trivial⟩),?_⟩
   refine G_call 6 (some 62) (bv 7 127) 75 #[vp ah,vu bu,vu ao] (by kernel_rfl) (λ_=>by kernel_rfl) h (by kernel_rfl) ?_;clear h
   intro v_7 ch h
   refine⟨[(2,vp (pa b))],pk,(show FactsAt _ _ _ from⟨trivial,trivial,trivial,trivial⟩),?_⟩
   refine G_sub [(2,vp (pa b))] sk ?_
   refine G_end (by kernel_rfl) ?_
   refine S_then ?_
   refine T_srz 18 ?_
   obtain⟨bh,q64,h⟩:=h
   refine T_l (some 63) 82 q64 [(63,vp bh)] ?_
   refine T_c (some 64) h ?_;clear h
   intro v_8 cs h
   refine⟨[],pk,?_⟩
   refine T_e ?_
   exact h.elim
  rw[if_neg c52]at h
  refine T_cFz 48 (eq_false_of_ne_true c52)<| T_k ?_
  refine S_blockEnd ?_
  refine S_then ?_
  refine T_rz 19<| T_ed 2 [9,10,41,48] [(41,vi (IntKind.wrap .i64 (o+1)))] ?_
  exact S_round ((IntKind.wrap .i64 (o+1)):Int) sk h
 rw[if_neg c44]at h
 refine T_cFz 42 (decide_eq_false c44) ?_
 refine S_exit 2 (by kernel_rfl) ?_
 refine S_exitThen ?_
 refine S_exitThen ?_
 refine S_exitHere ?_
 refine S_then ?_
 refine T_srz 20<| T_ed 1 [8,39,40,41,42] [(12,vs none 0 0)]<| T_sz<| T_srz 21 ?_
 obtain⟨ak,d,m,q65,h⟩:=h
 refine T_l1 66 28 q65 [3]<| T_ed 2 [] [(67,vi d),(68,vi 0)]<| T_bz 4 ?_
 obtain⟨bx,m76,i66,i67⟩:=h
 refine S_loop (x:=K75) (σ:=(Option Addr)×Nat×Nat×Int) (λs_=> [(2,vp (pa b)),(5,vp (pa e)),(12,vs s_.1 s_.2.1 s_.2.2.1),(66,vs ak d m),(67,vi d),(68,vi s_.2.2.2)]) (λs_ H=>bx s_.1 s_.2.1 s_.2.2.1 s_.2.2.2 H) (λs_ H=>m76 s_.1 s_.2.1 s_.2.2.1 s_.2.2.2 H) ((none,0,0,0):(Option Addr)×Nat×Nat×Int) (by kernel_rfl) i66 sk ?_
 rintro⟨g,outN,outC,s68⟩ H22 i68
 have h:=i67 g outN outC s68 H22 i68
 refine T_su [(2,vp (pa b)),(5,vp (pa e)),(12,vs g outN outC),(66,vs ak d m),(67,vi d),(68,vi s68)]<| T_srz 22<| T_ed 1 [] [(69,.bool (decide (s68< (d:Int))))]<| T_sz ?_
 by_cases c69:s68< (d:Int)
 ·rw[if_pos c69]at h
  refine T_cTz 69 (decide_eq_true c69)<| T_kt<| T_sz<| T_bz 5<| T_srz 23<| T_nd 1 [69] [(70,vi s68)] ?_
  obtain⟨p,rfl,h⟩:=h
  obtain⟨q71,h⟩:=h
  refine T_xd (some 71) 28 144 2 p d m .i64 s68 Tryz.underlying28 q71.1 q71.2 [66] [(66,vs (some p) d m),(71,vp (some (p.add (Int.toNat s68*2))))] ?_
  obtain⟨ag,s,q72,h⟩:=h
  refine T_lr 72 144 q72 [71]<| T_nw (some 14) (λb=>vp (pa b)) (.cells #[vu 0,vu 0] 144) ?_
  intro q H23 e73 e74
  replace h:=h q H23 e73 e74
  refine T_pd [] [(14,vp (pa q))]<| T_nd 1 [70] [(13,vi s68)] ?_
  obtain⟨q76,h⟩:=h
  refine T_sta 144 [vu ag,vu s] q76 ?_
  intro bb e75
  replace h:=h bb e75
  refine T_pd [72] []<| T_e<| T_srz 24 ?_
  obtain⟨bk,a2,be,q77,h⟩:=h
  refine T_l1 73 67 q77 []<| T_nd 1 [13] [(74,vi s68)] ?_
  obtain⟨a3,rfl,h⟩:=h
  obtain⟨q78,h⟩:=h
  refine T_xd (some 75) 67 3 1 a3 a2 be .i64 s68 Tryz.underlying67 q78.1 q78.2 [73,74] [(75,vp (some (a3.add (Int.toNat s68*1))))] ?_
  obtain⟨az,q79,h⟩:=h
  refine T_l1 76 3 q79 [75]<| T_nd 2 [76] [(78,.bool (decide (az<2)))] ?_
  by_cases c80:az<2
  ·rw[if_pos c80]at h
   refine N_bd 78 (decide_eq_true c80) ?_
   obtain⟨a5,q82,h⟩:=h
   refine T_l1 79 82 q82 []<| T_nd 1 [] [(80,vp (some ((ad q).add 1)))] ?_
   obtain⟨bl,q83,h⟩:=h
   refine T_l1 81 24 q83 [80] ?_
   refine T_c (some 82) h ?_;clear h
   rintro cm bo ⟨a7,rfl,h⟩
   refine T_pd [79,81] [(82,.bool a7)]<| T_ed 1 [78,82] [(83,.bool a7)] ?_
   by_cases c84:a7=true
   ·rw[if_pos c84]at h
    refine T_cTz 83 c84 ?_
    obtain⟨ai,q86,h⟩:=h
    obtain⟨aw,q87,h⟩:=h
    obtain⟨am,q88,h⟩:=h
    obtain⟨a0,q89,h⟩:=h
    refine S_regionG 25 (Code.ops K89) [(4,(ad b),[vp ai]),(4,(ad q),[vu aw]),(8,(ad b),[vp am]),(8,((ad q).add 1),[vu a0])] 13 (bv 13 0) (by kernel_rfl) (by kernel_rfl) (by kernel_rfl) (by kernel_rfl) (by kernel_rfl) (show FactsAt _ _ _ from⟨⟨q86,trivial⟩,⟨q87,trivial⟩,⟨q88,trivial⟩,⟨q89,trivial⟩,trivial⟩) ?_
    refine T_gp 0 (some 84) (vs g outN outC) (bv 13 1) [(2,vp (pa b)),(5,vp (pa e)),(12,vs g outN outC),(14,vp (pa q)),(66,vs (some p) d m),(67,vi d),(68,vi s68),(84,vs g outN outC)]<| T_g1 1 85 (vp ai) (bv 13 3) [] (loadN 82 (vp (pa b))) (held_one 4 (λ_=>by kernel_rfl) (List.Mem.head _) (.inl (by kernel_rfl)))<| T_gp1 2 86 (vp (pa q)) (bv 13 7) []<| T_g1 3 87 (vu aw) (bv 13 15) [86] (loadN 24 (vp (pa q))) (held_one 4 (λ_=>by kernel_rfl) (List.Mem.tail _ (List.Mem.head _)) (.inl (by kernel_rfl)))<| T_g1 5 89 (vp am) (bv 13 47) [] (loadN 82 (vp (pa b))) (held_one 8 (λ_=>by kernel_rfl) (List.Mem.tail _ (List.Mem.tail _ (List.Mem.head _))) (.inl (by kernel_rfl)))<| T_gp1 6 90 (vp (some ((ad q).add 1))) (bv 13 111) [14]<| T_g1 7 91 (vu a0) (bv 13 239) [90] (loadN 24 (vp (some ((ad q).add 1)))) (held_one 8 (λ_=>by kernel_rfl) (List.Mem.tail _ (List.Mem.tail _ (List.Mem.tail _ (List.Mem.head _)))) (.inl (by kernel_rfl))) ?_
    refine G_call 4 (some 88) (bv 13 255) 29 #[vp ai,vu aw] (by kernel_rfl) (λ_=>by kernel_rfl) h (by kernel_rfl) ?_;clear h
    rintro cl ce ⟨ay,rfl,h⟩
    obtain⟨f90,f91,h⟩:=h
    refine⟨[(2,vp (pa b)),(5,vp (pa e)),(12,vs g outN outC),(66,vs (some p) d m),(67,vi d),(68,vi s68),(84,vs g outN outC),(88,vu ay),(89,vp am),(91,vu a0)],pk,(show FactsAt _ _ _ from⟨trivial,trivial,f90,f91,trivial⟩),?_⟩
    refine G_call 8 (some 92) (bv 13 511) 29 #[vp am,vu a0] (by kernel_rfl) (λ_=>by kernel_rfl) h (by kernel_rfl) ?_;clear h
    rintro cg cj ⟨a6,rfl,h⟩
    refine⟨[(2,vp (pa b)),(5,vp (pa e)),(12,vs g outN outC),(66,vs (some p) d m),(67,vi d),(68,vi s68),(84,vs g outN outC),(88,vu ay),(92,vu a6)],pk,(show FactsAt _ _ _ from⟨trivial,trivial,trivial,trivial,trivial⟩),?_⟩
    refine T_g 9 (some 93) (.agg #[vu ay,vu a6]) (bv 13 1023) [(2,vp (pa b)),(5,vp (pa e)),(12,vs g outN outC),(66,vs (some p) d m),(67,vi d),(68,vi s68),(84,vs g outN outC),(93,.agg #[vu ay,vu a6])] (pure (.value (.agg #[vu ay,vu a6])):Sem Next) (λ_ _ _ _ _=>rfl) ?_
    refine G_new 10 (some 94) (bv 13 2047) (λb=>vs (pa b) 1 1) (.cells #[vu ay,vu a6] 144) (by kernel_rfl) (λ_=>by kernel_rfl) (by kernel_rfl) ?_
    intro bz H28 e92 e93
    replace h:=h bz H28 e92 e93
    refine⟨[(2,vp (pa b)),(5,vp (pa e)),(12,vs g outN outC),(66,vs (some p) d m),(67,vi d),(68,vi s68),(84,vs g outN outC),(94,vs (pa bz) 1 1)],pk,(show FactsAt _ _ _ from⟨trivial,trivial,trivial,trivial,trivial⟩),?_⟩
    refine G_only 11 (some 95) (bv 13 4095) (appendN #[28,28] 28 #[vs g outN outC,vs (pa bz) 1 1]) _ (by kernel_rfl) (λ_=>by kernel_rfl) (ss_append (T:=144) (sz:=2) (bytes:=16) (zero:=(.agg #[vu 0,vu 0]:Value)) Tryz.underlying28 Tryz.underlying28 rfl (show Tryz.prog.info? 144=some Tryz.t144 from by kernel_rfl) (by kernel_rfl) (by kernel_rfl) (by decide) (by kernel_rfl) (by first | exact h | (simpa only[Value.cells,List.toList_toArray]using h))) (by kernel_rfl) ?_;clear h
    rintro _ ck ⟨ap,ba,rfl,h⟩
    refine⟨[(2,vp (pa b)),(5,vp (pa e)),(12,vs g outN outC),(66,vs (some p) d m),(67,vi d),(68,vi s68),(95,vs ap (outN+1) ba)],pk,(show FactsAt _ _ _ from⟨trivial,trivial,trivial,trivial,trivial⟩),?_⟩
    refine T_g 12 (some 12) (vs ap (outN+1) ba) (bv 13 8191) [(2,vp (pa b)),(5,vp (pa e)),(12,vs ap (outN+1) ba),(66,vs (some p) d m),(67,vi d),(68,vi s68)] (pure (.value (vs ap (outN+1) ba)):Sem Next) (λ_ _ _ _ _=>rfl) ?_
    refine G_sub [(2,vp (pa b)),(5,vp (pa e)),(12,vs ap (outN+1) ba),(66,vs (some p) d m),(67,vi d),(68,vi s68)] sk ?_
    refine G_end (by kernel_rfl) ?_
    refine S_blockEnd ?_
    refine S_then ?_
    refine T_rz 26<| T_ne 2 [(2,vp (pa b)),(5,vp (pa e)),(12,vs ap (outN+1) ba),(66,vs (some p) d m),(67,vi d),(68,vi (IntKind.wrap .i64 (s68+1)))] ?_
    exact S_round ((ap,(outN+1),ba,(IntKind.wrap .i64 (s68+1))):(Option Addr)×Nat×Nat×Int) sk h
   rw[if_neg c84]at h
   refine T_cFz 83 (eq_false_of_ne_true c84)<| T_k ?_
   refine S_blockEnd ?_
   refine S_then ?_
   refine T_rz 26<| T_ed 2 [14,68,83] [(68,vi (IntKind.wrap .i64 (s68+1)))] ?_
   exact S_round ((g,outN,outC,(IntKind.wrap .i64 (s68+1))):(Option Addr)×Nat×Nat×Int) sk h
  rw[if_neg c80]at h
  refine N_bd 78 (decide_eq_false c80)<| T_ed 5 [78] [(83,.bool false)]<| T_fz 83<| T_k ?_
  refine S_blockEnd ?_
  refine S_then ?_
  refine T_rz 26<| T_ed 2 [14,68,83] [(68,vi (IntKind.wrap .i64 (s68+1)))] ?_
  exact S_round ((g,outN,outC,(IntKind.wrap .i64 (s68+1))):(Option Addr)×Nat×Nat×Int) sk h
 rw[if_neg c69]at h
 refine T_cFz 69 (decide_eq_false c69) ?_
 refine S_exit 4 (by kernel_rfl) ?_
 refine S_exitThen ?_
 refine S_exitThen ?_
 refine S_exitHere ?_
 refine S_then ?_
 exact T_srz 27<| T_nr 2 [4] [vs g outN outC] hQ h
end weak_Guards

/-! moraine/weak.Breaks -/
namespace weak_Breaks
def K0:=Func.code Tryz.f33
def K2:=cb K0
def K8:=cb K2
def K9:=ca K8
def K10:=ca K9
def K12:=cb K10
def K14:=cb K12
def K17:=ca K14
def K19:=ca K17
def K21:=cb K19
def K23:=cb K21
def K24:=ca K23
def K26:=cb K24
def K28:=cb K26
def K30:=cb K28
def K31:=ca K30
end weak_Breaks
def weak_Breaks.pt(tv:Option Addr)(H:Array Obj)(R:Value->Array Obj->Prop):Prop:=
 weak_ended.C tv H (λv H1=> ∃x:Bool,v=.bool x/\
 if x=true then(
 R (.tuple #[]) H1)
 else
 trace_Trace_Weaks.C tv H1 (λav H2=> ∃(xB:Option Addr) (xN xC:Nat),av=.slice xB xN xC/\
 ∃(ac:Int->Array Obj->Prop) (m11:Int->Array Obj->Nat),ac 0 H2/\ ∀(b:Int) (H3:Array Obj),ac b H3->
 if b< (xN:Int)then(
 ∃e:Addr,xB=some e/\
 ((0:Int)<=b/\b< (xN:Int))/\
 ∃f:Int,hat H3 (e.add (Int.toNat b*1))=some (.int .i64 f)/\
 ∃d:Addr,tv=some d/\
 ∃ag:Option Addr,hat H3 d=some (.pointer ag)/\
 ∃ah:Addr,ag=some ah/\
 ∃ai:Option Addr,hat H3 ah=some (.pointer ai)/\
 ∃aj:Addr,ai=some aj/\
 ∃ae:Option Addr,hat H3 aj=some (.pointer ae)/\
 ∃af:Addr,ae=some af/\
 ∃ab:Option Addr,hat H3 af=some (.pointer ab)/\
 seg_Mem_Read.C ab f H3 (λax H4=> ∃ra rb:Int,ax=.tuple #[.int .u64 ra,.int .i64 rb]/\
 trace_Trace_Old.C (some d) ra H4 (λay H5=> ∃n:Bool,ay=.bool n/\
 if n=true then(
 trace_Trace_Reached.C (some d) ra H5 (λaq H6=> ∃p:Bool,aq=.bool p/\
 if p=true then(
 ∃an:Option Addr,hat H6 d=some (.pointer an)/\
 ∃m:Addr,an=some m/\
 ∃al:Option Addr,hat H6 m=some (.pointer al)/\
 ∃j:Addr,al=some j/\
 ∃ak:Option Addr,hat H6 j=some (.pointer ak)/\
 ∃g:Addr,ak=some g/\
 ∃l:Option Addr,hat H6 g=some (.pointer l)/\
 trace_Trace_Visit.C (some d) ra H6 (λap H7=> ∃u:Int,ap=.int .u64 u/\RowAt H7 d 0 [.pointer (some m)]/\RowAt H7 m 0 [.pointer (some j)]/\RowAt H7 j 0 [.pointer (some g)]/\RowAt H7 g 0 [.pointer l]/\
 seg_Mem_Write.C l f u H7 (λau H8=> ∃ao:Int,au=.int .i64 ao/\
 (ac (IntKind.wrap .i64 (b+1)) H8/\m11 (IntKind.wrap .i64 (b+1)) H8<m11 b H3))))
 else
 ∃z:Option Addr,hat H6 d=some (.pointer z)/\
 ∃r:Addr,z=some r/\
 ∃aa:Option Addr,hat H6 r=some (.pointer aa)/\
 ∃y:Addr,aa=some y/\
 ∃s:Option Addr,hat H6 y=some (.pointer s)/\
 ∃q:Addr,s=some q/\
 ∃o:Option Addr,hat H6 q=some (.pointer o)/\
 seg_Mem_Write.C o f 44 H6 (λaw H9=> ∃am:Int,aw=.int .i64 am/\
 (ac (IntKind.wrap .i64 (b+1)) H9/\m11 (IntKind.wrap .i64 (b+1)) H9<m11 b H3))))
 else
 (ac (IntKind.wrap .i64 (b+1)) H5/\m11 (IntKind.wrap .i64 (b+1)) H5<m11 b H3))))
 else
 R (.tuple #[]) H3))
namespace weak_Breaks
theorem link{tv:Option Addr}{H:Array Obj}{R:Value->Array Obj->Prop}(h:pt tv H R):C tv H R:=by
 refine T_en K0 76 Tryz.func33 ?_
 intro w0 Q hQ
 unfold pt at h
 refine T_su [(0,vp tv)]<| T_sz<| T_srz 0<| T_nd 1 [] [(6,vp tv)] ?_
 refine T_c (some 7) h ?_;clear h
 rintro v H1 ⟨x,rfl,h⟩
 refine T_pd [6] [(7,.bool x)]<| T_e ?_
 by_cases c1:x=true
 ·rw[if_pos c1]at h
  exact T_cTz 7 c1<| T_ret [] [] hQ h
 rw[if_neg c1]at h
 refine T_cFz 7 (eq_false_of_ne_true c1)<| T_kt<| T_srz 1<| T_nd 1 [7] [(8,vp tv)] ?_
 refine T_c (some 9) h ?_;clear h
 rintro av H2 ⟨xB,xN,xC,rfl,h⟩
 refine T_pd [8] [(9,vs xB xN xC)]<| T_ed 2 [] [(10,vi xN),(11,vi 0)]<| T_bz 0 ?_
 obtain⟨ac,m11,i3,i4⟩:=h
 refine S_loop (x:=K10) (σ:=Int) (λs_=> [(0,vp tv),(9,vs xB xN xC),(10,vi xN),(11,vi s_)]) (λs_ H=>ac s_ H) (λs_ H=>m11 s_ H) (0:Int) (by kernel_rfl) i3 sk ?_
 rintro b H3 i5
 have h:=i4 b H3 i5
 refine T_su [(0,vp tv),(9,vs xB xN xC),(10,vi xN),(11,vi b)]<| T_srz 2<| T_ed 1 [] [(12,.bool (decide (b< (xN:Int))))]<| T_sz ?_
 by_cases c6:b< (xN:Int)
 ·rw[if_pos c6]at h
  refine T_cTz 12 (decide_eq_true c6)<| T_kt<| T_sz<| T_bz 1<| T_srz 3<| T_ud [12] [] ?_
  obtain⟨e,rfl,h⟩:=h
  obtain⟨q8,h⟩:=h
  refine T_xd (some 13) 67 3 1 e xN xC .i64 b Tryz.underlying67 q8.1 q8.2 [9] [(9,vs (some e) xN xC),(13,vp (some (e.add (Int.toNat b*1))))] ?_
  obtain⟨f,q9,h⟩:=h
  refine T_l1 14 3 q9 [13]<| T_ed 1 [14] [(3,vi f)]<| T_srz 4<| T_nd 1 [] [(16,vp tv)] ?_
  obtain⟨d,rfl,h⟩:=h
  refine T_nd 2 [0,16] [(0,vp (some d)),(18,vp (some d))] ?_
  obtain⟨ag,q10,h⟩:=h
  refine T_l1 19 22 q10 [18] ?_
  obtain⟨ah,rfl,h⟩:=h
  refine T_nd 2 [19] [(21,vp (some ah))] ?_
  obtain⟨ai,q11,h⟩:=h
  refine T_l1 22 26 q11 [21] ?_
  obtain⟨aj,rfl,h⟩:=h
  refine T_nd 2 [22] [(24,vp (some aj))] ?_
  obtain⟨ae,q12,h⟩:=h
  refine T_l1 25 39 q12 [24] ?_
  obtain⟨af,rfl,h⟩:=h
  refine T_nd 2 [25] [(27,vp (some af))] ?_
  obtain⟨ab,q13,h⟩:=h
  refine T_l1 28 69 q13 [27]<| T_nd 1 [] [(29,vi f)] ?_
  refine T_c (some 30) h ?_;clear h
  rintro ax H4 ⟨ra,rb,rfl,h⟩
  refine T_pd [28,29] [(30,.tuple #[vu ra,vi rb])]<| T_ed 5 [30] [(4,vu ra)]<| T_bz 2<| T_srz 6<| T_nd 2 [] [(49,vp (some d)),(50,vu ra)] ?_
  refine T_c (some 51) h ?_;clear h
  rintro ay H5 ⟨n,rfl,h⟩
  refine T_pd [49,50] [(51,.bool n)]<| T_ed 2 [51] [(48,.bool (!n))] ?_
  by_cases c14:n=true
  ·rw[if_pos c14]at h
   refine T_cFz 48 (congrArg Bool.not (c14))<| T_srz 7<| T_nd 2 [48] [(54,vp (some d)),(55,vu ra)] ?_
   refine T_c (some 56) h ?_;clear h
   rintro aq H6 ⟨p,rfl,h⟩
   refine T_pd [54,55] [(56,.bool p)]<| T_ed 1 [56] [(53,.bool p)] ?_
   by_cases c16:p=true
   ·rw[if_pos c16]at h
    refine T_cTz 53 c16 ?_
    obtain⟨an,q18,h⟩:=h
    obtain⟨m,rfl,h⟩:=h
    obtain⟨al,q19,h⟩:=h
    obtain⟨j,rfl,h⟩:=h
    obtain⟨ak,q20,h⟩:=h
    obtain⟨g,rfl,h⟩:=h
    obtain⟨l,q21,h⟩:=h
    refine S_regionG 8 (Code.ops K31) [(17,d,[vp (some m)]),(17,m,[vp (some j)]),(17,j,[vp (some g)]),(17,g,[vp l])] 18 (bv 18 0) (by kernel_rfl) (by kernel_rfl) (by kernel_rfl) (by kernel_rfl) (by kernel_rfl) (show FactsAt _ _ _ from⟨⟨q18,trivial⟩,⟨q19,trivial⟩,⟨q20,trivial⟩,⟨q21,trivial⟩,trivial⟩) ?_
    refine T_gp 0 (some 57) (vp (some d)) (bv 18 1) [(0,vp (some d)),(3,vi f),(4,vu ra),(9,vs (some e) xN xC),(10,vi xN),(11,vi b),(57,vp (some d))]<| T_gp1 1 58 (vp (some d)) (bv 18 3) [57]<| T_gp1 2 59 (vp (some d)) (bv 18 7) [58]<| T_g1 3 60 (vp (some m)) (bv 18 15) [59] (loadN 22 (vp (some d))) (held_one 17 (λ_=>by kernel_rfl) (List.Mem.head _) (.inl (by kernel_rfl)))<| T_gp1 4 61 (vp (some m)) (bv 18 31) [60]<| T_gp1 5 62 (vp (some m)) (bv 18 63) [61]<| T_g1 6 63 (vp (some j)) (bv 18 127) [62] (loadN 26 (vp (some m))) (held_one 17 (λ_=>by kernel_rfl) (List.Mem.tail _ (List.Mem.head _)) (.inl (by kernel_rfl)))<| T_gp1 7 64 (vp (some j)) (bv 18 255) [63]<| T_gp1 8 65 (vp (some j)) (bv 18 511) [64] ?_
    refine T_g1 9 66 (vp (some g)) (bv 18 1023) [65] (loadN 39 (vp (some j))) (held_one 17 (λ_=>by kernel_rfl) (List.Mem.tail _ (List.Mem.tail _ (List.Mem.head _))) (.inl (by kernel_rfl)))<| T_gp1 10 67 (vp (some g)) (bv 18 2047) [66]<| T_gp1 11 68 (vp (some g)) (bv 18 4095) [67]<| T_g1 12 69 (vp l) (bv 18 8191) [68] (loadN 69 (vp (some g))) (held_one 17 (λ_=>by kernel_rfl) (List.Mem.tail _ (List.Mem.tail _ (List.Mem.tail _ (List.Mem.head _)))) (.inl (by kernel_rfl)))<| T_gp1 13 70 (vi f) (bv 18 16383) [3]<| T_gp1 14 71 (vp (some d)) (bv 18 32767) []<| T_gp1 15 72 (vu ra) (bv 18 65535) [4] ?_
    refine G_call 16 (some 73) (bv 18 131071) 29 #[vp (some d),vu ra] (by kernel_rfl) (λ_=>by kernel_rfl) h (by kernel_rfl) ?_;clear h
    rintro ap H7 ⟨u,rfl,h⟩
    obtain⟨f22,f23,f24,f25,h⟩:=h
    refine⟨[(0,vp (some d)),(9,vs (some e) xN xC),(10,vi xN),(11,vi b),(69,vp l),(70,vi f),(73,vu u)],pk,(show FactsAt _ _ _ from⟨f22,f23,f24,f25,trivial⟩),?_⟩
    refine G_call 17 (some 74) (bv 18 262143) 67 #[vp l,vi f,vu u] (by kernel_rfl) (λ_=>by kernel_rfl) h (by kernel_rfl) ?_;clear h
    rintro au H8 ⟨ao,rfl,h⟩
    refine⟨[(0,vp (some d)),(9,vs (some e) xN xC),(10,vi xN),(11,vi b)],pk,(show FactsAt _ _ _ from⟨trivial,trivial,trivial,trivial,trivial⟩),?_⟩
    refine G_sub [(0,vp (some d)),(9,vs (some e) xN xC),(10,vi xN),(11,vi b)] sk ?_
    refine G_end (by kernel_rfl) ?_
    refine S_blockEnd ?_
    refine S_blockEnd ?_
    refine S_then ?_
    refine T_rz 9<| T_ne 2 [(0,vp (some d)),(9,vs (some e) xN xC),(10,vi xN),(11,vi (IntKind.wrap .i64 (b+1)))] ?_
    exact S_round ((IntKind.wrap .i64 (b+1)):Int) sk h
   rw[if_neg c16]at h
   refine T_cFz 53 (eq_false_of_ne_true c16)<| T_rz 5<| T_nd 3 [4,53] [(35,vp (some d))] ?_
   obtain⟨z,q26,h⟩:=h
   refine T_l1 36 22 q26 [35] ?_
   obtain⟨r,rfl,h⟩:=h
   refine T_nd 2 [36] [(38,vp (some r))] ?_
   obtain⟨aa,q27,h⟩:=h
   refine T_l1 39 26 q27 [38] ?_
   obtain⟨y,rfl,h⟩:=h
   refine T_nd 2 [39] [(41,vp (some y))] ?_
   obtain⟨s,q28,h⟩:=h
   refine T_l1 42 39 q28 [41] ?_
   obtain⟨q,rfl,h⟩:=h
   refine T_nd 2 [42] [(44,vp (some q))] ?_
   obtain⟨o,q29,h⟩:=h
   refine T_l1 45 69 q29 [44]<| T_nd 1 [3] [(46,vi f)] ?_
   refine T_c (some 47) h ?_;clear h
   rintro aw H9 ⟨am,rfl,h⟩
   refine T_pd [45,46] [] ?_
   refine N_end (by kernel_rfl) ?_
   refine S_blockEnd ?_
   refine S_blockEnd ?_
   refine S_then ?_
   refine T_rz 9<| T_ed 2 [11] [(11,vi (IntKind.wrap .i64 (b+1)))] ?_
   exact S_round ((IntKind.wrap .i64 (b+1)):Int) sk h
  rw[if_neg c14]at h
  refine T_cTz 48 (congrArg Bool.not (eq_false_of_ne_true c14))<| T_k ?_
  refine S_blockEnd ?_
  refine S_blockEnd ?_
  refine S_then ?_
  refine T_rz 9<| T_ed 2 [3,4,11,48] [(11,vi (IntKind.wrap .i64 (b+1)))] ?_
  exact S_round ((IntKind.wrap .i64 (b+1)):Int) sk h
 rw[if_neg c6]at h
 refine T_cFz 12 (decide_eq_false c6) ?_
 refine S_exit 0 (by kernel_rfl) ?_
 refine S_exitThen ?_
 refine S_exitThen ?_
 refine S_exitHere ?_
 exact S_doneN (fn:=Tryz.f33) [] hQ (show ResOK _ _ _ [] _ from .nil) h
end weak_Breaks

/-! moraine/weak.Prune -/
namespace weak_Prune
def K0:=Func.code Tryz.f34
def K2:=cb K0
def K4:=cb K2
def K12:=cb K4
def K13:=ca K12
def K16:=cb K13
def K17:=ca K16
def K18:=ca K17
end weak_Prune
def weak_Prune.pt(tv lB:Option Addr)(lN lC:Nat)(H:Array Obj)(R:Value->Array Obj->Prop):Prop:=
 weak_ended.C tv H (λv H1=> ∃x:Bool,v=.bool x/\
 if x=true then(
 slices_Clone_api_Word_api_Word.C lB lN lC H1 (λn H2=> ∃(xB:Option Addr) (xN xC:Nat),n=.slice xB xN xC/\
 R (.slice xB xN xC) H2))
 else
 ∃(l:(Option Addr)->Nat->Nat->Int->Array Obj->Prop) (m19:(Option Addr)->Nat->Nat->Int->Array Obj->Nat),l none 0 0 0 H1/\ ∀(d:Option Addr) (outN:Nat) (outC:Nat) (s14:Int) (H3:Array Obj),l d outN outC s14 H3->
 if s14< (lN:Int)then(
 ∃e:Addr,lB=some e/\
 ((0:Int)<=s14/\s14< (lN:Int))/\
 ∃f:Int,hat H3 (e.add (Int.toNat s14*1))=some (.int .u64 f)/\
 trace_Trace_Reached.C tv f H3 (λo H4=> ∃j:Bool,o=.bool j/\
 if j=true then(
 trace_Trace_Visit.C tv f H4 (λp H5=> ∃m:Int,p=.int .u64 m/\
 ∀(b:Nat) (H6:Array Obj),b=H5.size->H6=H5.push (.cells #[.int .u64 m] 24)->
 appendK 1 24 8 [.int .u64 0] d outN outC (some (ad b)) 1 H6 (λap g H7=>
 (l ap (outN+1) g (IntKind.wrap .i64 (s14+1)) H7/\m19 ap (outN+1) g (IntKind.wrap .i64 (s14+1)) H7<m19 d outN outC s14 H3))))
 else
 (l d outN outC (IntKind.wrap .i64 (s14+1)) H4/\m19 d outN outC (IntKind.wrap .i64 (s14+1)) H4<m19 d outN outC s14 H3)))
 else
 R (.slice d outN outC) H3)
namespace weak_Prune
theorem link{tv lB:Option Addr}{lN lC:Nat}{H:Array Obj}{R:Value->Array Obj->Prop}(h:pt tv lB lN lC H R):C tv lB lN lC H R:=by
 refine T_en K0 29 Tryz.func34 ?_
 intro w0 Q hQ
 unfold pt at h
 refine T_su [(0,vp tv),(1,vs lB lN lC)]<| T_srz 0<| T_ed 1 [] []<| T_sz<| T_srz 1<| T_nd 1 [] [(8,vp tv)] ?_
 refine T_c (some 9) h ?_;clear h
 rintro v H1 ⟨x,rfl,h⟩
 refine T_pd [8] [(9,.bool x)]<| T_e ?_
 by_cases c1:x=true
 ·rw[if_pos c1]at h
  refine T_cTz 9 c1<| T_srz 2<| T_n 1 [(10,vs lB lN lC)] ?_
  refine T_c (some 11) h ?_;clear h
  rintro n H2 ⟨xB,xN,xC,rfl,h⟩
  refine⟨[(11,vs xB xN xC)],pk,?_⟩
  exact T_nr 1 [4] [vs xB xN xC] hQ h
 rw[if_neg c1]at h
 refine T_cFz 9 (eq_false_of_ne_true c1)<| T_kt<| T_srz 3<| T_ed 1 [9] [(5,vs none 0 0)]<| T_sz<| T_srz 4<| T_ed 3 [1] [(12,vs lB lN lC),(13,vi lN),(14,vi 0)]<| T_bz 0 ?_
 obtain⟨l,m19,i3,i4⟩:=h
 refine S_loop (x:=K18) (σ:=(Option Addr)×Nat×Nat×Int) (λs_=> [(0,vp tv),(5,vs s_.1 s_.2.1 s_.2.2.1),(12,vs lB lN lC),(13,vi lN),(14,vi s_.2.2.2)]) (λs_ H=>l s_.1 s_.2.1 s_.2.2.1 s_.2.2.2 H) (λs_ H=>m19 s_.1 s_.2.1 s_.2.2.1 s_.2.2.2 H) ((none,0,0,0):(Option Addr)×Nat×Nat×Int) (by kernel_rfl) i3 sk ?_
 rintro⟨d,outN,outC,s14⟩ H3 i5
 have h:=i4 d outN outC s14 H3 i5
 refine T_su [(0,vp tv),(5,vs d outN outC),(12,vs lB lN lC),(13,vi lN),(14,vi s14)]<| T_srz 5<| T_ed 1 [] [(15,.bool (decide (s14< (lN:Int))))]<| T_sz ?_
 by_cases c6:s14< (lN:Int)
 ·rw[if_pos c6]at h
  refine T_cTz 15 (decide_eq_true c6)<| T_kt<| T_sz<| T_bz 1<| T_srz 6<| T_ud [15] [] ?_
  obtain⟨e,rfl,h⟩:=h
  obtain⟨q8,h⟩:=h
  refine T_xd (some 16) 27 24 1 e lN lC .i64 s14 Tryz.underlying27 q8.1 q8.2 [12] [(12,vs (some e) lN lC),(16,vp (some (e.add (Int.toNat s14*1))))] ?_
  obtain⟨f,q9,h⟩:=h
  refine T_l1 17 24 q9 [16]<| T_ed 1 [17] [(7,vu f)]<| T_srz 7<| T_nd 2 [] [(18,vp tv),(19,vu f)] ?_
  refine T_c (some 20) h ?_;clear h
  rintro o H4 ⟨j,rfl,h⟩
  refine T_pd [18,19] [(20,.bool j)]<| T_e ?_
  by_cases c10:j=true
  ·rw[if_pos c10]at h
   refine T_cTz 20 c10<| T_rz 8<| T_nd 3 [5,7,20] [(21,vs d outN outC),(22,vp tv),(23,vu f)] ?_
   refine T_c (some 24) h ?_;clear h
   rintro p H5 ⟨m,rfl,h⟩
   refine T_pd [22,23] [(24,vu m)]<| T_nw (some 25) (λb=>vs (pa b) 1 1) (.cells #[vu m] 24) ?_
   intro b H6 e12 e13
   replace h:=h b H6 e12 e13
   refine T_pd [24] [(25,vs (pa b) 1 1)] ?_
   refine N_op (some 26) (appendN #[27,27] 27 #[vs d outN outC,vs (pa b) 1 1]) _ (λ_=>by kernel_rfl) (ss_append (T:=24) (sz:=1) (bytes:=8) (zero:=(vu 0:Value)) Tryz.underlying27 Tryz.underlying27 rfl (show Tryz.prog.info? 24=some Tryz.t24 from by kernel_rfl) (by kernel_rfl) (by kernel_rfl) (by decide) (by kernel_rfl) (by first | exact h | (simpa only[Value.cells,List.toList_toArray]using h))) ?_;clear h
   rintro _ H7 ⟨ap,g,rfl,h⟩
   refine T_pd [21,25] [(26,vs ap (outN+1) g)]<| T_nd 1 [26] [(5,vs ap (outN+1) g)] ?_
   refine N_end (by kernel_rfl) ?_
   refine S_blockEnd ?_
   refine S_then ?_
   refine T_rz 9<| T_ed 2 [14] [(14,vi (IntKind.wrap .i64 (s14+1)))] ?_
   exact S_round ((ap,(outN+1),g,(IntKind.wrap .i64 (s14+1))):(Option Addr)×Nat×Nat×Int) sk h
  rw[if_neg c10]at h
  refine T_cFz 20 (eq_false_of_ne_true c10)<| T_k ?_
  refine S_blockEnd ?_
  refine S_then ?_
  refine T_rz 9<| T_ed 2 [7,14,20] [(14,vi (IntKind.wrap .i64 (s14+1)))] ?_
  exact S_round ((d,outN,outC,(IntKind.wrap .i64 (s14+1))):(Option Addr)×Nat×Nat×Int) sk h
 rw[if_neg c6]at h
 refine T_cFz 15 (decide_eq_false c6) ?_
 refine S_exit 0 (by kernel_rfl) ?_
 refine S_exitThen ?_
 refine S_exitThen ?_
 refine S_exitHere ?_
 refine S_then ?_
 exact T_srz 10<| T_nr 2 [4] [vs d outN outC] hQ h
end weak_Prune

/-! moraine/weak.ended -/
namespace weak_ended
def K0:=Func.code Tryz.f71
end weak_ended
def weak_ended.pt(tv:Option Addr)(H:Array Obj)(R:Value->Array Obj->Prop):Prop:=
 onPtr tv (
 R (.bool true) H) (λa=>
 trace_Trace_Ended.C (some a) H (λv H1=> ∃x:Bool,v=.bool x/\
 R (.bool x) H1))
namespace weak_ended
theorem link{tv:Option Addr}{H:Array Obj}{R:Value->Array Obj->Prop}(h:pt tv H R):C tv H R:=by
 refine T_en K0 9 Tryz.func71 ?_
 intro w0 Q hQ
 unfold pt at h
 refine T_su [(0,vp tv)]<| T_srz 0<| T_ed 1 [] []<| T_srz 1<| T_nd 1 [] [(3,vp tv)] ?_
 rcases tv with _ | a
 ·rw[onPtr_none]at h
  exact T_nr 6 [2] [.bool true] hQ h
 rw[onPtr_some]at h
 refine T_n 3 [(5,.bool false),(6,vp (some a))] ?_
 refine T_c (some 7) h ?_;clear h
 rintro v H1 ⟨x,rfl,h⟩
 exact T_pd [6] [(7,.bool x)]<| T_nr 2 [2] [.bool x] hQ h
end weak_ended

/-! moraine/weak.Guards.1 -/
end Go.Proofs.YtgnokbjknicahaaGreat
