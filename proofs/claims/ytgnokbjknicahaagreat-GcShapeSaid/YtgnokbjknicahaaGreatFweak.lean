/- Printed: what each function asks, and that it is sound. -/
import Derived.Test.YtgnokbjknicahaaGreatFnsC
set_option linter.unusedSimpArgs false
set_option linter.unusedVariables false
set_option maxRecDepth 100000
set_option maxHeartbeats 1000000
noncomputable section
namespace Go.Proofs.YtgnokbjknicahaaGreat
open Go
/-! moraine/weak.Guards -/
namespace weak_Guards
def K0:=Func.code Tryz.f32
def K2:=cb K0
def K3:=ca K2
def K5:=cb K3
def K13:=cb K5
def K14:=ca K13
def K15:=cb K13
def K17:=cb K14
def K18:=ca K17
def K19:=ca K18
def K36:=cb K15
def K38:=cb K36
def K39:=ca K38
def K40:=cb K38
def K42:=cb K39
def K43:=ca K42
def K44:=ca K43
def K46:=cb K44
def K48:=cb K46
def K51:=ca K48
def K53:=ca K51
def K55:=cb K53
def K57:=cb K55
def K58:=ca K57
def K61:=cb K58
def K63:=cb K61
def K64:=ca K63
def K69:=cb K40
def K70:=ca K69
def K73:=cb K70
def K74:=ca K73
def K75:=ca K74
def K77:=cb K75
def K79:=cb K77
def K82:=ca K79
def K84:=ca K82
def K86:=cb K84
def K88:=cb K86
def K89:=ca K88
end weak_Guards
def weak_Guards.pt(tv lB:zW)(lN lC:Nat)(H:zV)(R:zk):Prop:=
 ∀(b:Nat) (H1:zV),b=H.size->H1=H.push (.cells #[.pointer tv] 82)->
 ∀(g:Nat) (H2:zV),g=H1.size->H2=H1.push (.cells #[.slice lB lN lC] 28)->
 ∃x:zW,hat H2 (ad b)=some (.pointer x)/\
 weak_ended.C x H2 (λv H3=> ∃bw:Bool,v=.bool bw/\
 if bw=true then(
 ∃(xB:zW) (xN xC:Nat),hat H3 (ad g)=some (.slice xB xN xC)/\
 slices_Clone_api_Entry_api_Entry.C xB xN xC H3 (λcn H4=> ∃(bj:zW) (bm bh:Nat),cn=.slice bj bm bh/\
 R (.slice bj bm bh) H4))
 else
 ∃(b6:zW) (z b8:Nat),hat H3 (ad g)=some (.slice b6 z b8)/\
 0<=(z:Int)/\(z:Int)<=(z:Int)/\8*(z:Int)<=2 ^ 48/\(z:Int)<=9223372036854775807/\
 ∀(bg:Nat) (H5:zV),bg=H3.size->H5=H3.push (.cells (Builtin.zeroCells #[.int .i64 0] (Int.toNat (z:Int))) 3)->
 ∀(f:Nat) (H6:zV),f=H5.size->H6=H5.push (.cells #[.slice none 0 0] 67)->
 (CanPuts H6 (ad f) 0 1)/\ ∀H7,H7=hputs H6 (ad f) [.slice (some (ad bg)) (Int.toNat (z:Int)) (Int.toNat (z:Int))] 0->
 ∃(ak:zW) (l s:Nat),hat H7 (ad g)=some (.slice ak l s)/\
 ∃(b1:zv) (m20:Int->zV->Nat),b1 0 H7/\ ∀(m:Int) (H8:zV),b1 m H8->
 if m< (l:Int)then(
 ∃aa:Addr,ak=some aa/\
 zw m l/\
 ∃ax ac:Int,RowAt H8 (aa.add (Int.toNat m*2)) 0 [.int .u64 ax,.int .u64 ac]/\
 ∀(aq:Nat) (H9:zV),aq=H8.size->H9=H8.push (.cells #[.int .u64 0,.int .u64 0] 144)->
 (CanPuts H9 (ad aq) 0 2)/\ ∀b5,b5=hputs H9 (ad aq) [.int .u64 ax,.int .u64 ac] 0->
 ∃br:zW,hat b5 (ad b)=some (.pointer br)/\
 ∃b4:Int,hat b5 (ad aq)=some (.int .u64 b4)/\
 trace_Trace_Reached.C br b4 b5 (λcq bs=> ∃ba:Bool,cq=.bool ba/\
 if ba=true then(
 (b1 (zY (m+1)) bs/\m20 (zY (m+1)) bs<m20 m H8))
 else
 ∃(bk:zW) (a2 bf:Nat),hat bs (ad f)=some (.slice bk a2 bf)/\
 ∃aw:Addr,bk=some aw/\
 zw m a2/\
 (CanPuts bs (aw.add (Int.toNat m*1)) 0 1)/\ ∀cd,cd=hputs bs (aw.add (Int.toNat m*1)) [.int .i64 1] 0->
 (b1 (zY (m+1)) cd/\m20 (zY (m+1)) cd<m20 m H8)))
 else
 ∃(aj:zW) (o ae:Nat),hat H8 (ad g)=some (.slice aj o ae)/\
 ∃(cc:zv) (m45:Int->zV->Nat),cc 0 H8/\ ∀(p:Int) (H13:zV),cc p H13->
 if p< (o:Int)then(
 ∃af:Addr,aj=some af/\
 zw p o/\
 ∃ag u:Int,RowAt H13 (af.add (Int.toNat p*2)) 0 [.int .u64 ag,.int .u64 u]/\
 ∀(ab:Nat) (H14:zV),ab=H13.size->H14=H13.push (.cells #[.int .u64 0,.int .u64 0] 144)->
 (CanPuts H14 (ad ab) 0 2)/\ ∀cg,cg=hputs H14 (ad ab) [.int .u64 ag,.int .u64 u] 0->
 weak_Guards_1.C p (some (ad f)) (some (ad b)) (some (ad g)) cg (λcp bt=> ∃bu:Bool,cp=.bool bu/\
 if bu=true then(
 ∃(bi:zW) (a4 be:Nat),hat bt (ad f)=some (.slice bi a4 be)/\
 ∃au:Addr,bi=some au/\
 zw p a4/\
 (CanPuts bt (au.add (Int.toNat p*1)) 0 1)/\ ∀b0,b0=hputs bt (au.add (Int.toNat p*1)) [.int .i64 2] 0->
 ∃bp:zW,hat b0 (ad b)=some (.pointer bp)/\
 ∃b2:Int,hat b0 (ad ab)=some (.int .u64 b2)/\
 trace_Trace_Visit.C bp b2 b0 (λcr b9=> ∃ao:Int,cr=.int .u64 ao/\
 ∃ai:zW,hat b9 (ad b)=some (.pointer ai)/\
 ∃ay:zW,hat b9 (ad b)=some (.pointer ay)/\
 ∃a5:Int,hat b9 ((ad ab).add 1)=some (.int .u64 a5)/\
 trace_Trace_Visit.C ay a5 b9 (λco cm=> ∃bx:Int,co=.int .u64 bx/\RowAt cm (ad b) 0 [.pointer ai]/\
 weak_puts.C ai bx ao cm (λ_ cj=>
 ∃bo:zW,hat cj (ad b)=some (.pointer bo)/\
 trace_Trace_Drain.C bo cj (λ_ ct=>
 False)))))
 else
 (cc (zY (p+1)) bt/\m45 (zY (p+1)) bt<m45 p H13)))
 else
 ∃(al:zW) (d n:Nat),hat H13 (ad g)=some (.slice al d n)/\
 ∃(bz:zW->Nat->Nat->zv) (m76:zW->Nat->Nat->Int->zV->Nat),bz none 0 0 0 H13/\ ∀(j:zW) (outN:Nat) (outC:Nat) (s68:Int) (H22:zV),bz j outN outC s68 H22->
 if s68< (d:Int)then(
 ∃q:Addr,al=some q/\
 zw s68 d/\
 ∃ah y:Int,RowAt H22 (q.add (Int.toNat s68*2)) 0 [.int .u64 ah,.int .u64 y]/\
 ∀(r:Nat) (H23:zV),r=H22.size->H23=H22.push (.cells #[.int .u64 0,.int .u64 0] 144)->
 (CanPuts H23 (ad r) 0 2)/\ ∀bb,bb=hputs H23 (ad r) [.int .u64 ah,.int .u64 y] 0->
 ∃(bn:zW) (a7 bd:Nat),hat bb (ad f)=some (.slice bn a7 bd)/\
 ∃a6:Addr,bn=some a6/\
 zw s68 a7/\
 ∃a1:Int,hat bb (a6.add (Int.toNat s68*1))=some (.int .i64 a1)/\
 if a1<2 then(
 ∃a3:zW,hat bb (ad b)=some (.pointer a3)/\
 ∃bl:Int,hat bb ((ad r).add 1)=some (.int .u64 bl)/\
 trace_Trace_Reached.C a3 bl bb (λcs bq=> ∃a9:Bool,cs=.bool a9/\
 if a9=true then(
 ∃am:zW,hat bq (ad b)=some (.pointer am)/\
 ∃av:Int,hat bq (ad r)=some (.int .u64 av)/\
 ∃an:zW,hat bq (ad b)=some (.pointer an)/\
 ∃a0:Int,hat bq ((ad r).add 1)=some (.int .u64 a0)/\
 trace_Trace_Visit.C am av bq (λch ce=> ∃az:Int,ch=.int .u64 az/\RowAt ce (ad b) 0 [.pointer an]/\RowAt ce ((ad r).add 1) 0 [.int .u64 a0]/\
 trace_Trace_Visit.C an a0 ce (λck cl=> ∃a8:Int,ck=.int .u64 a8/\
 ∀(b3:Nat) (H28:zV),b3=cl.size->H28=cl.push (.cells #[.int .u64 az,.int .u64 a8] 144)->
 appendK 2 144 16 [.int .u64 0,.int .u64 0] j outN outC (some (ad b3)) 1 H28 (λap bc ci=>
 (bz ap (outN+1) bc (zY (s68+1)) ci/\m76 ap (outN+1) bc (zY (s68+1)) ci<m76 j outN outC s68 H22)))))
 else
 (bz j outN outC (zY (s68+1)) bq/\m76 j outN outC (zY (s68+1)) bq<m76 j outN outC s68 H22)))
 else
 (bz j outN outC (zY (s68+1)) bb/\m76 j outN outC (zY (s68+1)) bb<m76 j outN outC s68 H22))
 else
 R (.slice j outN outC) H22)
namespace weak_Guards
theorem link{tv lB:zW}{lN lC:Nat}{H:zV}{R:zk}(h:pt tv lB lN lC H R):C tv lB lN lC H R:=by
 refine T_en K0 98 Tryz.func32 ?_
 intro w0 Q hQ
 unfold pt zY at h
 refine T_su [(0,vp tv),(1,vs lB lN lC)]<| T_srz 0<| T_nw (some 2) (λb=>vp (pa b)) (.cells #[vp tv] 82) ?_
 intro b H1 e1 e2
 replace h:=h b H1 e1 e2
 refine T_pd [0] [(2,vp (pa b))]<| T_nw (some 3) (λb=>vp (pa b)) (.cells #[vs lB lN lC] 28) ?_
 intro g H2 e3 e4
 replace h:=h g H2 e3 e4
 refine T_pd [1] [(3,vp (pa g))]<| T_ed 1 [] []<| S_scope K3 (by kernel_rfl)<| T_sz<| T_srz 1 ?_
 obtain⟨x,q5,h⟩:=h
 refine T_l1 15 82 q5 []<| T_c (some 16) h ?_;clear h
 rintro v H3 ⟨bw,rfl,h⟩
 refine T_pd [15] [(16,.bool bw)]<| T_e ?_
 by_cases c6:bw=true
 ·rw[if_pos c6]at h
  refine T_cTz 16 c6<| T_srz 2<| T_ud [2,16] [] ?_
  obtain⟨xB,xN,xC,q8,h⟩:=h
  refine T_l1 17 28 q8 [3]<| T_c (some 18) h ?_;clear h
  rintro cn H4 ⟨bj,bm,bh,rfl,h⟩
  refine⟨[(18,vs bj bm bh)],pk,?_⟩
  exact T_nr 1 [4] [vs bj bm bh] hQ h
 rw[if_neg c6]at h
 refine T_cFz 16 (zZ c6)<| T_kt<| T_srz 3<| T_ud [16] [] ?_
 obtain⟨b6,z,b8,q9,h⟩:=h
 refine T_l1 19 28 q9 []<| T_nd 1 [19] [(20,vi z)] ?_
 obtain⟨q10,q11,q12,q13,h⟩:=h
 refine N_op (some 21) (makeSliceN 67 (vi z) (vi z)) (λv Hz=>v=Value.slice (some (Addr.mk H3.size 0 none)) (Int.toNat (z:Int)) (Int.toNat (z:Int))/\Hz=H3.push (.cells (Builtin.zeroCells #[vi 0] (Int.toNat (z:Int))) 3)) (λ_=>by kernel_rfl) (ss_make (T:=3) (zero:=vi 0) Tryz.underlying67 (show Tryz.prog.info? 3=some Tryz.t3 from by kernel_rfl) (by kernel_rfl) q10 q11 q12 q13 (by kernel_rfl) (by decide)) ?_
 rintro _ H5 ⟨rfl,e15⟩
 obtain⟨bg,e14⟩: ∃b,b=H3.size:=⟨_,rfl⟩
 replace h:=h bg H5 e14 e15
 rw[<-e14]
 refine T_pd [20] [(21,vs (pa bg) (Int.toNat (z:Int)) (Int.toNat (z:Int)))]<| T_nw (some 5) (λb=>vp (pa b)) (.cells #[vs none 0 0] 67) ?_
 intro f H6 e16 e17
 replace h:=h f H6 e16 e17
 refine T_pd [] [(5,vp (pa f))] ?_
 obtain⟨q19,h⟩:=h
 refine T_st1 67 (vs (pa bg) (Int.toNat (z:Int)) (Int.toNat (z:Int))) q19 ?_
 intro H7 e18
 replace h:=h H7 e18
 refine T_pd [21] []<| T_e<| T_sz<| T_srz 4 ?_
 obtain⟨ak,l,s,q20,h⟩:=h
 refine T_l1 22 28 q20 []<| T_ed 2 [] [(23,vi l),(24,vi 0)]<| T_bz 0 ?_
 obtain⟨b1,m20,i21,i22⟩:=h
 refine S_loop (x:=K19) (σ:=Int) (λs_=> [(2,vp (pa b)),(3,vp (pa g)),(5,vp (pa f)),(22,vs ak l s),(23,vi l),(24,vi s_)]) (λs_ H=>b1 s_ H) (λs_ H=>m20 s_ H) (0:Int) (by kernel_rfl) i21 sk ?_
 rintro m H8 i23
 have h:=i22 m H8 i23
 refine T_su [(2,vp (pa b)),(3,vp (pa g)),(5,vp (pa f)),(22,vs ak l s),(23,vi l),(24,vi m)]<| T_srz 5<| T_ed 1 [] [(25,.bool (decide (m< (l:Int))))]<| T_sz ?_
 by_cases c24:m< (l:Int)
 ·rw[if_pos c24]at h
  refine T_cTz 25 (zX c24)<| T_kt<| T_sz<| T_bz 1<| T_srz 6<| T_nd 1 [25] [(26,vi m)] ?_
  obtain⟨aa,rfl,q26,h⟩:=h
  refine T_xd (some 27) 28 144 2 aa l s .i64 m Tryz.underlying28 q26.1 q26.2 [22] [(22,vs (some aa) l s),(27,vp (some (aa.add (Int.toNat m*2))))] ?_
  obtain⟨ax,ac,q27,h⟩:=h
  refine T_lr 28 144 q27 [27]<| T_nw (some 7) (λb=>vp (pa b)) (.cells #[vu 0,vu 0] 144) ?_
  intro aq H9 e28 e29
  replace h:=h aq H9 e28 e29
  refine T_pd [] [(7,vp (pa aq))]<| T_nd 1 [26] [(6,vi m)] ?_
  obtain⟨q31,h⟩:=h
  refine T_sta 144 [vu ax,vu ac] q31 ?_
  intro b5 e30
  replace h:=h b5 e30
  refine T_pd [28] []<| T_e<| T_srz 7 ?_
  obtain⟨br,q32,h⟩:=h
  refine T_l1 29 82 q32 []<| T_nd 1 [7] [(30,vp (pa aq))] ?_
  obtain⟨b4,q33,h⟩:=h
  refine T_l1 31 24 q33 [30]<| T_c (some 32) h ?_;clear h
  rintro cq bs ⟨ba,rfl,h⟩
  refine T_pd [29,31] [(32,.bool ba)]<| T_ed 1 [32] [(33,.bool (!ba))] ?_
  by_cases c34:ba=true
  ·rw[if_pos c34]at h
   exact T_cFz 33 (congrArg Bool.not (c34))<| T_k<| S_blockEnd<| S_then<| T_rz 9<| T_ed 2 [6,24,33] [(24,vi (zY (m+1)))]<| S_round ((zY (m+1)):Int) sk h
  rw[if_neg c34]at h
  refine T_cTz 33 (congrArg Bool.not (zZ c34))<| T_rz 8<| T_ud [33] [] ?_
  obtain⟨bk,a2,bf,q36,h⟩:=h
  refine T_l1 34 67 q36 []<| T_nd 1 [6] [(35,vi m)] ?_
  obtain⟨aw,rfl,q37,h⟩:=h
  refine T_xd (some 36) 67 3 1 aw a2 bf .i64 m Tryz.underlying67 q37.1 q37.2 [34,35] [(36,vp (some (aw.add (Int.toNat m*1))))] ?_
  obtain⟨q39,h⟩:=h
  refine T_st1 3 (vi 1) q39 ?_
  intro cd e38
  replace h:=h cd e38
  exact T_pd [36] []<| zq<| S_blockEnd<| S_then<| T_rz 9<| T_ed 2 [24] [(24,vi (zY (m+1)))]<| S_round ((zY (m+1)):Int) sk h
 rw[if_neg c24]at h
 refine T_cFz 25 (zQ c24)<| zj 0<| S_exitThen<| S_exitThen<| S_exitHere<| S_then<| T_srz 10<| T_ed 2 [22,23,24,25] [(8,.func (.func 74) #[] #[vp (pa f),vp (pa b),vp (pa g)])]<| T_sz<| S_label 0 (by kernel_rfl)<| S_then<| T_sz<| T_srz 11 ?_
 obtain⟨aj,o,ae,q40,h⟩:=h
 refine T_l1 39 28 q40 []<| T_ed 2 [] [(40,vi o),(41,vi 0)]<| T_bz 2 ?_
 obtain⟨cc,m45,i41,i42⟩:=h
 refine S_loop (x:=K44) (σ:=Int) (λs_=> [(2,vp (pa b)),(3,vp (pa g)),(5,vp (pa f)),(8,.func (.func 74) #[] #[vp (pa f),vp (pa b),vp (pa g)]),(39,vs aj o ae),(40,vi o),(41,vi s_)]) (λs_ H=>cc s_ H) (λs_ H=>m45 s_ H) (0:Int) (by kernel_rfl) i41 sk ?_
 rintro p H13 i43
 have h:=i42 p H13 i43
 refine T_su [(2,vp (pa b)),(3,vp (pa g)),(5,vp (pa f)),(8,.func (.func 74) #[] #[vp (pa f),vp (pa b),vp (pa g)]),(39,vs aj o ae),(40,vi o),(41,vi p)]<| T_srz 12<| T_ed 1 [] [(42,.bool (decide (p< (o:Int))))]<| T_sz ?_
 by_cases c44:p< (o:Int)
 ·rw[if_pos c44]at h
  refine T_cTz 42 (zX c44)<| T_kt<| T_sz<| T_bz 3<| T_srz 13<| T_nd 1 [42] [(43,vi p)] ?_
  obtain⟨af,rfl,q46,h⟩:=h
  refine T_xd (some 44) 28 144 2 af o ae .i64 p Tryz.underlying28 q46.1 q46.2 [39] [(39,vs (some af) o ae),(44,vp (some (af.add (Int.toNat p*2))))] ?_
  obtain⟨ag,u,q47,h⟩:=h
  refine T_lr 45 144 q47 [44]<| T_nw (some 10) (λb=>vp (pa b)) (.cells #[vu 0,vu 0] 144) ?_
  intro ab H14 e48 e49
  replace h:=h ab H14 e48 e49
  refine T_pd [] [(10,vp (pa ab))]<| T_nd 1 [43] [(9,vi p)] ?_
  obtain⟨q51,h⟩:=h
  refine T_sta 144 [vu ag,vu u] q51 ?_
  intro cg e50
  replace h:=h cg e50
  refine T_pd [45] []<| T_e<| T_srz 14<| T_nd 2 [] [(46,.func (.func 74) #[] #[vp (pa f),vp (pa b),vp (pa g)]),(47,vi p)]<| T_c (some 48) h ?_;clear h
  rintro cp bt ⟨bu,rfl,h⟩
  refine T_pd [46,47] [(48,.bool bu)]<| T_e ?_
  by_cases c52:bu=true
  ·rw[if_pos c52]at h
   refine T_cTz 48 c52<| T_srz 15<| T_ud [3,8,39,40,41,48] [] ?_
   obtain⟨bi,a4,be,q54,h⟩:=h
   refine T_l1 49 67 q54 [5]<| T_nd 1 [9] [(50,vi p)] ?_
   obtain⟨au,rfl,q55,h⟩:=h
   refine T_xd (some 51) 67 3 1 au a4 be .i64 p Tryz.underlying67 q55.1 q55.2 [49,50] [(51,vp (some (au.add (Int.toNat p*1))))] ?_
   obtain⟨q57,h⟩:=h
   refine T_st1 3 (vi 2) q57 ?_
   intro b0 e56
   replace h:=h b0 e56
   refine T_pd [51] []<| T_e<| T_srz 16 ?_
   obtain⟨bp,q58,h⟩:=h
   refine T_l1 52 82 q58 []<| T_nd 1 [] [(53,vp (pa ab))] ?_
   obtain⟨b2,q59,h⟩:=h
   refine T_l1 54 24 q59 [53]<| T_c (some 55) h ?_;clear h
   rintro cr b9 ⟨ao,rfl,h⟩
   refine T_pd [52,54] [(55,vu ao)]<| T_ed 1 [55] [(11,vu ao)]<| T_sz ?_
   obtain⟨ai,q60,ay,q61,a5,q62,h⟩:=h
   refine yY 17 (Code.ops K64) [(6,(ad b),[vp ai]),(4,(ad b),[vp ay]),(4,((ad ab).add 1),[vu a5])] 7 (bv 7 0) (show FactsAt _ _ _ from⟨⟨q60,trivial⟩,⟨q61,trivial⟩,⟨q62,trivial⟩,trivial⟩)<| T_g 0 (some 56) (vp ai) (bv 7 1) [(2,vp (pa b)),(10,vp (pa ab)),(11,vu ao),(56,vp ai)] (loadN 82 (vp (pa b))) (yW 6 yZ)<| T_g1 1 57 (vp ay) (bv 7 3) [] (loadN 82 (vp (pa b))) (yW 4 yX)<| T_gp1 2 58 (vp (some ((ad ab).add 1))) (bv 7 7) [10]<| T_g1 3 59 (vu a5) (bv 7 15) [58] (loadN 24 (vp (some ((ad ab).add 1)))) (yW 4 yQ)<| T_gp1 5 61 (vu ao) (bv 7 47) [11]<| yq 4 (some 60) (bv 7 63) 29 #[vp ay,vu a5] h ?_;clear h
   rintro co cm ⟨bx,rfl,f63,h⟩
   refine⟨[(2,vp (pa b)),(56,vp ai),(60,vu bx),(61,vu ao)],pk,(show FactsAt _ _ _ from⟨f63,trivial,trivial,trivial⟩),?_⟩
   refine yq 6 (some 62) (bv 7 127) 75 #[vp ai,vu bx,vu ao] h ?_;clear h
   intro v_7 cj h
   refine⟨[(2,vp (pa b))],pk,(show FactsAt _ _ _ from⟨trivial,trivial,trivial,trivial⟩),?_⟩
   refine G_sub [(2,vp (pa b))] sk ?_
   refine yx<| S_then<| T_srz 18 ?_
   obtain⟨bo,q64,h⟩:=h
   refine T_l (some 63) 82 q64 [(63,vp bo)]<| T_c (some 64) h ?_;clear h
   intro v_8 ct h
   refine⟨[],pk,?_⟩
   refine T_e ?_
   exact h.elim
  rw[if_neg c52]at h
  exact T_cFz 48 (zZ c52)<| T_k<| S_blockEnd<| S_then<| T_rz 19<| T_ed 2 [9,10,41,48] [(41,vi (zY (p+1)))]<| S_round ((zY (p+1)):Int) sk h
 rw[if_neg c44]at h
 refine T_cFz 42 (zQ c44)<| zj 2<| S_exitThen<| S_exitThen<| S_exitHere<| S_then<| T_srz 20<| T_ed 1 [8,39,40,41,42] [(12,vs none 0 0)]<| T_sz<| T_srz 21 ?_
 obtain⟨al,d,n,q65,h⟩:=h
 refine T_l1 66 28 q65 [3]<| T_ed 2 [] [(67,vi d),(68,vi 0)]<| T_bz 4 ?_
 obtain⟨bz,m76,i66,i67⟩:=h
 refine S_loop (x:=K75) (σ:=zW×Nat×Nat×Int) (λs_=> [(2,vp (pa b)),(5,vp (pa f)),(12,vs s_.1 s_.2.1 s_.2.2.1),(66,vs al d n),(67,vi d),(68,vi s_.2.2.2)]) (λs_ H=>bz s_.1 s_.2.1 s_.2.2.1 s_.2.2.2 H) (λs_ H=>m76 s_.1 s_.2.1 s_.2.2.1 s_.2.2.2 H) ((none,0,0,0):zW×Nat×Nat×Int) (by kernel_rfl) i66 sk ?_
 rintro⟨j,outN,outC,s68⟩ H22 i68
 have h:=i67 j outN outC s68 H22 i68
 refine T_su [(2,vp (pa b)),(5,vp (pa f)),(12,vs j outN outC),(66,vs al d n),(67,vi d),(68,vi s68)]<| T_srz 22<| T_ed 1 [] [(69,.bool (decide (s68< (d:Int))))]<| T_sz ?_
 by_cases c69:s68< (d:Int)
 ·rw[if_pos c69]at h
  refine T_cTz 69 (zX c69)<| T_kt<| T_sz<| T_bz 5<| T_srz 23<| T_nd 1 [69] [(70,vi s68)] ?_
  obtain⟨q,rfl,q71,h⟩:=h
  refine T_xd (some 71) 28 144 2 q d n .i64 s68 Tryz.underlying28 q71.1 q71.2 [66] [(66,vs (some q) d n),(71,vp (some (q.add (Int.toNat s68*2))))] ?_
  obtain⟨ah,y,q72,h⟩:=h
  refine T_lr 72 144 q72 [71]<| T_nw (some 14) (λb=>vp (pa b)) (.cells #[vu 0,vu 0] 144) ?_
  intro r H23 e73 e74
  replace h:=h r H23 e73 e74
  refine T_pd [] [(14,vp (pa r))]<| T_nd 1 [70] [(13,vi s68)] ?_
  obtain⟨q76,h⟩:=h
  refine T_sta 144 [vu ah,vu y] q76 ?_
  intro bb e75
  replace h:=h bb e75
  refine T_pd [72] []<| T_e<| T_srz 24 ?_
  obtain⟨bn,a7,bd,q77,h⟩:=h
  refine T_l1 73 67 q77 []<| T_nd 1 [13] [(74,vi s68)] ?_
  obtain⟨a6,rfl,q78,h⟩:=h
  refine T_xd (some 75) 67 3 1 a6 a7 bd .i64 s68 Tryz.underlying67 q78.1 q78.2 [73,74] [(75,vp (some (a6.add (Int.toNat s68*1))))] ?_
  obtain⟨a1,q79,h⟩:=h
  refine T_l1 76 3 q79 [75]<| T_nd 2 [76] [(78,.bool (decide (a1<2)))] ?_
  by_cases c80:a1<2
  ·rw[if_pos c80]at h
   refine N_bd 78 (zX c80) ?_
   obtain⟨a3,q82,h⟩:=h
   refine T_l1 79 82 q82 []<| T_nd 1 [] [(80,vp (some ((ad r).add 1)))] ?_
   obtain⟨bl,q83,h⟩:=h
   refine T_l1 81 24 q83 [80]<| T_c (some 82) h ?_;clear h
   rintro cs bq ⟨a9,rfl,h⟩
   refine T_pd [79,81] [(82,.bool a9)]<| T_ed 1 [78,82] [(83,.bool a9)] ?_
   by_cases c84:a9=true
   ·rw[if_pos c84]at h
    refine T_cTz 83 c84 ?_
    obtain⟨am,q86,av,q87,an,q88,a0,q89,h⟩:=h
    refine yY 25 (Code.ops K89) [(4,(ad b),[vp am]),(4,(ad r),[vu av]),(8,(ad b),[vp an]),(8,((ad r).add 1),[vu a0])] 13 (bv 13 0) (show FactsAt _ _ _ from⟨⟨q86,trivial⟩,⟨q87,trivial⟩,⟨q88,trivial⟩,⟨q89,trivial⟩,trivial⟩)<| T_gp 0 (some 84) (vs j outN outC) (bv 13 1) [(2,vp (pa b)),(5,vp (pa f)),(12,vs j outN outC),(14,vp (pa r)),(66,vs (some q) d n),(67,vi d),(68,vi s68),(84,vs j outN outC)]<| T_g1 1 85 (vp am) (bv 13 3) [] (loadN 82 (vp (pa b))) (yW 4 yZ)<| T_gp1 2 86 (vp (pa r)) (bv 13 7) []<| T_g1 3 87 (vu av) (bv 13 15) [86] (loadN 24 (vp (pa r))) (yW 4 yX)<| T_g1 5 89 (vp an) (bv 13 47) [] (loadN 82 (vp (pa b))) (yW 8 yQ)<| T_gp1 6 90 (vp (some ((ad r).add 1))) (bv 13 111) [14]<| T_g1 7 91 (vu a0) (bv 13 239) [90] (loadN 24 (vp (some ((ad r).add 1)))) (yW 8 yJ)<| yq 4 (some 88) (bv 13 255) 29 #[vp am,vu av] h ?_;clear h
    rintro ch ce ⟨az,rfl,f90,f91,h⟩
    refine⟨[(2,vp (pa b)),(5,vp (pa f)),(12,vs j outN outC),(66,vs (some q) d n),(67,vi d),(68,vi s68),(84,vs j outN outC),(88,vu az),(89,vp an),(91,vu a0)],pk,(show FactsAt _ _ _ from⟨trivial,trivial,f90,f91,trivial⟩),?_⟩
    refine yq 8 (some 92) (bv 13 511) 29 #[vp an,vu a0] h ?_;clear h
    rintro ck cl ⟨a8,rfl,h⟩
    refine⟨[(2,vp (pa b)),(5,vp (pa f)),(12,vs j outN outC),(66,vs (some q) d n),(67,vi d),(68,vi s68),(84,vs j outN outC),(88,vu az),(92,vu a8)],pk,(show FactsAt _ _ _ from⟨trivial,trivial,trivial,trivial,trivial⟩),?_⟩
    refine T_g 9 (some 93) (.agg #[vu az,vu a8]) (bv 13 1023) [(2,vp (pa b)),(5,vp (pa f)),(12,vs j outN outC),(66,vs (some q) d n),(67,vi d),(68,vi s68),(84,vs j outN outC),(93,.agg #[vu az,vu a8])] (pure (.value (.agg #[vu az,vu a8])):Sem Next) (λ_ _ _ _ _=>rfl)<| G_new 10 (some 94) (bv 13 2047) (λb=>vs (pa b) 1 1) (.cells #[vu az,vu a8] 144) (by kernel_rfl) (λ_=>by kernel_rfl) (by kernel_rfl) ?_
    intro b3 H28 e92 e93
    replace h:=h b3 H28 e92 e93
    refine⟨[(2,vp (pa b)),(5,vp (pa f)),(12,vs j outN outC),(66,vs (some q) d n),(67,vi d),(68,vi s68),(84,vs j outN outC),(94,vs (pa b3) 1 1)],pk,(show FactsAt _ _ _ from⟨trivial,trivial,trivial,trivial,trivial⟩),?_⟩
    refine G_only 11 (some 95) (bv 13 4095) (appendN #[28,28] 28 #[vs j outN outC,vs (pa b3) 1 1]) _ (by kernel_rfl) (λ_=>by kernel_rfl) (ss_append (T:=144) (sz:=2) (bytes:=16) (zero:=(.agg #[vu 0,vu 0]:Value)) Tryz.underlying28 Tryz.underlying28 rfl (show Tryz.prog.info? 144=some Tryz.t144 from by kernel_rfl) (by kernel_rfl) (by kernel_rfl) (by decide) (by kernel_rfl) (by first | exact h | (simpa only[Value.cells,List.toList_toArray]using h))) (by kernel_rfl) ?_;clear h
    rintro _ ci ⟨ap,bc,rfl,h⟩
    refine⟨[(2,vp (pa b)),(5,vp (pa f)),(12,vs j outN outC),(66,vs (some q) d n),(67,vi d),(68,vi s68),(95,vs ap (outN+1) bc)],pk,(show FactsAt _ _ _ from⟨trivial,trivial,trivial,trivial,trivial⟩),?_⟩
    exact T_g 12 (some 12) (vs ap (outN+1) bc) (bv 13 8191) [(2,vp (pa b)),(5,vp (pa f)),(12,vs ap (outN+1) bc),(66,vs (some q) d n),(67,vi d),(68,vi s68)] (pure (.value (vs ap (outN+1) bc)):Sem Next) (λ_ _ _ _ _=>rfl)<| G_sub [(2,vp (pa b)),(5,vp (pa f)),(12,vs ap (outN+1) bc),(66,vs (some q) d n),(67,vi d),(68,vi s68)] sk<| yx<| S_blockEnd<| S_then<| T_rz 26<| T_ne 2 [(2,vp (pa b)),(5,vp (pa f)),(12,vs ap (outN+1) bc),(66,vs (some q) d n),(67,vi d),(68,vi (zY (s68+1)))]<| S_round ((ap,(outN+1),bc,(zY (s68+1))):zW×Nat×Nat×Int) sk h
   rw[if_neg c84]at h
   exact T_cFz 83 (zZ c84)<| T_k<| S_blockEnd<| S_then<| T_rz 26<| T_ed 2 [14,68,83] [(68,vi (zY (s68+1)))]<| S_round ((j,outN,outC,(zY (s68+1))):zW×Nat×Nat×Int) sk h
  rw[if_neg c80]at h
  refine N_bd 78 (zQ c80)<| T_ed 5 [78] [(83,.bool false)]<| T_fz 83<| T_k ?_
  exact S_blockEnd<| S_then<| T_rz 26<| T_ed 2 [14,68,83] [(68,vi (zY (s68+1)))]<| S_round ((j,outN,outC,(zY (s68+1))):zW×Nat×Nat×Int) sk h
 rw[if_neg c69]at h
 exact T_cFz 69 (zQ c69)<| zj 4<| S_exitThen<| S_exitThen<| S_exitHere<| S_then<| T_srz 27<| T_nr 2 [4] [vs j outN outC] hQ h
end weak_Guards

/-! moraine/weak.Breaks -/
namespace weak_Breaks
def K0:=Func.code Tryz.f33
def K2:=cb K0
def K8:=cb K2
def K9:=ca K8
def K10:=ca K9
def K12:=cb K10
def K14:=cb K12
def K17:=ca K14
def K19:=ca K17
def K21:=cb K19
def K23:=cb K21
def K24:=ca K23
def K26:=cb K24
def K28:=cb K26
def K30:=cb K28
def K31:=ca K30
end weak_Breaks
def weak_Breaks.pt(tv:zW)(H:zV)(R:zk):Prop:=
 weak_ended.C tv H (λv H1=> ∃x:Bool,v=.bool x/\
 if x=true then(
 R (.tuple #[]) H1)
 else
 trace_Trace_Weaks.C tv H1 (λaq H2=> ∃(xB:zW) (xN xC:Nat),aq=.slice xB xN xC/\
 ∃(aa:zv) (m11:Int->zV->Nat),aa 0 H2/\ ∀(b:Int) (H3:zV),aa b H3->
 if b< (xN:Int)then(
 ∃f:Addr,xB=some f/\
 zw b xN/\
 ∃g:Int,hat H3 (f.add (Int.toNat b*1))=some (.int .i64 g)/\
 ∃d:Addr,tv=some d/\
 ∃ag:zW,hat H3 d=some (.pointer ag)/\
 ∃af:Addr,ag=some af/\
 ∃ak:zW,hat H3 af=some (.pointer ak)/\
 ∃ai:Addr,ak=some ai/\
 ∃ah:zW,hat H3 ai=some (.pointer ah)/\
 ∃aj:Addr,ah=some aj/\
 ∃ac:zW,hat H3 aj=some (.pointer ac)/\
 seg_Mem_Read.C ac g H3 (λau H4=> ∃ra rb:Int,au=.tuple #[.int .u64 ra,.int .i64 rb]/\
 trace_Trace_Old.C (some d) ra H4 (λay H5=> ∃o:Bool,ay=.bool o/\
 if o=true then(
 trace_Trace_Reached.C (some d) ra H5 (λav H6=> ∃q:Bool,av=.bool q/\
 if q=true then(
 ∃an:zW,hat H6 d=some (.pointer an)/\
 ∃n:Addr,an=some n/\
 ∃al:zW,hat H6 n=some (.pointer al)/\
 ∃l:Addr,al=some l/\
 ∃am:zW,hat H6 l=some (.pointer am)/\
 ∃j:Addr,am=some j/\
 ∃m:zW,hat H6 j=some (.pointer m)/\
 trace_Trace_Visit.C (some d) ra H6 (λaw H7=> ∃ae:Int,aw=.int .u64 ae/\RowAt H7 d 0 [.pointer (some n)]/\RowAt H7 n 0 [.pointer (some l)]/\RowAt H7 l 0 [.pointer (some j)]/\RowAt H7 j 0 [.pointer m]/\
 seg_Mem_Write.C m g ae H7 (λax H8=> ∃ap:Int,ax=.int .i64 ap/\
 (aa (zY (b+1)) H8/\m11 (zY (b+1)) H8<m11 b H3))))
 else
 ∃r:zW,hat H6 d=some (.pointer r)/\
 ∃y:Addr,r=some y/\
 ∃z:zW,hat H6 y=some (.pointer z)/\
 ∃ab:Addr,z=some ab/\
 ∃u:zW,hat H6 ab=some (.pointer u)/\
 ∃s:Addr,u=some s/\
 ∃p:zW,hat H6 s=some (.pointer p)/\
 seg_Mem_Write.C p g 44 H6 (λaz H9=> ∃ao:Int,az=.int .i64 ao/\
 (aa (zY (b+1)) H9/\m11 (zY (b+1)) H9<m11 b H3))))
 else
 (aa (zY (b+1)) H5/\m11 (zY (b+1)) H5<m11 b H3))))
 else
 R (.tuple #[]) H3))
namespace weak_Breaks
theorem link{tv:zW}{H:zV}{R:zk}(h:pt tv H R):C tv H R:=by
 refine T_en K0 76 Tryz.func33 ?_
 intro w0 Q hQ
 unfold pt zY at h
 refine T_su [(0,vp tv)]<| T_sz<| T_srz 0<| T_nd 1 [] [(6,vp tv)]<| T_c (some 7) h ?_;clear h
 rintro v H1 ⟨x,rfl,h⟩
 refine T_pd [6] [(7,.bool x)]<| T_e ?_
 by_cases c1:x=true
 ·rw[if_pos c1]at h
  exact T_cTz 7 c1<| T_ret [] [] hQ h
 rw[if_neg c1]at h
 refine T_cFz 7 (zZ c1)<| T_kt<| T_srz 1<| T_nd 1 [7] [(8,vp tv)]<| T_c (some 9) h ?_;clear h
 rintro aq H2 ⟨xB,xN,xC,rfl,h⟩
 refine T_pd [8] [(9,vs xB xN xC)]<| T_ed 2 [] [(10,vi xN),(11,vi 0)]<| T_bz 0 ?_
 obtain⟨aa,m11,i3,i4⟩:=h
 refine S_loop (x:=K10) (σ:=Int) (λs_=> [(0,vp tv),(9,vs xB xN xC),(10,vi xN),(11,vi s_)]) (λs_ H=>aa s_ H) (λs_ H=>m11 s_ H) (0:Int) (by kernel_rfl) i3 sk ?_
 rintro b H3 i5
 have h:=i4 b H3 i5
 refine T_su [(0,vp tv),(9,vs xB xN xC),(10,vi xN),(11,vi b)]<| T_srz 2<| T_ed 1 [] [(12,.bool (decide (b< (xN:Int))))]<| T_sz ?_
 by_cases c6:b< (xN:Int)
 ·rw[if_pos c6]at h
  refine T_cTz 12 (zX c6)<| T_kt<| T_sz<| T_bz 1<| T_srz 3<| T_ud [12] [] ?_
  obtain⟨f,rfl,q8,h⟩:=h
  refine T_xd (some 13) 67 3 1 f xN xC .i64 b Tryz.underlying67 q8.1 q8.2 [9] [(9,vs (some f) xN xC),(13,vp (some (f.add (Int.toNat b*1))))] ?_
  obtain⟨g,q9,h⟩:=h
  refine T_l1 14 3 q9 [13]<| T_ed 1 [14] [(3,vi g)]<| T_srz 4<| T_nd 1 [] [(16,vp tv)] ?_
  obtain⟨d,rfl,h⟩:=h
  refine T_nd 2 [0,16] [(0,vp (some d)),(18,vp (some d))] ?_
  obtain⟨ag,q10,h⟩:=h
  refine T_l1 19 22 q10 [18] ?_
  obtain⟨af,rfl,h⟩:=h
  refine T_nd 2 [19] [(21,vp (some af))] ?_
  obtain⟨ak,q11,h⟩:=h
  refine T_l1 22 26 q11 [21] ?_
  obtain⟨ai,rfl,h⟩:=h
  refine T_nd 2 [22] [(24,vp (some ai))] ?_
  obtain⟨ah,q12,h⟩:=h
  refine T_l1 25 39 q12 [24] ?_
  obtain⟨aj,rfl,h⟩:=h
  refine T_nd 2 [25] [(27,vp (some aj))] ?_
  obtain⟨ac,q13,h⟩:=h
  refine T_l1 28 69 q13 [27]<| T_nd 1 [] [(29,vi g)]<| T_c (some 30) h ?_;clear h
  rintro au H4 ⟨ra,rb,rfl,h⟩
  refine T_pd [28,29] [(30,.tuple #[vu ra,vi rb])]<| T_ed 5 [30] [(4,vu ra)]<| T_bz 2<| T_srz 6<| T_nd 2 [] [(49,vp (some d)),(50,vu ra)]<| T_c (some 51) h ?_;clear h
  rintro ay H5 ⟨o,rfl,h⟩
  refine T_pd [49,50] [(51,.bool o)]<| T_ed 2 [51] [(48,.bool (!o))] ?_
  by_cases c14:o=true
  ·rw[if_pos c14]at h
   refine T_cFz 48 (congrArg Bool.not (c14))<| T_srz 7<| T_nd 2 [48] [(54,vp (some d)),(55,vu ra)]<| T_c (some 56) h ?_;clear h
   rintro av H6 ⟨q,rfl,h⟩
   refine T_pd [54,55] [(56,.bool q)]<| T_ed 1 [56] [(53,.bool q)] ?_
   by_cases c16:q=true
   ·rw[if_pos c16]at h
    refine T_cTz 53 c16 ?_
    obtain⟨an,q18,n,rfl,al,q19,l,rfl,am,q20,j,rfl,m,q21,h⟩:=h
    refine yY 8 (Code.ops K31) [(17,d,[vp (some n)]),(17,n,[vp (some l)]),(17,l,[vp (some j)]),(17,j,[vp m])] 18 (bv 18 0) (show FactsAt _ _ _ from⟨⟨q18,trivial⟩,⟨q19,trivial⟩,⟨q20,trivial⟩,⟨q21,trivial⟩,trivial⟩)<| T_gp 0 (some 57) (vp (some d)) (bv 18 1) [(0,vp (some d)),(3,vi g),(4,vu ra),(9,vs (some f) xN xC),(10,vi xN),(11,vi b),(57,vp (some d))]<| T_gp1 1 58 (vp (some d)) (bv 18 3) [57]<| T_gp1 2 59 (vp (some d)) (bv 18 7) [58]<| T_g1 3 60 (vp (some n)) (bv 18 15) [59] (loadN 22 (vp (some d))) (yW 17 yZ)<| T_gp1 4 61 (vp (some n)) (bv 18 31) [60]<| T_gp1 5 62 (vp (some n)) (bv 18 63) [61]<| T_g1 6 63 (vp (some l)) (bv 18 127) [62] (loadN 26 (vp (some n))) (yW 17 yX)<| T_gp1 7 64 (vp (some l)) (bv 18 255) [63]<| T_gp1 8 65 (vp (some l)) (bv 18 511) [64]<| T_g1 9 66 (vp (some j)) (bv 18 1023) [65] (loadN 39 (vp (some l))) (yW 17 yQ)<| T_gp1 10 67 (vp (some j)) (bv 18 2047) [66]<| T_gp1 11 68 (vp (some j)) (bv 18 4095) [67]<| T_g1 12 69 (vp m) (bv 18 8191) [68] (loadN 69 (vp (some j))) (yW 17 yJ)<| T_gp1 13 70 (vi g) (bv 18 16383) [3]<| T_gp1 14 71 (vp (some d)) (bv 18 32767) []<| T_gp1 15 72 (vu ra) (bv 18 65535) [4]<| yq 16 (some 73) (bv 18 131071) 29 #[vp (some d),vu ra] h ?_;clear h
    rintro aw H7 ⟨ae,rfl,f22,f23,f24,f25,h⟩
    refine⟨[(0,vp (some d)),(9,vs (some f) xN xC),(10,vi xN),(11,vi b),(69,vp m),(70,vi g),(73,vu ae)],pk,(show FactsAt _ _ _ from⟨f22,f23,f24,f25,trivial⟩),?_⟩
    refine yq 17 (some 74) (bv 18 262143) 67 #[vp m,vi g,vu ae] h ?_;clear h
    rintro ax H8 ⟨ap,rfl,h⟩
    refine⟨[(0,vp (some d)),(9,vs (some f) xN xC),(10,vi xN),(11,vi b)],pk,(show FactsAt _ _ _ from⟨trivial,trivial,trivial,trivial,trivial⟩),?_⟩
    refine G_sub [(0,vp (some d)),(9,vs (some f) xN xC),(10,vi xN),(11,vi b)] sk ?_
    exact yx<| S_blockEnd<| S_blockEnd<| S_then<| T_rz 9<| T_ne 2 [(0,vp (some d)),(9,vs (some f) xN xC),(10,vi xN),(11,vi (zY (b+1)))]<| S_round ((zY (b+1)):Int) sk h
   rw[if_neg c16]at h
   refine T_cFz 53 (zZ c16)<| T_rz 5<| T_nd 3 [4,53] [(35,vp (some d))] ?_
   obtain⟨r,q26,h⟩:=h
   refine T_l1 36 22 q26 [35] ?_
   obtain⟨y,rfl,h⟩:=h
   refine T_nd 2 [36] [(38,vp (some y))] ?_
   obtain⟨z,q27,h⟩:=h
   refine T_l1 39 26 q27 [38] ?_
   obtain⟨ab,rfl,h⟩:=h
   refine T_nd 2 [39] [(41,vp (some ab))] ?_
   obtain⟨u,q28,h⟩:=h
   refine T_l1 42 39 q28 [41] ?_
   obtain⟨s,rfl,h⟩:=h
   refine T_nd 2 [42] [(44,vp (some s))] ?_
   obtain⟨p,q29,h⟩:=h
   refine T_l1 45 69 q29 [44]<| T_nd 1 [3] [(46,vi g)]<| T_c (some 47) h ?_;clear h
   rintro az H9 ⟨ao,rfl,h⟩
   exact T_pd [45,46] []<| zq<| S_blockEnd<| S_blockEnd<| S_then<| T_rz 9<| T_ed 2 [11] [(11,vi (zY (b+1)))]<| S_round ((zY (b+1)):Int) sk h
  rw[if_neg c14]at h
  exact T_cTz 48 (congrArg Bool.not (zZ c14))<| T_k<| S_blockEnd<| S_blockEnd<| S_then<| T_rz 9<| T_ed 2 [3,4,11,48] [(11,vi (zY (b+1)))]<| S_round ((zY (b+1)):Int) sk h
 rw[if_neg c6]at h
 exact T_cFz 12 (zQ c6)<| zj 0<| S_exitThen<| S_exitThen<| S_exitHere<| S_doneN (fn:=Tryz.f33) [] hQ (show ResOK _ _ _ [] _ from .nil) h
end weak_Breaks

/-! moraine/weak.Prune -/
namespace weak_Prune
def K0:=Func.code Tryz.f34
def K2:=cb K0
def K4:=cb K2
def K12:=cb K4
def K13:=ca K12
def K16:=cb K13
def K17:=ca K16
def K18:=ca K17
end weak_Prune
def weak_Prune.pt(tv lB:zW)(lN lC:Nat)(H:zV)(R:zk):Prop:=
 weak_ended.C tv H (λv H1=> ∃x:Bool,v=.bool x/\
 if x=true then(
 slices_Clone_api_Word_api_Word.C lB lN lC H1 (λo H2=> ∃(xB:zW) (xN xC:Nat),o=.slice xB xN xC/\
 R (.slice xB xN xC) H2))
 else
 ∃(m:zW->Nat->Nat->zv) (m19:zW->Nat->Nat->Int->zV->Nat),m none 0 0 0 H1/\ ∀(d:zW) (outN:Nat) (outC:Nat) (s14:Int) (H3:zV),m d outN outC s14 H3->
 if s14< (lN:Int)then(
 ∃f:Addr,lB=some f/\
 zw s14 lN/\
 ∃g:Int,hat H3 (f.add (Int.toNat s14*1))=some (.int .u64 g)/\
 trace_Trace_Reached.C tv g H3 (λp H4=> ∃j:Bool,p=.bool j/\
 if j=true then(
 trace_Trace_Visit.C tv g H4 (λq H5=> ∃n:Int,q=.int .u64 n/\
 ∀(b:Nat) (H6:zV),b=H5.size->H6=H5.push (.cells #[.int .u64 n] 24)->
 appendK 1 24 8 [.int .u64 0] d outN outC (some (ad b)) 1 H6 (λap l H7=>
 (m ap (outN+1) l (zY (s14+1)) H7/\m19 ap (outN+1) l (zY (s14+1)) H7<m19 d outN outC s14 H3))))
 else
 (m d outN outC (zY (s14+1)) H4/\m19 d outN outC (zY (s14+1)) H4<m19 d outN outC s14 H3)))
 else
 R (.slice d outN outC) H3)
namespace weak_Prune
theorem link{tv lB:zW}{lN lC:Nat}{H:zV}{R:zk}(h:pt tv lB lN lC H R):C tv lB lN lC H R:=by
 refine T_en K0 29 Tryz.func34 ?_
 intro w0 Q hQ
 unfold pt zY at h
 refine T_su [(0,vp tv),(1,vs lB lN lC)]<| T_srz 0<| T_ed 1 [] []<| T_sz<| T_srz 1<| T_nd 1 [] [(8,vp tv)]<| T_c (some 9) h ?_;clear h
 rintro v H1 ⟨x,rfl,h⟩
 refine T_pd [8] [(9,.bool x)]<| T_e ?_
 by_cases c1:x=true
 ·rw[if_pos c1]at h
  refine T_cTz 9 c1<| T_srz 2<| T_n 1 [(10,vs lB lN lC)]<| T_c (some 11) h ?_;clear h
  rintro o H2 ⟨xB,xN,xC,rfl,h⟩
  refine⟨[(11,vs xB xN xC)],pk,?_⟩
  exact T_nr 1 [4] [vs xB xN xC] hQ h
 rw[if_neg c1]at h
 refine T_cFz 9 (zZ c1)<| T_kt<| T_srz 3<| T_ed 1 [9] [(5,vs none 0 0)]<| T_sz<| T_srz 4<| T_ed 3 [1] [(12,vs lB lN lC),(13,vi lN),(14,vi 0)]<| T_bz 0 ?_
 obtain⟨m,m19,i3,i4⟩:=h
 refine S_loop (x:=K18) (σ:=zW×Nat×Nat×Int) (λs_=> [(0,vp tv),(5,vs s_.1 s_.2.1 s_.2.2.1),(12,vs lB lN lC),(13,vi lN),(14,vi s_.2.2.2)]) (λs_ H=>m s_.1 s_.2.1 s_.2.2.1 s_.2.2.2 H) (λs_ H=>m19 s_.1 s_.2.1 s_.2.2.1 s_.2.2.2 H) ((none,0,0,0):zW×Nat×Nat×Int) (by kernel_rfl) i3 sk ?_
 rintro⟨d,outN,outC,s14⟩ H3 i5
 have h:=i4 d outN outC s14 H3 i5
 refine T_su [(0,vp tv),(5,vs d outN outC),(12,vs lB lN lC),(13,vi lN),(14,vi s14)]<| T_srz 5<| T_ed 1 [] [(15,.bool (decide (s14< (lN:Int))))]<| T_sz ?_
 by_cases c6:s14< (lN:Int)
 ·rw[if_pos c6]at h
  refine T_cTz 15 (zX c6)<| T_kt<| T_sz<| T_bz 1<| T_srz 6<| T_ud [15] [] ?_
  obtain⟨f,rfl,q8,h⟩:=h
  refine T_xd (some 16) 27 24 1 f lN lC .i64 s14 Tryz.underlying27 q8.1 q8.2 [12] [(12,vs (some f) lN lC),(16,vp (some (f.add (Int.toNat s14*1))))] ?_
  obtain⟨g,q9,h⟩:=h
  refine T_l1 17 24 q9 [16]<| T_ed 1 [17] [(7,vu g)]<| T_srz 7<| T_nd 2 [] [(18,vp tv),(19,vu g)]<| T_c (some 20) h ?_;clear h
  rintro p H4 ⟨j,rfl,h⟩
  refine T_pd [18,19] [(20,.bool j)]<| T_e ?_
  by_cases c10:j=true
  ·rw[if_pos c10]at h
   refine T_cTz 20 c10<| T_rz 8<| T_nd 3 [5,7,20] [(21,vs d outN outC),(22,vp tv),(23,vu g)]<| T_c (some 24) h ?_;clear h
   rintro q H5 ⟨n,rfl,h⟩
   refine T_pd [22,23] [(24,vu n)]<| T_nw (some 25) (λb=>vs (pa b) 1 1) (.cells #[vu n] 24) ?_
   intro b H6 e12 e13
   replace h:=h b H6 e12 e13
   refine T_pd [24] [(25,vs (pa b) 1 1)]<| N_op (some 26) (appendN #[27,27] 27 #[vs d outN outC,vs (pa b) 1 1]) _ (λ_=>by kernel_rfl) (ss_append (T:=24) (sz:=1) (bytes:=8) (zero:=(vu 0:Value)) Tryz.underlying27 Tryz.underlying27 rfl (show Tryz.prog.info? 24=some Tryz.t24 from by kernel_rfl) (by kernel_rfl) (by kernel_rfl) (by decide) (by kernel_rfl) (by first | exact h | (simpa only[Value.cells,List.toList_toArray]using h))) ?_;clear h
   rintro _ H7 ⟨ap,l,rfl,h⟩
   exact T_pd [21,25] [(26,vs ap (outN+1) l)]<| T_nd 1 [26] [(5,vs ap (outN+1) l)]<| zq<| S_blockEnd<| S_then<| T_rz 9<| T_ed 2 [14] [(14,vi (zY (s14+1)))]<| S_round ((ap,(outN+1),l,(zY (s14+1))):zW×Nat×Nat×Int) sk h
  rw[if_neg c10]at h
  exact T_cFz 20 (zZ c10)<| T_k<| S_blockEnd<| S_then<| T_rz 9<| T_ed 2 [7,14,20] [(14,vi (zY (s14+1)))]<| S_round ((d,outN,outC,(zY (s14+1))):zW×Nat×Nat×Int) sk h
 rw[if_neg c6]at h
 exact T_cFz 15 (zQ c6)<| zj 0<| S_exitThen<| S_exitThen<| S_exitHere<| S_then<| T_srz 10<| T_nr 2 [4] [vs d outN outC] hQ h
end weak_Prune

/-! moraine/weak.ended -/
namespace weak_ended
def K0:=Func.code Tryz.f71
end weak_ended
def weak_ended.pt(tv:zW)(H:zV)(R:zk):Prop:=
 onPtr tv (
 R (.bool true) H) (λa=>
 trace_Trace_Ended.C (some a) H (λv H1=> ∃x:Bool,v=.bool x/\
 R (.bool x) H1))
namespace weak_ended
theorem link{tv:zW}{H:zV}{R:zk}(h:pt tv H R):C tv H R:=by
 refine T_en K0 9 Tryz.func71 ?_
 intro w0 Q hQ
 unfold pt at h
 refine T_su [(0,vp tv)]<| T_srz 0<| T_ed 1 [] []<| T_srz 1<| T_nd 1 [] [(3,vp tv)] ?_
 rcases tv with _ | a
 ·rw[onPtr_none]at h
  exact T_nr 6 [2] [.bool true] hQ h
 rw[onPtr_some]at h
 refine T_n 3 [(5,.bool false),(6,vp (some a))]<| T_c (some 7) h ?_;clear h
 rintro v H1 ⟨x,rfl,h⟩
 exact T_pd [6] [(7,.bool x)]<| T_nr 2 [2] [.bool x] hQ h
end weak_ended

/-! moraine/weak.Guards.1 -/
