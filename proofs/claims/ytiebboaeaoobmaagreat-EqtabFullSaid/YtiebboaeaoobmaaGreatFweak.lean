/- Printed: what each function asks, and that it is sound. -/
import Derived.Test.YtiebboaeaoobmaaGreatFnsC
set_option linter.unusedSimpArgs false
set_option linter.unusedVariables false
set_option maxRecDepth 100000
set_option maxHeartbeats 1000000
noncomputable section
namespace Go.Proofs.YtiebboaeaoobmaaGreat
open Go
/-! moraine/weak.Guards -/
namespace fT
def K0:=Func.code Tryz.f79
def K2:=cb K0
def K3:=ca K2
def K5:=cb K3
def K13:=cb K5
def K14:=ca K13
def K15:=cb K13
def K17:=cb K14
def K18:=ca K17
def K19:=ca K18
def K36:=cb K15
def K38:=cb K36
def K39:=ca K38
def K40:=cb K38
def K42:=cb K39
def K43:=ca K42
def K44:=ca K43
def K46:=cb K44
def K48:=cb K46
def K51:=ca K48
def K53:=ca K51
def K55:=cb K53
def K57:=cb K55
def K58:=ca K57
def K61:=cb K58
def K63:=cb K61
def K64:=ca K63
def K69:=cb K40
def K70:=ca K69
def K73:=cb K70
def K74:=ca K73
def K75:=ca K74
def K77:=cb K75
def K79:=cb K77
def K82:=ca K79
def K84:=ca K82
def K86:=cb K84
def K88:=cb K86
def K89:=ca K88
end fT
def fT.pt(tv lB:zW)(lN lC:Nat)(H:zV)(R:zk):Prop:=
 ∀(b:Nat) (H1:zV),b=H.size->H1=H.push (.cells #[.pointer tv] 125)->
 ∀(g:Nat) (H2:zV),g=H1.size->H2=H1.push (.cells #[.slice lB lN lC] 85)->
 ∃x:zW,hat H2 (ad b)=some (.pointer x)/\
 fK.C x H2 (λv H3=> ∃bs:Bool,v=.bool bs/\
 if bs=true then(
 ∃(xB:zW) (xN xC:Nat),hat H3 (ad g)=some (.slice xB xN xC)/\
 ir.C xB xN xC H3 (λcr H4=> ∃(bk:zW) (bl bj:Nat),cr=.slice bk bl bj/\
 R (.slice bk bl bj) H4))
 else
 ∃(b8:zW) (z b6:Nat),hat H3 (ad g)=some (.slice b8 z b6)/\
 0<=(z:Int)/\(z:Int)<=(z:Int)/\8*(z:Int)<=2 ^ 48/\(z:Int)<=9223372036854775807/\
 ∀(bg:Nat) (H5:zV),bg=H3.size->H5=H3.push (.cells (Builtin.zeroCells #[.int .i64 0] (Int.toNat (z:Int))) 3)->
 ∀(f:Nat) (H6:zV),f=H5.size->H6=H5.push (.cells #[.slice none 0 0] 60)->
 (aJ H6 (ad f) 0 1)/\ ∀H7,H7=aP H6 (ad f) [.slice (some (ad bg)) (Int.toNat (z:Int)) (Int.toNat (z:Int))] 0->
 ∃(al:zW) (l s:Nat),hat H7 (ad g)=some (.slice al l s)/\
 ∃(b2:zv) (m20:Int->zV->Nat),b2 0 H7/\ ∀(m:Int) (H8:zV),b2 m H8->
 if m< (l:Int)then(
 ∃aa:Addr,al=some aa/\
 zw m l/\
 ∃ay ac:Int,aL H8 (aa.add (Int.toNat m*2)) 0 [.int .u64 ay,.int .u64 ac]/\
 ∀(ao:Nat) (H9:zV),ao=H8.size->H9=H8.push (.cells #[.int .u64 0,.int .u64 0] 171)->
 (aJ H9 (ad ao) 0 2)/\ ∀b4,b4=aP H9 (ad ao) [.int .u64 ay,.int .u64 ac] 0->
 ∃br:zW,hat b4 (ad b)=some (.pointer br)/\
 ∃b3:Int,hat b4 (ad ao)=some (.int .u64 b3)/\
 bP.C br b3 b4 (λcn bw=> ∃bb:Bool,cn=.bool bb/\
 if bb=true then(
 (b2 (zY (m+1)) bw/\m20 (zY (m+1)) bw<m20 m H8))
 else
 ∃(bo:zW) (a8 bd:Nat),hat bw (ad f)=some (.slice bo a8 bd)/\
 ∃aw:Addr,bo=some aw/\
 zw m a8/\
 (aJ bw (aw.add (Int.toNat m*1)) 0 1)/\ ∀b9,b9=aP bw (aw.add (Int.toNat m*1)) [.int .i64 1] 0->
 (b2 (zY (m+1)) b9/\m20 (zY (m+1)) b9<m20 m H8)))
 else
 ∃(aj:zW) (o ae:Nat),hat H8 (ad g)=some (.slice aj o ae)/\
 ∃(cd:zv) (m45:Int->zV->Nat),cd 0 H8/\ ∀(p:Int) (H13:zV),cd p H13->
 if p< (o:Int)then(
 ∃af:Addr,aj=some af/\
 zw p o/\
 ∃ah y:Int,aL H13 (af.add (Int.toNat p*2)) 0 [.int .u64 ah,.int .u64 y]/\
 ∀(ab:Nat) (H14:zV),ab=H13.size->H14=H13.push (.cells #[.int .u64 0,.int .u64 0] 171)->
 (aJ H14 (ad ab) 0 2)/\ ∀cg,cg=aP H14 (ad ab) [.int .u64 ah,.int .u64 y] 0->
 mX.C p (some (ad f)) (some (ad b)) (some (ad g)) cg (λco bz=> ∃bx:Bool,co=.bool bx/\
 if bx=true then(
 ∃(bn:zW) (a4 be:Nat),hat bz (ad f)=some (.slice bn a4 be)/\
 ∃ax:Addr,bn=some ax/\
 zw p a4/\
 (aJ bz (ax.add (Int.toNat p*1)) 0 1)/\ ∀b0,b0=aP bz (ax.add (Int.toNat p*1)) [.int .i64 2] 0->
 ∃bp:zW,hat b0 (ad b)=some (.pointer bp)/\
 ∃b1:Int,hat b0 (ad ab)=some (.int .u64 b1)/\
 bB.C bp b1 b0 (λcs cc=> ∃aq:Int,cs=.int .u64 aq/\
 ∃ai:zW,hat cc (ad b)=some (.pointer ai)/\
 ∃au:zW,hat cc (ad b)=some (.pointer au)/\
 ∃a3:Int,hat cc ((ad ab).add 1)=some (.int .u64 a3)/\
 bB.C au a3 cc (λcp cj=> ∃bt:Int,cp=.int .u64 bt/\aL cj (ad b) 0 [.pointer ai]/\
 qA.C ai bt aq cj (λ_ ck=>
 ∃bh:zW,hat ck (ad b)=some (.pointer bh)/\
 cP.C bh ck (λ_ ct=>
 False)))))
 else
 (cd (zY (p+1)) bz/\m45 (zY (p+1)) bz<m45 p H13)))
 else
 ∃(am:zW) (d n:Nat),hat H13 (ad g)=some (.slice am d n)/\
 ∃(bu:zW->Nat->Nat->zv) (m76:zW->Nat->Nat->Int->zV->Nat),bu none 0 0 0 H13/\ ∀(j:zW) (outN:Nat) (outC:Nat) (s68:Int) (H22:zV),bu j outN outC s68 H22->
 if s68< (d:Int)then(
 ∃q:Addr,am=some q/\
 zw s68 d/\
 ∃ag u:Int,aL H22 (q.add (Int.toNat s68*2)) 0 [.int .u64 ag,.int .u64 u]/\
 ∀(r:Nat) (H23:zV),r=H22.size->H23=H22.push (.cells #[.int .u64 0,.int .u64 0] 171)->
 (aJ H23 (ad r) 0 2)/\ ∀bc,bc=aP H23 (ad r) [.int .u64 ag,.int .u64 u] 0->
 ∃(bm:zW) (a9 bf:Nat),hat bc (ad f)=some (.slice bm a9 bf)/\
 ∃a2:Addr,bm=some a2/\
 zw s68 a9/\
 ∃az:Int,hat bc (a2.add (Int.toNat s68*1))=some (.int .i64 az)/\
 if az<2 then(
 ∃a6:zW,hat bc (ad b)=some (.pointer a6)/\
 ∃bi:Int,hat bc ((ad r).add 1)=some (.int .u64 bi)/\
 bP.C a6 bi bc (λcq bq=> ∃a5:Bool,cq=.bool a5/\
 if a5=true then(
 ∃ak:zW,hat bq (ad b)=some (.pointer ak)/\
 ∃av:Int,hat bq (ad r)=some (.int .u64 av)/\
 ∃an:zW,hat bq (ad b)=some (.pointer an)/\
 ∃a0:Int,hat bq ((ad r).add 1)=some (.int .u64 a0)/\
 bB.C ak av bq (λcm ce=> ∃a1:Int,cm=.int .u64 a1/\aL ce (ad b) 0 [.pointer an]/\aL ce ((ad r).add 1) 0 [.int .u64 a0]/\
 bB.C an a0 ce (λcl ch=> ∃a7:Int,cl=.int .u64 a7/\
 ∀(b5:Nat) (H28:zV),b5=ch.size->H28=ch.push (.cells #[.int .u64 a1,.int .u64 a7] 171)->
 fN 2 171 16 [.int .u64 0,.int .u64 0] j outN outC (some (ad b5)) 1 H28 (λap ba ci=>
 (bu ap (outN+1) ba (zY (s68+1)) ci/\m76 ap (outN+1) ba (zY (s68+1)) ci<m76 j outN outC s68 H22)))))
 else
 (bu j outN outC (zY (s68+1)) bq/\m76 j outN outC (zY (s68+1)) bq<m76 j outN outC s68 H22)))
 else
 (bu j outN outC (zY (s68+1)) bc/\m76 j outN outC (zY (s68+1)) bc<m76 j outN outC s68 H22))
 else
 R (.slice j outN outC) H22)
namespace fT
theorem link{tv lB:zW}{lN lC:Nat}{H:zV}{R:zk}(h:pt tv lB lN lC H R):C tv lB lN lC H R:=by
 refine T_en K0 98 Tryz.func79 ?_
 intro w0 Q hQ
 unfold pt zY at h
 refine T_su [(0,vp tv),(1,vs lB lN lC)]<| ar 0<| T_nw (some 2) (λb=>vp (pa b)) (.cells #[vp tv] 125) ?_
 intro b H1 e1 e2
 replace h:=h b H1 e1 e2
 refine T_pd [0] [(2,vp (pa b))]<| T_nw (some 3) (λb=>vp (pa b)) (.cells #[vs lB lN lC] 85) ?_
 intro g H2 e3 e4
 replace h:=h g H2 e3 e4
 refine T_pd [1] [(3,vp (pa g))]<| T_ed 1 [] []<| sE K3 (by kernel_rfl)<| T_sz<| ar 1 ?_
 obtain⟨x,q5,h⟩:=h
 refine T_l1 15 125 q5 []<| T_c (some 16) h ?_;clear h
 rintro v H3 ⟨bs,rfl,h⟩
 refine T_pd [15] [(16,.bool bs)]<| T_e ?_
 by_cases c6:bs=true
 ·rw[if_pos c6]at h
  refine aH 16 c6<| ar 2<| T_ud [2,16] [] ?_
  obtain⟨xB,xN,xC,q8,h⟩:=h
  refine T_l1 17 85 q8 [3]<| T_c (some 18) h ?_;clear h
  rintro cr H4 ⟨bk,bl,bj,rfl,h⟩
  refine⟨[(18,vs bk bl bj)],pk,?_⟩
  exact T_nr 1 [4] [vs bk bl bj] hQ h
 rw[if_neg c6]at h
 refine aI 16 (zZ c6)<| T_kt<| ar 3<| T_ud [16] [] ?_
 obtain⟨b8,z,b6,q9,h⟩:=h
 refine T_l1 19 85 q9 []<| T_nd 1 [19] [(20,vi z)] ?_
 obtain⟨q10,q11,q12,q13,h⟩:=h
 refine N_op (some 21) (jd 60 (vi z) (vi z)) (λv Hz=>v=Value.slice (some (Addr.mk H3.size 0 none)) (Int.toNat (z:Int)) (Int.toNat (z:Int))/\Hz=H3.push (.cells (Builtin.zeroCells #[vi 0] (Int.toNat (z:Int))) 3)) (λ_=>by kernel_rfl) (nP (T:=3) (zero:=vi 0) Tryz.underlying60 (show Tryz.prog.info? 3=some Tryz.t3 from by kernel_rfl) (by kernel_rfl) q10 q11 q12 q13 (by kernel_rfl) (by decide)) ?_
 rintro _ H5 ⟨rfl,e15⟩
 obtain⟨bg,e14⟩: ∃b,b=H3.size:=⟨_,rfl⟩
 replace h:=h bg H5 e14 e15
 rw[<-e14]
 refine T_pd [20] [(21,vs (pa bg) (Int.toNat (z:Int)) (Int.toNat (z:Int)))]<| T_nw (some 5) (λb=>vp (pa b)) (.cells #[vs none 0 0] 60) ?_
 intro f H6 e16 e17
 replace h:=h f H6 e16 e17
 refine T_pd [] [(5,vp (pa f))] ?_
 obtain⟨q19,h⟩:=h
 refine dV 60 (vs (pa bg) (Int.toNat (z:Int)) (Int.toNat (z:Int))) q19 ?_
 intro H7 e18
 replace h:=h H7 e18
 refine T_pd [21] []<| T_e<| T_sz<| ar 4 ?_
 obtain⟨al,l,s,q20,h⟩:=h
 refine T_l1 22 85 q20 []<| T_ed 2 [] [(23,vi l),(24,vi 0)]<| T_bz 0 ?_
 obtain⟨b2,m20,i21,i22⟩:=h
 refine cu (x:=K19) (σ:=Int) (λs_=> [(2,vp (pa b)),(3,vp (pa g)),(5,vp (pa f)),(22,vs al l s),(23,vi l),(24,vi s_)]) (λs_ H=>b2 s_ H) (λs_ H=>m20 s_ H) (0:Int) (by kernel_rfl) i21 sk ?_
 rintro m H8 i23
 have h:=i22 m H8 i23
 refine T_su [(2,vp (pa b)),(3,vp (pa g)),(5,vp (pa f)),(22,vs al l s),(23,vi l),(24,vi m)]<| ar 5<| T_ed 1 [] [(25,.bool (decide (m< (l:Int))))]<| T_sz ?_
 by_cases c24:m< (l:Int)
 ·rw[if_pos c24]at h
  refine aH 25 (zX c24)<| T_kt<| T_sz<| T_bz 1<| ar 6<| T_nd 1 [25] [(26,vi m)] ?_
  obtain⟨aa,rfl,q26,h⟩:=h
  refine T_xd (some 27) 85 171 2 aa l s .i64 m Tryz.underlying85 q26.1 q26.2 [22] [(22,vs (some aa) l s),(27,vp (some (aa.add (Int.toNat m*2))))] ?_
  obtain⟨ay,ac,q27,h⟩:=h
  refine T_lr 28 171 q27 [27]<| T_nw (some 7) (λb=>vp (pa b)) (.cells #[vu 0,vu 0] 171) ?_
  intro ao H9 e28 e29
  replace h:=h ao H9 e28 e29
  refine T_pd [] [(7,vp (pa ao))]<| T_nd 1 [26] [(6,vi m)] ?_
  obtain⟨q31,h⟩:=h
  refine fm 171 [vu ay,vu ac] q31 ?_
  intro b4 e30
  replace h:=h b4 e30
  refine T_pd [28] []<| T_e<| ar 7 ?_
  obtain⟨br,q32,h⟩:=h
  refine T_l1 29 125 q32 []<| T_nd 1 [7] [(30,vp (pa ao))] ?_
  obtain⟨b3,q33,h⟩:=h
  refine T_l1 31 31 q33 [30]<| T_c (some 32) h ?_;clear h
  rintro cn bw ⟨bb,rfl,h⟩
  refine T_pd [29,31] [(32,.bool bb)]<| T_ed 1 [32] [(33,.bool (!bb))] ?_
  by_cases c34:bb=true
  ·rw[if_pos c34]at h
   exact aI 33 (congrArg Bool.not (c34))<| T_k<| aC<| aB<| T_rz 9<| T_ed 2 [6,24,33] [(24,vi (zY (m+1)))]<| aQ ((zY (m+1)):Int) sk h
  rw[if_neg c34]at h
  refine aH 33 (congrArg Bool.not (zZ c34))<| T_rz 8<| T_ud [33] [] ?_
  obtain⟨bo,a8,bd,q36,h⟩:=h
  refine T_l1 34 60 q36 []<| T_nd 1 [6] [(35,vi m)] ?_
  obtain⟨aw,rfl,q37,h⟩:=h
  refine T_xd (some 36) 60 3 1 aw a8 bd .i64 m Tryz.underlying60 q37.1 q37.2 [34,35] [(36,vp (some (aw.add (Int.toNat m*1))))] ?_
  obtain⟨q39,h⟩:=h
  refine dV 3 (vi 1) q39 ?_
  intro b9 e38
  replace h:=h b9 e38
  exact T_pd [36] []<| zq<| aC<| aB<| T_rz 9<| T_ed 2 [24] [(24,vi (zY (m+1)))]<| aQ ((zY (m+1)):Int) sk h
 rw[if_neg c24]at h
 refine aI 25 (zQ c24)<| zj 0<| aA<| aA<| aN<| aB<| ar 10<| T_ed 2 [22,23,24,25] [(8,.func (.func 118) #[] #[vp (pa f),vp (pa b),vp (pa g)])]<| T_sz<| sF 0 (by kernel_rfl)<| aB<| T_sz<| ar 11 ?_
 obtain⟨aj,o,ae,q40,h⟩:=h
 refine T_l1 39 85 q40 []<| T_ed 2 [] [(40,vi o),(41,vi 0)]<| T_bz 2 ?_
 obtain⟨cd,m45,i41,i42⟩:=h
 refine cu (x:=K44) (σ:=Int) (λs_=> [(2,vp (pa b)),(3,vp (pa g)),(5,vp (pa f)),(8,.func (.func 118) #[] #[vp (pa f),vp (pa b),vp (pa g)]),(39,vs aj o ae),(40,vi o),(41,vi s_)]) (λs_ H=>cd s_ H) (λs_ H=>m45 s_ H) (0:Int) (by kernel_rfl) i41 sk ?_
 rintro p H13 i43
 have h:=i42 p H13 i43
 refine T_su [(2,vp (pa b)),(3,vp (pa g)),(5,vp (pa f)),(8,.func (.func 118) #[] #[vp (pa f),vp (pa b),vp (pa g)]),(39,vs aj o ae),(40,vi o),(41,vi p)]<| ar 12<| T_ed 1 [] [(42,.bool (decide (p< (o:Int))))]<| T_sz ?_
 by_cases c44:p< (o:Int)
 ·rw[if_pos c44]at h
  refine aH 42 (zX c44)<| T_kt<| T_sz<| T_bz 3<| ar 13<| T_nd 1 [42] [(43,vi p)] ?_
  obtain⟨af,rfl,q46,h⟩:=h
  refine T_xd (some 44) 85 171 2 af o ae .i64 p Tryz.underlying85 q46.1 q46.2 [39] [(39,vs (some af) o ae),(44,vp (some (af.add (Int.toNat p*2))))] ?_
  obtain⟨ah,y,q47,h⟩:=h
  refine T_lr 45 171 q47 [44]<| T_nw (some 10) (λb=>vp (pa b)) (.cells #[vu 0,vu 0] 171) ?_
  intro ab H14 e48 e49
  replace h:=h ab H14 e48 e49
  refine T_pd [] [(10,vp (pa ab))]<| T_nd 1 [43] [(9,vi p)] ?_
  obtain⟨q51,h⟩:=h
  refine fm 171 [vu ah,vu y] q51 ?_
  intro cg e50
  replace h:=h cg e50
  refine T_pd [45] []<| T_e<| ar 14<| T_nd 2 [] [(46,.func (.func 118) #[] #[vp (pa f),vp (pa b),vp (pa g)]),(47,vi p)]<| T_c (some 48) h ?_;clear h
  rintro co bz ⟨bx,rfl,h⟩
  refine T_pd [46,47] [(48,.bool bx)]<| T_e ?_
  by_cases c52:bx=true
  ·rw[if_pos c52]at h
   refine aH 48 c52<| ar 15<| T_ud [3,8,39,40,41,48] [] ?_
   obtain⟨bn,a4,be,q54,h⟩:=h
   refine T_l1 49 60 q54 [5]<| T_nd 1 [9] [(50,vi p)] ?_
   obtain⟨ax,rfl,q55,h⟩:=h
   refine T_xd (some 51) 60 3 1 ax a4 be .i64 p Tryz.underlying60 q55.1 q55.2 [49,50] [(51,vp (some (ax.add (Int.toNat p*1))))] ?_
   obtain⟨q57,h⟩:=h
   refine dV 3 (vi 2) q57 ?_
   intro b0 e56
   replace h:=h b0 e56
   refine T_pd [51] []<| T_e<| ar 16 ?_
   obtain⟨bp,q58,h⟩:=h
   refine T_l1 52 125 q58 []<| T_nd 1 [] [(53,vp (pa ab))] ?_
   obtain⟨b1,q59,h⟩:=h
   refine T_l1 54 31 q59 [53]<| T_c (some 55) h ?_;clear h
   rintro cs cc ⟨aq,rfl,h⟩
   refine T_pd [52,54] [(55,vu aq)]<| T_ed 1 [55] [(11,vu aq)]<| T_sz ?_
   obtain⟨ai,q60,au,q61,a3,q62,h⟩:=h
   refine yz 17 (Code.ops K64) [(6,(ad b),[vp ai]),(4,(ad b),[vp au]),(4,((ad ab).add 1),[vu a3])] 7 (bv 7 0) (show aE _ _ _ from⟨⟨q60,trivial⟩,⟨q61,trivial⟩,⟨q62,trivial⟩,trivial⟩)<| T_g 0 (some 56) (vp ai) (bv 7 1) [(2,vp (pa b)),(10,vp (pa ab)),(11,vu aq),(56,vp ai)] (aM 125 (vp (pa b))) (yx 6 yZ)<| T_g1 1 57 (vp au) (bv 7 3) [] (aM 125 (vp (pa b))) (yx 4 yX)<| aD 2 58 (vp (some ((ad ab).add 1))) (bv 7 7) [10]<| T_g1 3 59 (vu a3) (bv 7 15) [58] (aM 31 (vp (some ((ad ab).add 1)))) (yx 4 yQ)<| aD 5 61 (vu aq) (bv 7 47) [11]<| yj 4 (some 60) (bv 7 63) 76 #[vp au,vu a3] h ?_;clear h
   rintro cp cj ⟨bt,rfl,f63,h⟩
   refine⟨[(2,vp (pa b)),(56,vp ai),(60,vu bt),(61,vu aq)],pk,(show aE _ _ _ from⟨f63,trivial,trivial,trivial⟩),?_⟩
   refine yj 6 (some 62) (bv 7 127) 119 #[vp ai,vu bt,vu aq] h ?_;clear h
   intro v_7 ck h
   refine⟨[(2,vp (pa b))],pk,(show aE _ _ _ from⟨trivial,trivial,trivial,trivial⟩),?_⟩
   refine dp [(2,vp (pa b))] sk ?_
   refine yv<| aB<| ar 18 ?_
   obtain⟨bh,q64,h⟩:=h
   refine T_l (some 63) 125 q64 [(63,vp bh)]<| T_c (some 64) h ?_;clear h
   intro v_8 ct h
   refine⟨[],pk,?_⟩
   refine T_e ?_
   exact h.elim
  rw[if_neg c52]at h
  exact aI 48 (zZ c52)<| T_k<| aC<| aB<| T_rz 19<| T_ed 2 [9,10,41,48] [(41,vi (zY (p+1)))]<| aQ ((zY (p+1)):Int) sk h
 rw[if_neg c44]at h
 refine aI 42 (zQ c44)<| zj 2<| aA<| aA<| aN<| aB<| ar 20<| T_ed 1 [8,39,40,41,42] [(12,vs none 0 0)]<| T_sz<| ar 21 ?_
 obtain⟨am,d,n,q65,h⟩:=h
 refine T_l1 66 85 q65 [3]<| T_ed 2 [] [(67,vi d),(68,vi 0)]<| T_bz 4 ?_
 obtain⟨bu,m76,i66,i67⟩:=h
 refine cu (x:=K75) (σ:=zW×Nat×Nat×Int) (λs_=> [(2,vp (pa b)),(5,vp (pa f)),(12,vs s_.1 s_.2.1 s_.2.2.1),(66,vs am d n),(67,vi d),(68,vi s_.2.2.2)]) (λs_ H=>bu s_.1 s_.2.1 s_.2.2.1 s_.2.2.2 H) (λs_ H=>m76 s_.1 s_.2.1 s_.2.2.1 s_.2.2.2 H) ((none,0,0,0):zW×Nat×Nat×Int) (by kernel_rfl) i66 sk ?_
 rintro⟨j,outN,outC,s68⟩ H22 i68
 have h:=i67 j outN outC s68 H22 i68
 refine T_su [(2,vp (pa b)),(5,vp (pa f)),(12,vs j outN outC),(66,vs am d n),(67,vi d),(68,vi s68)]<| ar 22<| T_ed 1 [] [(69,.bool (decide (s68< (d:Int))))]<| T_sz ?_
 by_cases c69:s68< (d:Int)
 ·rw[if_pos c69]at h
  refine aH 69 (zX c69)<| T_kt<| T_sz<| T_bz 5<| ar 23<| T_nd 1 [69] [(70,vi s68)] ?_
  obtain⟨q,rfl,q71,h⟩:=h
  refine T_xd (some 71) 85 171 2 q d n .i64 s68 Tryz.underlying85 q71.1 q71.2 [66] [(66,vs (some q) d n),(71,vp (some (q.add (Int.toNat s68*2))))] ?_
  obtain⟨ag,u,q72,h⟩:=h
  refine T_lr 72 171 q72 [71]<| T_nw (some 14) (λb=>vp (pa b)) (.cells #[vu 0,vu 0] 171) ?_
  intro r H23 e73 e74
  replace h:=h r H23 e73 e74
  refine T_pd [] [(14,vp (pa r))]<| T_nd 1 [70] [(13,vi s68)] ?_
  obtain⟨q76,h⟩:=h
  refine fm 171 [vu ag,vu u] q76 ?_
  intro bc e75
  replace h:=h bc e75
  refine T_pd [72] []<| T_e<| ar 24 ?_
  obtain⟨bm,a9,bf,q77,h⟩:=h
  refine T_l1 73 60 q77 []<| T_nd 1 [13] [(74,vi s68)] ?_
  obtain⟨a2,rfl,q78,h⟩:=h
  refine T_xd (some 75) 60 3 1 a2 a9 bf .i64 s68 Tryz.underlying60 q78.1 q78.2 [73,74] [(75,vp (some (a2.add (Int.toNat s68*1))))] ?_
  obtain⟨az,q79,h⟩:=h
  refine T_l1 76 3 q79 [75]<| T_nd 2 [76] [(78,.bool (decide (az<2)))] ?_
  by_cases c80:az<2
  ·rw[if_pos c80]at h
   refine N_bd 78 (zX c80) ?_
   obtain⟨a6,q82,h⟩:=h
   refine T_l1 79 125 q82 []<| T_nd 1 [] [(80,vp (some ((ad r).add 1)))] ?_
   obtain⟨bi,q83,h⟩:=h
   refine T_l1 81 31 q83 [80]<| T_c (some 82) h ?_;clear h
   rintro cq bq ⟨a5,rfl,h⟩
   refine T_pd [79,81] [(82,.bool a5)]<| T_ed 1 [78,82] [(83,.bool a5)] ?_
   by_cases c84:a5=true
   ·rw[if_pos c84]at h
    refine aH 83 c84 ?_
    obtain⟨ak,q86,av,q87,an,q88,a0,q89,h⟩:=h
    refine yz 25 (Code.ops K89) [(4,(ad b),[vp ak]),(4,(ad r),[vu av]),(8,(ad b),[vp an]),(8,((ad r).add 1),[vu a0])] 13 (bv 13 0) (show aE _ _ _ from⟨⟨q86,trivial⟩,⟨q87,trivial⟩,⟨q88,trivial⟩,⟨q89,trivial⟩,trivial⟩)<| T_gp 0 (some 84) (vs j outN outC) (bv 13 1) [(2,vp (pa b)),(5,vp (pa f)),(12,vs j outN outC),(14,vp (pa r)),(66,vs (some q) d n),(67,vi d),(68,vi s68),(84,vs j outN outC)]<| T_g1 1 85 (vp ak) (bv 13 3) [] (aM 125 (vp (pa b))) (yx 4 yZ)<| aD 2 86 (vp (pa r)) (bv 13 7) []<| T_g1 3 87 (vu av) (bv 13 15) [86] (aM 31 (vp (pa r))) (yx 4 yX)<| T_g1 5 89 (vp an) (bv 13 47) [] (aM 125 (vp (pa b))) (yx 8 yQ)<| aD 6 90 (vp (some ((ad r).add 1))) (bv 13 111) [14]<| T_g1 7 91 (vu a0) (bv 13 239) [90] (aM 31 (vp (some ((ad r).add 1)))) (yx 8 yJ)<| yj 4 (some 88) (bv 13 255) 76 #[vp ak,vu av] h ?_;clear h
    rintro cm ce ⟨a1,rfl,f90,f91,h⟩
    refine⟨[(2,vp (pa b)),(5,vp (pa f)),(12,vs j outN outC),(66,vs (some q) d n),(67,vi d),(68,vi s68),(84,vs j outN outC),(88,vu a1),(89,vp an),(91,vu a0)],pk,(show aE _ _ _ from⟨trivial,trivial,f90,f91,trivial⟩),?_⟩
    refine yj 8 (some 92) (bv 13 511) 76 #[vp an,vu a0] h ?_;clear h
    rintro cl ch ⟨a7,rfl,h⟩
    refine⟨[(2,vp (pa b)),(5,vp (pa f)),(12,vs j outN outC),(66,vs (some q) d n),(67,vi d),(68,vi s68),(84,vs j outN outC),(88,vu a1),(92,vu a7)],pk,(show aE _ _ _ from⟨trivial,trivial,trivial,trivial,trivial⟩),?_⟩
    refine T_g 9 (some 93) (.agg #[vu a1,vu a7]) (bv 13 1023) [(2,vp (pa b)),(5,vp (pa f)),(12,vs j outN outC),(66,vs (some q) d n),(67,vi d),(68,vi s68),(84,vs j outN outC),(93,.agg #[vu a1,vu a7])] (pure (.value (.agg #[vu a1,vu a7])):Sem Next) (λ_ _ _ _ _=>rfl)<| ou 10 (some 94) (bv 13 2047) (λb=>vs (pa b) 1 1) (.cells #[vu a1,vu a7] 171) (by kernel_rfl) (λ_=>by kernel_rfl) (by kernel_rfl) ?_
    intro b5 H28 e92 e93
    replace h:=h b5 H28 e92 e93
    refine⟨[(2,vp (pa b)),(5,vp (pa f)),(12,vs j outN outC),(66,vs (some q) d n),(67,vi d),(68,vi s68),(84,vs j outN outC),(94,vs (pa b5) 1 1)],pk,(show aE _ _ _ from⟨trivial,trivial,trivial,trivial,trivial⟩),?_⟩
    refine mg 11 (some 95) (bv 13 4095) (fq #[85,85] 85 #[vs j outN outC,vs (pa b5) 1 1]) _ (by kernel_rfl) (λ_=>by kernel_rfl) (eJ (T:=171) (sz:=2) (bytes:=16) (zero:=(.agg #[vu 0,vu 0]:Value)) Tryz.underlying85 Tryz.underlying85 rfl (show Tryz.prog.info? 171=some Tryz.t171 from by kernel_rfl) (by kernel_rfl) (by kernel_rfl) (by decide) (by kernel_rfl) (by first | exact h | (simpa only[Value.cells,List.toList_toArray]using h))) (by kernel_rfl) ?_;clear h
    rintro _ ci ⟨ap,ba,rfl,h⟩
    refine⟨[(2,vp (pa b)),(5,vp (pa f)),(12,vs j outN outC),(66,vs (some q) d n),(67,vi d),(68,vi s68),(95,vs ap (outN+1) ba)],pk,(show aE _ _ _ from⟨trivial,trivial,trivial,trivial,trivial⟩),?_⟩
    exact T_g 12 (some 12) (vs ap (outN+1) ba) (bv 13 8191) [(2,vp (pa b)),(5,vp (pa f)),(12,vs ap (outN+1) ba),(66,vs (some q) d n),(67,vi d),(68,vi s68)] (pure (.value (vs ap (outN+1) ba)):Sem Next) (λ_ _ _ _ _=>rfl)<| dp [(2,vp (pa b)),(5,vp (pa f)),(12,vs ap (outN+1) ba),(66,vs (some q) d n),(67,vi d),(68,vi s68)] sk<| yv<| aC<| aB<| T_rz 26<| T_ne 2 [(2,vp (pa b)),(5,vp (pa f)),(12,vs ap (outN+1) ba),(66,vs (some q) d n),(67,vi d),(68,vi (zY (s68+1)))]<| aQ ((ap,(outN+1),ba,(zY (s68+1))):zW×Nat×Nat×Int) sk h
   rw[if_neg c84]at h
   exact aI 83 (zZ c84)<| T_k<| aC<| aB<| T_rz 26<| T_ed 2 [14,68,83] [(68,vi (zY (s68+1)))]<| aQ ((j,outN,outC,(zY (s68+1))):zW×Nat×Nat×Int) sk h
  rw[if_neg c80]at h
  refine N_bd 78 (zQ c80)<| T_ed 5 [78] [(83,.bool false)]<| T_fz 83<| T_k ?_
  exact aC<| aB<| T_rz 26<| T_ed 2 [14,68,83] [(68,vi (zY (s68+1)))]<| aQ ((j,outN,outC,(zY (s68+1))):zW×Nat×Nat×Int) sk h
 rw[if_neg c69]at h
 exact aI 69 (zQ c69)<| zj 4<| aA<| aA<| aN<| aB<| ar 27<| T_nr 2 [4] [vs j outN outC] hQ h
end fT

/-! moraine/weak.Breaks -/
namespace fU
def K0:=Func.code Tryz.f80
def K2:=cb K0
def K8:=cb K2
def K9:=ca K8
def K10:=ca K9
def K12:=cb K10
def K14:=cb K12
def K17:=ca K14
def K19:=ca K17
def K21:=cb K19
def K23:=cb K21
def K24:=ca K23
def K26:=cb K24
def K28:=cb K26
def K30:=cb K28
def K31:=ca K30
end fU
def fU.pt(tv:zW)(H:zV)(R:zk):Prop:=
 fK.C tv H (λv H1=> ∃x:Bool,v=.bool x/\
 if x=true then(
 R (.tuple #[]) H1)
 else
 dh.C tv H1 (λaz H2=> ∃(xB:zW) (xN xC:Nat),az=.slice xB xN xC/\
 ∃(ac:zv) (m11:Int->zV->Nat),ac 0 H2/\ ∀(b:Int) (H3:zV),ac b H3->
 if b< (xN:Int)then(
 ∃f:Addr,xB=some f/\
 zw b xN/\
 ∃g:Int,hat H3 (f.add (Int.toNat b*1))=some (.int .i64 g)/\
 ∃d:Addr,tv=some d/\
 ∃ah:zW,hat H3 d=some (.pointer ah)/\
 ∃ak:Addr,ah=some ak/\
 ∃af:zW,hat H3 ak=some (.pointer af)/\
 ∃ai:Addr,af=some ai/\
 ∃ag:zW,hat H3 ai=some (.pointer ag)/\
 ∃aj:Addr,ag=some aj/\
 ∃z:zW,hat H3 aj=some (.pointer z)/\
 cE.C z g H3 (λaq H4=> ∃ra rb:Int,aq=.tuple #[.int .u64 ra,.int .i64 rb]/\
 cW.C (some d) ra H4 (λav H5=> ∃o:Bool,av=.bool o/\
 if o=true then(
 bP.C (some d) ra H5 (λaw H6=> ∃q:Bool,aw=.bool q/\
 if q=true then(
 ∃ap:zW,hat H6 d=some (.pointer ap)/\
 ∃n:Addr,ap=some n/\
 ∃am:zW,hat H6 n=some (.pointer am)/\
 ∃j:Addr,am=some j/\
 ∃al:zW,hat H6 j=some (.pointer al)/\
 ∃l:Addr,al=some l/\
 ∃m:zW,hat H6 l=some (.pointer m)/\
 bB.C (some d) ra H6 (λau H7=> ∃u:Int,au=.int .u64 u/\aL H7 d 0 [.pointer (some n)]/\aL H7 n 0 [.pointer (some j)]/\aL H7 j 0 [.pointer (some l)]/\aL H7 l 0 [.pointer m]/\
 cH.C m g u H7 (λax H8=> ∃ao:Int,ax=.int .i64 ao/\
 (ac (zY (b+1)) H8/\m11 (zY (b+1)) H8<m11 b H3))))
 else
 ∃ab:zW,hat H6 d=some (.pointer ab)/\
 ∃y:Addr,ab=some y/\
 ∃r:zW,hat H6 y=some (.pointer r)/\
 ∃aa:Addr,r=some aa/\
 ∃ae:zW,hat H6 aa=some (.pointer ae)/\
 ∃s:Addr,ae=some s/\
 ∃p:zW,hat H6 s=some (.pointer p)/\
 cH.C p g 44 H6 (λay H9=> ∃an:Int,ay=.int .i64 an/\
 (ac (zY (b+1)) H9/\m11 (zY (b+1)) H9<m11 b H3))))
 else
 (ac (zY (b+1)) H5/\m11 (zY (b+1)) H5<m11 b H3))))
 else
 R (.tuple #[]) H3))
namespace fU
theorem link{tv:zW}{H:zV}{R:zk}(h:pt tv H R):C tv H R:=by
 refine T_en K0 76 Tryz.func80 ?_
 intro w0 Q hQ
 unfold pt zY at h
 refine T_su [(0,vp tv)]<| T_sz<| ar 0<| T_nd 1 [] [(6,vp tv)]<| T_c (some 7) h ?_;clear h
 rintro v H1 ⟨x,rfl,h⟩
 refine T_pd [6] [(7,.bool x)]<| T_e ?_
 by_cases c1:x=true
 ·rw[if_pos c1]at h
  exact aH 7 c1<| gi [] [] hQ h
 rw[if_neg c1]at h
 refine aI 7 (zZ c1)<| T_kt<| ar 1<| T_nd 1 [7] [(8,vp tv)]<| T_c (some 9) h ?_;clear h
 rintro az H2 ⟨xB,xN,xC,rfl,h⟩
 refine T_pd [8] [(9,vs xB xN xC)]<| T_ed 2 [] [(10,vi xN),(11,vi 0)]<| T_bz 0 ?_
 obtain⟨ac,m11,i3,i4⟩:=h
 refine cu (x:=K10) (σ:=Int) (λs_=> [(0,vp tv),(9,vs xB xN xC),(10,vi xN),(11,vi s_)]) (λs_ H=>ac s_ H) (λs_ H=>m11 s_ H) (0:Int) (by kernel_rfl) i3 sk ?_
 rintro b H3 i5
 have h:=i4 b H3 i5
 refine T_su [(0,vp tv),(9,vs xB xN xC),(10,vi xN),(11,vi b)]<| ar 2<| T_ed 1 [] [(12,.bool (decide (b< (xN:Int))))]<| T_sz ?_
 by_cases c6:b< (xN:Int)
 ·rw[if_pos c6]at h
  refine aH 12 (zX c6)<| T_kt<| T_sz<| T_bz 1<| ar 3<| T_ud [12] [] ?_
  obtain⟨f,rfl,q8,h⟩:=h
  refine T_xd (some 13) 60 3 1 f xN xC .i64 b Tryz.underlying60 q8.1 q8.2 [9] [(9,vs (some f) xN xC),(13,vp (some (f.add (Int.toNat b*1))))] ?_
  obtain⟨g,q9,h⟩:=h
  refine T_l1 14 3 q9 [13]<| T_ed 1 [14] [(3,vi g)]<| ar 4<| T_nd 1 [] [(16,vp tv)] ?_
  obtain⟨d,rfl,h⟩:=h
  refine T_nd 2 [0,16] [(0,vp (some d)),(18,vp (some d))] ?_
  obtain⟨ah,q10,h⟩:=h
  refine T_l1 19 34 q10 [18] ?_
  obtain⟨ak,rfl,h⟩:=h
  refine T_nd 2 [19] [(21,vp (some ak))] ?_
  obtain⟨af,q11,h⟩:=h
  refine T_l1 22 82 q11 [21] ?_
  obtain⟨ai,rfl,h⟩:=h
  refine T_nd 2 [22] [(24,vp (some ai))] ?_
  obtain⟨ag,q12,h⟩:=h
  refine T_l1 25 99 q12 [24] ?_
  obtain⟨aj,rfl,h⟩:=h
  refine T_nd 2 [25] [(27,vp (some aj))] ?_
  obtain⟨z,q13,h⟩:=h
  refine T_l1 28 103 q13 [27]<| T_nd 1 [] [(29,vi g)]<| T_c (some 30) h ?_;clear h
  rintro aq H4 ⟨ra,rb,rfl,h⟩
  refine T_pd [28,29] [(30,.tuple #[vu ra,vi rb])]<| T_ed 5 [30] [(4,vu ra)]<| T_bz 2<| ar 6<| T_nd 2 [] [(49,vp (some d)),(50,vu ra)]<| T_c (some 51) h ?_;clear h
  rintro av H5 ⟨o,rfl,h⟩
  refine T_pd [49,50] [(51,.bool o)]<| T_ed 2 [51] [(48,.bool (!o))] ?_
  by_cases c14:o=true
  ·rw[if_pos c14]at h
   refine aI 48 (congrArg Bool.not (c14))<| ar 7<| T_nd 2 [48] [(54,vp (some d)),(55,vu ra)]<| T_c (some 56) h ?_;clear h
   rintro aw H6 ⟨q,rfl,h⟩
   refine T_pd [54,55] [(56,.bool q)]<| T_ed 1 [56] [(53,.bool q)] ?_
   by_cases c16:q=true
   ·rw[if_pos c16]at h
    refine aH 53 c16 ?_
    obtain⟨ap,q18,n,rfl,am,q19,j,rfl,al,q20,l,rfl,m,q21,h⟩:=h
    refine yz 8 (Code.ops K31) [(17,d,[vp (some n)]),(17,n,[vp (some j)]),(17,j,[vp (some l)]),(17,l,[vp m])] 18 (bv 18 0) (show aE _ _ _ from⟨⟨q18,trivial⟩,⟨q19,trivial⟩,⟨q20,trivial⟩,⟨q21,trivial⟩,trivial⟩)<| T_gp 0 (some 57) (vp (some d)) (bv 18 1) [(0,vp (some d)),(3,vi g),(4,vu ra),(9,vs (some f) xN xC),(10,vi xN),(11,vi b),(57,vp (some d))]<| aD 1 58 (vp (some d)) (bv 18 3) [57]<| aD 2 59 (vp (some d)) (bv 18 7) [58]<| T_g1 3 60 (vp (some n)) (bv 18 15) [59] (aM 34 (vp (some d))) (yx 17 yZ)<| aD 4 61 (vp (some n)) (bv 18 31) [60]<| aD 5 62 (vp (some n)) (bv 18 63) [61]<| T_g1 6 63 (vp (some j)) (bv 18 127) [62] (aM 82 (vp (some n))) (yx 17 yX)<| aD 7 64 (vp (some j)) (bv 18 255) [63]<| aD 8 65 (vp (some j)) (bv 18 511) [64]<| T_g1 9 66 (vp (some l)) (bv 18 1023) [65] (aM 99 (vp (some j))) (yx 17 yQ)<| aD 10 67 (vp (some l)) (bv 18 2047) [66]<| aD 11 68 (vp (some l)) (bv 18 4095) [67]<| T_g1 12 69 (vp m) (bv 18 8191) [68] (aM 103 (vp (some l))) (yx 17 yJ)<| aD 13 70 (vi g) (bv 18 16383) [3]<| aD 14 71 (vp (some d)) (bv 18 32767) []<| aD 15 72 (vu ra) (bv 18 65535) [4]<| yj 16 (some 73) (bv 18 131071) 76 #[vp (some d),vu ra] h ?_;clear h
    rintro au H7 ⟨u,rfl,f22,f23,f24,f25,h⟩
    refine⟨[(0,vp (some d)),(9,vs (some f) xN xC),(10,vi xN),(11,vi b),(69,vp m),(70,vi g),(73,vu u)],pk,(show aE _ _ _ from⟨f22,f23,f24,f25,trivial⟩),?_⟩
    refine yj 17 (some 74) (bv 18 262143) 54 #[vp m,vi g,vu u] h ?_;clear h
    rintro ax H8 ⟨ao,rfl,h⟩
    refine⟨[(0,vp (some d)),(9,vs (some f) xN xC),(10,vi xN),(11,vi b)],pk,(show aE _ _ _ from⟨trivial,trivial,trivial,trivial,trivial⟩),?_⟩
    refine dp [(0,vp (some d)),(9,vs (some f) xN xC),(10,vi xN),(11,vi b)] sk ?_
    exact yv<| aC<| aC<| aB<| T_rz 9<| T_ne 2 [(0,vp (some d)),(9,vs (some f) xN xC),(10,vi xN),(11,vi (zY (b+1)))]<| aQ ((zY (b+1)):Int) sk h
   rw[if_neg c16]at h
   refine aI 53 (zZ c16)<| T_rz 5<| T_nd 3 [4,53] [(35,vp (some d))] ?_
   obtain⟨ab,q26,h⟩:=h
   refine T_l1 36 34 q26 [35] ?_
   obtain⟨y,rfl,h⟩:=h
   refine T_nd 2 [36] [(38,vp (some y))] ?_
   obtain⟨r,q27,h⟩:=h
   refine T_l1 39 82 q27 [38] ?_
   obtain⟨aa,rfl,h⟩:=h
   refine T_nd 2 [39] [(41,vp (some aa))] ?_
   obtain⟨ae,q28,h⟩:=h
   refine T_l1 42 99 q28 [41] ?_
   obtain⟨s,rfl,h⟩:=h
   refine T_nd 2 [42] [(44,vp (some s))] ?_
   obtain⟨p,q29,h⟩:=h
   refine T_l1 45 103 q29 [44]<| T_nd 1 [3] [(46,vi g)]<| T_c (some 47) h ?_;clear h
   rintro ay H9 ⟨an,rfl,h⟩
   exact T_pd [45,46] []<| zq<| aC<| aC<| aB<| T_rz 9<| T_ed 2 [11] [(11,vi (zY (b+1)))]<| aQ ((zY (b+1)):Int) sk h
  rw[if_neg c14]at h
  exact aH 48 (congrArg Bool.not (zZ c14))<| T_k<| aC<| aC<| aB<| T_rz 9<| T_ed 2 [3,4,11,48] [(11,vi (zY (b+1)))]<| aQ ((zY (b+1)):Int) sk h
 rw[if_neg c6]at h
 exact aI 12 (zQ c6)<| zj 0<| aA<| aA<| aN<| fp (fn:=Tryz.f80) [] hQ (show cF _ _ _ [] _ from .nil) h
end fU

/-! moraine/weak.Prune -/
namespace gF
def K0:=Func.code Tryz.f81
def K2:=cb K0
def K4:=cb K2
def K12:=cb K4
def K13:=ca K12
def K16:=cb K13
def K17:=ca K16
def K18:=ca K17
end gF
def gF.pt(tv lB:zW)(lN lC:Nat)(H:zV)(R:zk):Prop:=
 fK.C tv H (λv H1=> ∃x:Bool,v=.bool x/\
 if x=true then(
 iy.C lB lN lC H1 (λq H2=> ∃(xB:zW) (xN xC:Nat),q=.slice xB xN xC/\
 R (.slice xB xN xC) H2))
 else
 ∃(m:zW->Nat->Nat->zv) (m19:zW->Nat->Nat->Int->zV->Nat),m none 0 0 0 H1/\ ∀(d:zW) (outN:Nat) (outC:Nat) (s14:Int) (H3:zV),m d outN outC s14 H3->
 if s14< (lN:Int)then(
 ∃f:Addr,lB=some f/\
 zw s14 lN/\
 ∃g:Int,hat H3 (f.add (Int.toNat s14*1))=some (.int .u64 g)/\
 bP.C tv g H3 (λo H4=> ∃j:Bool,o=.bool j/\
 if j=true then(
 bB.C tv g H4 (λp H5=> ∃n:Int,p=.int .u64 n/\
 ∀(b:Nat) (H6:zV),b=H5.size->H6=H5.push (.cells #[.int .u64 n] 31)->
 fN 1 31 8 [.int .u64 0] d outN outC (some (ad b)) 1 H6 (λap l H7=>
 (m ap (outN+1) l (zY (s14+1)) H7/\m19 ap (outN+1) l (zY (s14+1)) H7<m19 d outN outC s14 H3))))
 else
 (m d outN outC (zY (s14+1)) H4/\m19 d outN outC (zY (s14+1)) H4<m19 d outN outC s14 H3)))
 else
 R (.slice d outN outC) H3)
namespace gF
theorem link{tv lB:zW}{lN lC:Nat}{H:zV}{R:zk}(h:pt tv lB lN lC H R):C tv lB lN lC H R:=by
 refine T_en K0 29 Tryz.func81 ?_
 intro w0 Q hQ
 unfold pt zY at h
 refine T_su [(0,vp tv),(1,vs lB lN lC)]<| ar 0<| T_ed 1 [] []<| T_sz<| ar 1<| T_nd 1 [] [(8,vp tv)]<| T_c (some 9) h ?_;clear h
 rintro v H1 ⟨x,rfl,h⟩
 refine T_pd [8] [(9,.bool x)]<| T_e ?_
 by_cases c1:x=true
 ·rw[if_pos c1]at h
  refine aH 9 c1<| ar 2<| T_n 1 [(10,vs lB lN lC)]<| T_c (some 11) h ?_;clear h
  rintro q H2 ⟨xB,xN,xC,rfl,h⟩
  refine⟨[(11,vs xB xN xC)],pk,?_⟩
  exact T_nr 1 [4] [vs xB xN xC] hQ h
 rw[if_neg c1]at h
 refine aI 9 (zZ c1)<| T_kt<| ar 3<| T_ed 1 [9] [(5,vs none 0 0)]<| T_sz<| ar 4<| T_ed 3 [1] [(12,vs lB lN lC),(13,vi lN),(14,vi 0)]<| T_bz 0 ?_
 obtain⟨m,m19,i3,i4⟩:=h
 refine cu (x:=K18) (σ:=zW×Nat×Nat×Int) (λs_=> [(0,vp tv),(5,vs s_.1 s_.2.1 s_.2.2.1),(12,vs lB lN lC),(13,vi lN),(14,vi s_.2.2.2)]) (λs_ H=>m s_.1 s_.2.1 s_.2.2.1 s_.2.2.2 H) (λs_ H=>m19 s_.1 s_.2.1 s_.2.2.1 s_.2.2.2 H) ((none,0,0,0):zW×Nat×Nat×Int) (by kernel_rfl) i3 sk ?_
 rintro⟨d,outN,outC,s14⟩ H3 i5
 have h:=i4 d outN outC s14 H3 i5
 refine T_su [(0,vp tv),(5,vs d outN outC),(12,vs lB lN lC),(13,vi lN),(14,vi s14)]<| ar 5<| T_ed 1 [] [(15,.bool (decide (s14< (lN:Int))))]<| T_sz ?_
 by_cases c6:s14< (lN:Int)
 ·rw[if_pos c6]at h
  refine aH 15 (zX c6)<| T_kt<| T_sz<| T_bz 1<| ar 6<| T_ud [15] [] ?_
  obtain⟨f,rfl,q8,h⟩:=h
  refine T_xd (some 16) 54 31 1 f lN lC .i64 s14 Tryz.underlying54 q8.1 q8.2 [12] [(12,vs (some f) lN lC),(16,vp (some (f.add (Int.toNat s14*1))))] ?_
  obtain⟨g,q9,h⟩:=h
  refine T_l1 17 31 q9 [16]<| T_ed 1 [17] [(7,vu g)]<| ar 7<| T_nd 2 [] [(18,vp tv),(19,vu g)]<| T_c (some 20) h ?_;clear h
  rintro o H4 ⟨j,rfl,h⟩
  refine T_pd [18,19] [(20,.bool j)]<| T_e ?_
  by_cases c10:j=true
  ·rw[if_pos c10]at h
   refine aH 20 c10<| T_rz 8<| T_nd 3 [5,7,20] [(21,vs d outN outC),(22,vp tv),(23,vu g)]<| T_c (some 24) h ?_;clear h
   rintro p H5 ⟨n,rfl,h⟩
   refine T_pd [22,23] [(24,vu n)]<| T_nw (some 25) (λb=>vs (pa b) 1 1) (.cells #[vu n] 31) ?_
   intro b H6 e12 e13
   replace h:=h b H6 e12 e13
   refine T_pd [24] [(25,vs (pa b) 1 1)]<| N_op (some 26) (fq #[54,54] 54 #[vs d outN outC,vs (pa b) 1 1]) _ (λ_=>by kernel_rfl) (eJ (T:=31) (sz:=1) (bytes:=8) (zero:=(vu 0:Value)) Tryz.underlying54 Tryz.underlying54 rfl (show Tryz.prog.info? 31=some Tryz.t31 from by kernel_rfl) (by kernel_rfl) (by kernel_rfl) (by decide) (by kernel_rfl) (by first | exact h | (simpa only[Value.cells,List.toList_toArray]using h))) ?_;clear h
   rintro _ H7 ⟨ap,l,rfl,h⟩
   exact T_pd [21,25] [(26,vs ap (outN+1) l)]<| T_nd 1 [26] [(5,vs ap (outN+1) l)]<| zq<| aC<| aB<| T_rz 9<| T_ed 2 [14] [(14,vi (zY (s14+1)))]<| aQ ((ap,(outN+1),l,(zY (s14+1))):zW×Nat×Nat×Int) sk h
  rw[if_neg c10]at h
  exact aI 20 (zZ c10)<| T_k<| aC<| aB<| T_rz 9<| T_ed 2 [7,14,20] [(14,vi (zY (s14+1)))]<| aQ ((d,outN,outC,(zY (s14+1))):zW×Nat×Nat×Int) sk h
 rw[if_neg c6]at h
 exact aI 15 (zQ c6)<| zj 0<| aA<| aA<| aN<| aB<| ar 10<| T_nr 2 [4] [vs d outN outC] hQ h
end gF

/-! moraine/weak.ended -/
namespace fK
def K0:=Func.code Tryz.f115
end fK
def fK.pt(tv:zW)(H:zV)(R:zk):Prop:=
 eM tv (
 R (.bool true) H) (λa=>
 di.C (some a) H (λv H1=> ∃x:Bool,v=.bool x/\
 R (.bool x) H1))
namespace fK
theorem link{tv:zW}{H:zV}{R:zk}(h:pt tv H R):C tv H R:=by
 refine T_en K0 9 Tryz.func115 ?_
 intro w0 Q hQ
 unfold pt at h
 refine T_su [(0,vp tv)]<| ar 0<| T_ed 1 [] []<| ar 1<| T_nd 1 [] [(3,vp tv)] ?_
 rcases tv with _ | a
 ·rw[onPtr_none]at h
  exact T_nr 6 [2] [.bool true] hQ h
 rw[onPtr_some]at h
 refine T_n 3 [(5,.bool false),(6,vp (some a))]<| T_c (some 7) h ?_;clear h
 rintro v H1 ⟨x,rfl,h⟩
 exact T_pd [6] [(7,.bool x)]<| T_nr 2 [2] [.bool x] hQ h
end fK

/-! moraine/weak.Guards.1 -/
