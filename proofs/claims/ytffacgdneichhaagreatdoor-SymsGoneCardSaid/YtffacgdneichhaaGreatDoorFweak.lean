/- Printed: what each function asks, and that it is sound. -/
import Derived.Test.YtffacgdneichhaaGreatDoorFnsC
set_option linter.unusedSimpArgs false
set_option linter.unusedVariables false
set_option maxRecDepth 100000
set_option maxHeartbeats 1000000
noncomputable section
namespace Go.Proofs.YtffacgdneichhaaGreatDoor
open Go
/-! moraine/weak.Guards -/
namespace eY
def K0:=Func.code Tryz.f23
def K2:=cb K0
def K3:=ca K2
def K5:=cb K3
def K13:=cb K5
def K14:=ca K13
def K15:=cb K13
def K17:=cb K14
def K18:=ca K17
def K19:=ca K18
def K36:=cb K15
def K37:=cb K36
def K38:=ca K37
def K39:=cb K37
def K41:=cb K38
def K42:=ca K41
def K43:=ca K42
def K45:=cb K43
def K47:=cb K45
def K50:=ca K47
def K52:=ca K50
def K54:=cb K52
def K56:=cb K54
def K57:=ca K56
def K60:=cb K57
def K62:=cb K60
def K63:=ca K62
def K68:=cb K39
def K69:=ca K68
def K72:=cb K69
def K73:=ca K72
def K74:=ca K73
def K76:=cb K74
def K78:=cb K76
def K81:=ca K78
def K83:=ca K81
def K85:=cb K83
def K87:=cb K85
def K88:=ca K87
end eY
def eY.pt(tv lB:zW)(lN lC:Nat)(H:zV)(R:zk):Prop:=
 ∀(b:Nat) (H1:zV),b=H.size->H1=H.push (.cells #[.pointer tv] 58)->
 ∀(f:Nat) (H2:zV),f=H1.size->H2=H1.push (.cells #[.slice lB lN lC] 46)->
 ∃x:zW,hat H2 (ad b)=some (.pointer x)/\
 eM.C x H2 (λv H3=> ∃bw:Bool,v=.bool bw/\
 if bw=true then(
 ∃(xB:zW) (xN xC:Nat),hat H3 (ad f)=some (.slice xB xN xC)/\
 gL.C xB xN xC H3 (λcw H4=> ∃(bo:zW) (bm bp:Nat),cw=.slice bo bm bp/\
 R (.slice bo bm bp) H4))
 else
 ∃(b9:zW) (aa cc:Nat),hat H3 (ad f)=some (.slice b9 aa cc)/\
 0<=(aa:Int)/\(aa:Int)<=(aa:Int)/\8*(aa:Int)<=2 ^ 48/\(aa:Int)<=9223372036854775807/\
 ∀(bh:Nat) (H5:zV),bh=H3.size->H5=H3.push (.cells (Builtin.zeroCells #[.int .i64 0] (Int.toNat (aa:Int))) 3)->
 ∀(d:Nat) (H6:zV),d=H5.size->H6=H5.push (.cells #[.slice none 0 0] 79)->
 (aI H6 (ad d) 0 1)/\ ∀H7,H7=aO H6 (ad d) [.slice (some (ad bh)) (Int.toNat (aa:Int)) (Int.toNat (aa:Int))] 0->
 ∃(al:zW) (l u:Nat),hat H7 (ad f)=some (.slice al l u)/\
 ∃(b4:zv) (m20:Int->zV->Nat),b4 0 H7/\ ∀(m:Int) (H8:zV),b4 m H8->
 if m< (l:Int)then(
 ∃ab:Addr,al=some ab/\
 zw m l/\
 ∃az ae:Int,aU H8 (ab.add (Int.toNat m*2)) 0 [.int .u64 az,.int .u64 ae]/\
 ∀(au:Nat) (H9:zV),au=H8.size->H9=H8.push (.cells #[.int .u64 0,.int .u64 0] 119)->
 (aI H9 (ad au) 0 2)/\ ∀b5,b5=aO H9 (ad au) [.int .u64 az,.int .u64 ae] 0->
 ∃br:zW,hat b5 (ad b)=some (.pointer br)/\
 ∃b3:Int,hat b5 (ad au)=some (.int .u64 b3)/\
 bG.C br b3 b5 (λcu bt=> ∃bd:Bool,cu=.bool bd/\
 if bd=true then(
 (b4 (zY (m+1)) bt/\m20 (zY (m+1)) bt<m20 m H8))
 else
 ∃(bk:zW) (a9 bf:Nat),hat bt (ad d)=some (.slice bk a9 bf)/\
 ∃ax:Addr,bk=some ax/\
 zw m a9/\
 (aI bt (ax.add (Int.toNat m*1)) 0 1)/\ ∀cd,cd=aO bt (ax.add (Int.toNat m*1)) [.int .i64 1] 0->
 (b4 (zY (m+1)) cd/\m20 (zY (m+1)) cd<m20 m H8)))
 else
 ∃(ce:zV->Prop) (m38:zV->Nat),ce H8/\ ∀(b2:zV),ce b2->
 ∃(an:zW) (p af:Nat),hat b2 (ad f)=some (.slice an p af)/\
 ∃(ch:zv) (m44:Int->zV->Nat),ch 0 b2/\ ∀(q:Int) (H14:zV),ch q H14->
 if q< (p:Int)then(
 ∃ag:Addr,an=some ag/\
 zw q p/\
 ∃ah z:Int,aU H14 (ag.add (Int.toNat q*2)) 0 [.int .u64 ah,.int .u64 z]/\
 ∀(ac:Nat) (H15:zV),ac=H14.size->H15=H14.push (.cells #[.int .u64 0,.int .u64 0] 119)->
 (aI H15 (ad ac) 0 2)/\ ∀cj,cj=aO H15 (ad ac) [.int .u64 ah,.int .u64 z] 0->
 mq.C q (some (ad d)) (some (ad b)) (some (ad f)) cj (λcs bu=> ∃bz:Bool,cs=.bool bz/\
 if bz=true then(
 ∃(bi:zW) (a4 bg:Nat),hat bu (ad d)=some (.slice bi a4 bg)/\
 ∃ay:Addr,bi=some ay/\
 zw q a4/\
 (aI bu (ay.add (Int.toNat q*1)) 0 1)/\ ∀b1,b1=aO bu (ay.add (Int.toNat q*1)) [.int .i64 2] 0->
 ∃bs:zW,hat b1 (ad b)=some (.pointer bs)/\
 ∃b6:Int,hat b1 (ad ac)=some (.int .u64 b6)/\
 aW.C bs b6 b1 (λcv cg=> ∃aq:Int,cv=.int .u64 aq/\
 ∃aj:zW,hat cg (ad b)=some (.pointer aj)/\
 ∃aw:zW,hat cg (ad b)=some (.pointer aw)/\
 ∃ba:Int,hat cg ((ad ac).add 1)=some (.int .u64 ba)/\
 aW.C aw ba cg (λcr cm=> ∃bx:Int,cr=.int .u64 bx/\aU cm (ad b) 0 [.pointer aj]/\
 pW.C aj bx aq cm (λ_ co=>
 ∃bn:zW,hat co (ad b)=some (.pointer bn)/\
 bZ.C bn co (λ_ cl=>
 (ce cl/\m38 cl<m38 b2))))))
 else
 (ch (zY (q+1)) bu/\m44 (zY (q+1)) bu<m44 q H14)))
 else
 ∃(am:zW) (g o:Nat),hat H14 (ad f)=some (.slice am g o)/\
 ∃(b0:zW->Nat->Nat->zv) (m75:zW->Nat->Nat->Int->zV->Nat),b0 none 0 0 0 H14/\ ∀(j:zW) (outN:Nat) (outC:Nat) (s68:Int) (H23:zV),b0 j outN outC s68 H23->
 if s68< (g:Int)then(
 ∃r:Addr,am=some r/\
 zw s68 g/\
 ∃ai y:Int,aU H23 (r.add (Int.toNat s68*2)) 0 [.int .u64 ai,.int .u64 y]/\
 ∀(s:Nat) (H24:zV),s=H23.size->H24=H23.push (.cells #[.int .u64 0,.int .u64 0] 119)->
 (aI H24 (ad s) 0 2)/\ ∀bc,bc=aO H24 (ad s) [.int .u64 ai,.int .u64 y] 0->
 ∃(bl:zW) (a6 be:Nat),hat bc (ad d)=some (.slice bl a6 be)/\
 ∃a7:Addr,bl=some a7/\
 zw s68 a6/\
 ∃a2:Int,hat bc (a7.add (Int.toNat s68*1))=some (.int .i64 a2)/\
 if a2<2 then(
 ∃a3:zW,hat bc (ad b)=some (.pointer a3)/\
 ∃bj:Int,hat bc ((ad s).add 1)=some (.int .u64 bj)/\
 bG.C a3 bj bc (λct bq=> ∃a8:Bool,ct=.bool a8/\
 if a8=true then(
 ∃ak:zW,hat bq (ad b)=some (.pointer ak)/\
 ∃av:Int,hat bq (ad s)=some (.int .u64 av)/\
 ∃ao:zW,hat bq (ad b)=some (.pointer ao)/\
 ∃a0:Int,hat bq ((ad s).add 1)=some (.int .u64 a0)/\
 aW.C ak av bq (λcp ci=> ∃a1:Int,cp=.int .u64 a1/\aU ci (ad b) 0 [.pointer ao]/\aU ci ((ad s).add 1) 0 [.int .u64 a0]/\
 aW.C ao a0 ci (λcn cq=> ∃a5:Int,cn=.int .u64 a5/\
 ∀(b8:Nat) (H29:zV),b8=cq.size->H29=cq.push (.cells #[.int .u64 a1,.int .u64 a5] 119)->
 dw 2 119 16 [.int .u64 0,.int .u64 0] j outN outC (some (ad b8)) 1 H29 (λap bb ck=>
 (b0 ap (outN+1) bb (zY (s68+1)) ck/\m75 ap (outN+1) bb (zY (s68+1)) ck<m75 j outN outC s68 H23)))))
 else
 (b0 j outN outC (zY (s68+1)) bq/\m75 j outN outC (zY (s68+1)) bq<m75 j outN outC s68 H23)))
 else
 (b0 j outN outC (zY (s68+1)) bc/\m75 j outN outC (zY (s68+1)) bc<m75 j outN outC s68 H23))
 else
 R (.slice j outN outC) H23)
namespace eY
theorem link{tv lB:zW}{lN lC:Nat}{H:zV}{R:zk}(h:pt tv lB lN lC H R):C tv lB lN lC H R:=by
 refine T_en K0 98 Tryz.func23 ?_
 intro w0 Q hQ
 unfold pt zY at h
 refine T_su [(0,vp tv),(1,vs lB lN lC)]<| ar 0<| T_nw (some 2) (λb=>vp (pa b)) (.cells #[vp tv] 58) ?_
 intro b H1 e1 e2
 replace h:=h b H1 e1 e2
 refine T_pd [0] [(2,vp (pa b))]<| T_nw (some 3) (λb=>vp (pa b)) (.cells #[vs lB lN lC] 46) ?_
 intro f H2 e3 e4
 replace h:=h f H2 e3 e4
 refine T_pd [1] [(3,vp (pa f))]<| T_ed 1 [] []<| qD K3 0 (by kernel_rfl) (by kernel_rfl)<| T_sz<| ar 1 ?_
 obtain⟨x,q5,h⟩:=h
 refine T_l1 15 58 q5 []<| T_c (some 16) h ?_;clear h
 rintro v H3 ⟨bw,rfl,h⟩
 refine T_pd [15] [(16,.bool bw)]<| T_e ?_
 by_cases c6:bw=true
 ·rw[if_pos c6]at h
  refine aF 16 c6<| ar 2<| T_ud [2,16] [] ?_
  obtain⟨xB,xN,xC,q8,h⟩:=h
  refine T_l1 17 46 q8 [3]<| T_c (some 18) h ?_;clear h
  rintro cw H4 ⟨bo,bm,bp,rfl,h⟩
  refine⟨[(18,vs bo bm bp)],pk,?_⟩
  exact T_nr 1 [4] [vs bo bm bp] hQ h
 rw[if_neg c6]at h
 refine aE 16 (zZ c6)<| T_kt<| ar 3<| T_ud [16] [] ?_
 obtain⟨b9,aa,cc,q9,h⟩:=h
 refine T_l1 19 46 q9 []<| T_nd 1 [19] [(20,vi aa)] ?_
 obtain⟨q10,q11,q12,q13,h⟩:=h
 refine N_op (some 21) (iy 79 (vi aa) (vi aa)) (λv Hz=>v=Value.slice (some (Addr.mk H3.size 0 none)) (Int.toNat (aa:Int)) (Int.toNat (aa:Int))/\Hz=H3.push (.cells (Builtin.zeroCells #[vi 0] (Int.toNat (aa:Int))) 3)) (λ_=>by kernel_rfl) (nk (T:=3) (zero:=vi 0) Tryz.underlying79 (show Tryz.prog.info? 3=some Tryz.t3 from by kernel_rfl) (by kernel_rfl) q10 q11 q12 q13 (by kernel_rfl) (by decide)) ?_
 rintro _ H5 ⟨rfl,e15⟩
 obtain⟨bh,e14⟩: ∃b,b=H3.size:=⟨_,rfl⟩
 replace h:=h bh H5 e14 e15
 rw[<-e14]
 refine T_pd [20] [(21,vs (pa bh) (Int.toNat (aa:Int)) (Int.toNat (aa:Int)))]<| T_nw (some 5) (λb=>vp (pa b)) (.cells #[vs none 0 0] 79) ?_
 intro d H6 e16 e17
 replace h:=h d H6 e16 e17
 refine T_pd [] [(5,vp (pa d))] ?_
 obtain⟨q19,h⟩:=h
 refine eq 79 (vs (pa bh) (Int.toNat (aa:Int)) (Int.toNat (aa:Int))) q19 ?_
 intro H7 e18
 replace h:=h H7 e18
 refine T_pd [21] []<| T_e<| T_sz<| ar 4 ?_
 obtain⟨al,l,u,q20,h⟩:=h
 refine T_l1 22 46 q20 []<| T_ed 2 [] [(23,vi l),(24,vi 0)]<| T_bz 0 ?_
 obtain⟨b4,m20,i21,i22⟩:=h
 refine bO (x:=K19) (σ:=Int) (λs_=> [(2,vp (pa b)),(3,vp (pa f)),(5,vp (pa d)),(22,vs al l u),(23,vi l),(24,vi s_)]) (λs_ H=>b4 s_ H) (λs_ H=>m20 s_ H) (0:Int) (by kernel_rfl) i21 sk ?_
 rintro m H8 i23
 have h:=i22 m H8 i23
 refine T_su [(2,vp (pa b)),(3,vp (pa f)),(5,vp (pa d)),(22,vs al l u),(23,vi l),(24,vi m)]<| ar 5<| T_ed 1 [] [(25,.bool (decide (m< (l:Int))))]<| T_sz ?_
 by_cases c24:m< (l:Int)
 ·rw[if_pos c24]at h
  refine aF 25 (zX c24)<| T_kt<| T_sz<| T_bz 1<| ar 6<| T_nd 1 [25] [(26,vi m)] ?_
  obtain⟨ab,rfl,q26,h⟩:=h
  refine T_xd (some 27) 46 119 2 ab l u .i64 m Tryz.underlying46 q26.1 q26.2 [22] [(22,vs (some ab) l u),(27,vp (some (ab.add (Int.toNat m*2))))] ?_
  obtain⟨az,ae,q27,h⟩:=h
  refine T_lr 28 119 q27 [27]<| T_nw (some 7) (λb=>vp (pa b)) (.cells #[vu 0,vu 0] 119) ?_
  intro au H9 e28 e29
  replace h:=h au H9 e28 e29
  refine T_pd [] [(7,vp (pa au))]<| T_nd 1 [26] [(6,vi m)] ?_
  obtain⟨q31,h⟩:=h
  refine fH 119 [vu az,vu ae] q31 ?_
  intro b5 e30
  replace h:=h b5 e30
  refine T_pd [28] []<| T_e<| ar 7 ?_
  obtain⟨br,q32,h⟩:=h
  refine T_l1 29 58 q32 []<| T_nd 1 [7] [(30,vp (pa au))] ?_
  obtain⟨b3,q33,h⟩:=h
  refine T_l1 31 33 q33 [30]<| T_c (some 32) h ?_;clear h
  rintro cu bt ⟨bd,rfl,h⟩
  refine T_pd [29,31] [(32,.bool bd)]<| T_ed 1 [32] [(33,.bool (!bd))] ?_
  by_cases c34:bd=true
  ·rw[if_pos c34]at h
   exact aE 33 (congrArg Bool.not (c34))<| T_k<| aB<| aC<| T_rz 9<| T_ed 2 [6,24,33] [(24,vi (zY (m+1)))]<| aK ((zY (m+1)):Int) sk h
  rw[if_neg c34]at h
  refine aF 33 (congrArg Bool.not (zZ c34))<| T_rz 8<| T_ud [33] [] ?_
  obtain⟨bk,a9,bf,q36,h⟩:=h
  refine T_l1 34 79 q36 []<| T_nd 1 [6] [(35,vi m)] ?_
  obtain⟨ax,rfl,q37,h⟩:=h
  refine T_xd (some 36) 79 3 1 ax a9 bf .i64 m Tryz.underlying79 q37.1 q37.2 [34,35] [(36,vp (some (ax.add (Int.toNat m*1))))] ?_
  obtain⟨q39,h⟩:=h
  refine eq 3 (vi 1) q39 ?_
  intro cd e38
  replace h:=h cd e38
  exact T_pd [36] []<| zq<| aB<| aC<| T_rz 9<| T_ed 2 [24] [(24,vi (zY (m+1)))]<| aK ((zY (m+1)):Int) sk h
 rw[if_neg c24]at h
 refine aE 25 (zQ c24)<| zj 0<| aA<| aA<| aH<| aC<| ar 10<| T_ed 2 [22,23,24,25] [(8,.func (.func 58) #[] #[vp (pa d),vp (pa b),vp (pa f)])] ?_
 obtain⟨ce,m38,i40,i41⟩:=h
 refine qE 0 K37 [(2,vp (pa b)),(3,vp (pa f)),(5,vp (pa d)),(8,.func (.func 58) #[] #[vp (pa d),vp (pa b),vp (pa f)])] ce m38 (by kernel_rfl) (by kernel_rfl) i40 sk ?_
 rintro b2 i42
 have h:=i41 b2 i42
 refine T_sz<| ar 11 ?_
 obtain⟨an,p,af,q43,h⟩:=h
 refine T_l (some 39) 46 q43 [(2,vp (pa b)),(3,vp (pa f)),(5,vp (pa d)),(8,.func (.func 58) #[] #[vp (pa d),vp (pa b),vp (pa f)]),(39,vs an p af)]<| T_ed 2 [] [(40,vi p),(41,vi 0)]<| T_bz 2 ?_
 obtain⟨ch,m44,i44,i45⟩:=h
 refine bO (x:=K43) (σ:=Int) (λs_=> [(2,vp (pa b)),(3,vp (pa f)),(5,vp (pa d)),(8,.func (.func 58) #[] #[vp (pa d),vp (pa b),vp (pa f)]),(39,vs an p af),(40,vi p),(41,vi s_)]) (λs_ H=>ch s_ H) (λs_ H=>m44 s_ H) (0:Int) (by kernel_rfl) i44 sk ?_
 rintro q H14 i46
 have h:=i45 q H14 i46
 refine T_su [(2,vp (pa b)),(3,vp (pa f)),(5,vp (pa d)),(8,.func (.func 58) #[] #[vp (pa d),vp (pa b),vp (pa f)]),(39,vs an p af),(40,vi p),(41,vi q)]<| ar 12<| T_ed 1 [] [(42,.bool (decide (q< (p:Int))))]<| T_sz ?_
 by_cases c47:q< (p:Int)
 ·rw[if_pos c47]at h
  refine aF 42 (zX c47)<| T_kt<| T_sz<| T_bz 3<| ar 13<| T_nd 1 [42] [(43,vi q)] ?_
  obtain⟨ag,rfl,q49,h⟩:=h
  refine T_xd (some 44) 46 119 2 ag p af .i64 q Tryz.underlying46 q49.1 q49.2 [39] [(39,vs (some ag) p af),(44,vp (some (ag.add (Int.toNat q*2))))] ?_
  obtain⟨ah,z,q50,h⟩:=h
  refine T_lr 45 119 q50 [44]<| T_nw (some 10) (λb=>vp (pa b)) (.cells #[vu 0,vu 0] 119) ?_
  intro ac H15 e51 e52
  replace h:=h ac H15 e51 e52
  refine T_pd [] [(10,vp (pa ac))]<| T_nd 1 [43] [(9,vi q)] ?_
  obtain⟨q54,h⟩:=h
  refine fH 119 [vu ah,vu z] q54 ?_
  intro cj e53
  replace h:=h cj e53
  refine T_pd [45] []<| T_e<| ar 14<| T_nd 2 [] [(46,.func (.func 58) #[] #[vp (pa d),vp (pa b),vp (pa f)]),(47,vi q)]<| T_c (some 48) h ?_;clear h
  rintro cs bu ⟨bz,rfl,h⟩
  refine T_pd [46,47] [(48,.bool bz)]<| T_e ?_
  by_cases c55:bz=true
  ·rw[if_pos c55]at h
   refine aF 48 c55<| ar 15<| T_ud [39,40,41,48] [] ?_
   obtain⟨bi,a4,bg,q57,h⟩:=h
   refine T_l1 49 79 q57 []<| T_nd 1 [9] [(50,vi q)] ?_
   obtain⟨ay,rfl,q58,h⟩:=h
   refine T_xd (some 51) 79 3 1 ay a4 bg .i64 q Tryz.underlying79 q58.1 q58.2 [49,50] [(51,vp (some (ay.add (Int.toNat q*1))))] ?_
   obtain⟨q60,h⟩:=h
   refine eq 3 (vi 2) q60 ?_
   intro b1 e59
   replace h:=h b1 e59
   refine T_pd [51] []<| T_e<| ar 16 ?_
   obtain⟨bs,q61,h⟩:=h
   refine T_l1 52 58 q61 []<| T_nd 1 [] [(53,vp (pa ac))] ?_
   obtain⟨b6,q62,h⟩:=h
   refine T_l1 54 33 q62 [53]<| T_c (some 55) h ?_;clear h
   rintro cv cg ⟨aq,rfl,h⟩
   refine T_pd [52,54] [(55,vu aq)]<| T_ed 1 [55] [(11,vu aq)]<| T_sz ?_
   obtain⟨aj,q63,aw,q64,ba,q65,h⟩:=h
   refine yY 17 (Code.ops K63) [(6,(ad b),[vp aj]),(4,(ad b),[vp aw]),(4,((ad ac).add 1),[vu ba])] 7 (bv 7 0) (show aG _ _ _ from⟨⟨q63,trivial⟩,⟨q64,trivial⟩,⟨q65,trivial⟩,trivial⟩)<| T_g 0 (some 56) (vp aj) (bv 7 1) [(2,vp (pa b)),(3,vp (pa f)),(5,vp (pa d)),(8,.func (.func 58) #[] #[vp (pa d),vp (pa b),vp (pa f)]),(10,vp (pa ac)),(11,vu aq),(56,vp aj)] (aS 58 (vp (pa b))) (yW 6 yZ)<| T_g1 1 57 (vp aw) (bv 7 3) [] (aS 58 (vp (pa b))) (yW 4 yX)<| aD 2 58 (vp (some ((ad ac).add 1))) (bv 7 7) [10]<| T_g1 3 59 (vu ba) (bv 7 15) [58] (aS 33 (vp (some ((ad ac).add 1)))) (yW 4 yQ)<| aD 5 61 (vu aq) (bv 7 47) [11]<| yq 4 (some 60) (bv 7 63) 20 #[vp aw,vu ba] h ?_;clear h
   rintro cr cm ⟨bx,rfl,f66,h⟩
   refine⟨[(2,vp (pa b)),(3,vp (pa f)),(5,vp (pa d)),(8,.func (.func 58) #[] #[vp (pa d),vp (pa b),vp (pa f)]),(56,vp aj),(60,vu bx),(61,vu aq)],pk,(show aG _ _ _ from⟨f66,trivial,trivial,trivial⟩),?_⟩
   refine yq 6 (some 62) (bv 7 127) 59 #[vp aj,vu bx,vu aq] h ?_;clear h
   intro v_7 co h
   refine⟨[(2,vp (pa b)),(3,vp (pa f)),(5,vp (pa d)),(8,.func (.func 58) #[] #[vp (pa d),vp (pa b),vp (pa f)])],pk,(show aG _ _ _ from⟨trivial,trivial,trivial,trivial⟩),?_⟩
   refine eR [(2,vp (pa b)),(3,vp (pa f)),(5,vp (pa d)),(8,.func (.func 58) #[] #[vp (pa d),vp (pa b),vp (pa f)])] sk ?_
   refine yx<| aC<| ar 18 ?_
   obtain⟨bn,q67,h⟩:=h
   refine T_l (some 63) 58 q67 [(2,vp (pa b)),(3,vp (pa f)),(5,vp (pa d)),(8,.func (.func 58) #[] #[vp (pa d),vp (pa b),vp (pa f)]),(63,vp bn)]<| T_c (some 64) h ?_;clear h
   intro v_8 cl h
   exact T_pd [63] []<| T_e<| sn 0 (by kernel_rfl)<| kQ<| jM<| jM<| kQ<| jM<| so sk h
  rw[if_neg c55]at h
  exact aE 48 (zZ c55)<| T_k<| aB<| aC<| T_rz 19<| T_ed 2 [9,10,41,48] [(41,vi (zY (q+1)))]<| aK ((zY (q+1)):Int) sk h
 rw[if_neg c47]at h
 refine aE 42 (zQ c47)<| zj 2<| aA<| aA<| aH<| aC<| ar 20<| T_ed 1 [8,39,40,41,42] [(12,vs none 0 0)]<| T_sz<| ar 21 ?_
 obtain⟨am,g,o,q68,h⟩:=h
 refine T_l1 66 46 q68 [3]<| T_ed 2 [] [(67,vi g),(68,vi 0)]<| T_bz 4 ?_
 obtain⟨b0,m75,i69,i70⟩:=h
 refine bO (x:=K74) (σ:=zW×Nat×Nat×Int) (λs_=> [(2,vp (pa b)),(5,vp (pa d)),(12,vs s_.1 s_.2.1 s_.2.2.1),(66,vs am g o),(67,vi g),(68,vi s_.2.2.2)]) (λs_ H=>b0 s_.1 s_.2.1 s_.2.2.1 s_.2.2.2 H) (λs_ H=>m75 s_.1 s_.2.1 s_.2.2.1 s_.2.2.2 H) ((none,0,0,0):zW×Nat×Nat×Int) (by kernel_rfl) i69 sk ?_
 rintro⟨j,outN,outC,s68⟩ H23 i71
 have h:=i70 j outN outC s68 H23 i71
 refine T_su [(2,vp (pa b)),(5,vp (pa d)),(12,vs j outN outC),(66,vs am g o),(67,vi g),(68,vi s68)]<| ar 22<| T_ed 1 [] [(69,.bool (decide (s68< (g:Int))))]<| T_sz ?_
 by_cases c72:s68< (g:Int)
 ·rw[if_pos c72]at h
  refine aF 69 (zX c72)<| T_kt<| T_sz<| T_bz 5<| ar 23<| T_nd 1 [69] [(70,vi s68)] ?_
  obtain⟨r,rfl,q74,h⟩:=h
  refine T_xd (some 71) 46 119 2 r g o .i64 s68 Tryz.underlying46 q74.1 q74.2 [66] [(66,vs (some r) g o),(71,vp (some (r.add (Int.toNat s68*2))))] ?_
  obtain⟨ai,y,q75,h⟩:=h
  refine T_lr 72 119 q75 [71]<| T_nw (some 14) (λb=>vp (pa b)) (.cells #[vu 0,vu 0] 119) ?_
  intro s H24 e76 e77
  replace h:=h s H24 e76 e77
  refine T_pd [] [(14,vp (pa s))]<| T_nd 1 [70] [(13,vi s68)] ?_
  obtain⟨q79,h⟩:=h
  refine fH 119 [vu ai,vu y] q79 ?_
  intro bc e78
  replace h:=h bc e78
  refine T_pd [72] []<| T_e<| ar 24 ?_
  obtain⟨bl,a6,be,q80,h⟩:=h
  refine T_l1 73 79 q80 []<| T_nd 1 [13] [(74,vi s68)] ?_
  obtain⟨a7,rfl,q81,h⟩:=h
  refine T_xd (some 75) 79 3 1 a7 a6 be .i64 s68 Tryz.underlying79 q81.1 q81.2 [73,74] [(75,vp (some (a7.add (Int.toNat s68*1))))] ?_
  obtain⟨a2,q82,h⟩:=h
  refine T_l1 76 3 q82 [75]<| T_nd 2 [76] [(78,.bool (decide (a2<2)))] ?_
  by_cases c83:a2<2
  ·rw[if_pos c83]at h
   refine N_bd 78 (zX c83) ?_
   obtain⟨a3,q85,h⟩:=h
   refine T_l1 79 58 q85 []<| T_nd 1 [] [(80,vp (some ((ad s).add 1)))] ?_
   obtain⟨bj,q86,h⟩:=h
   refine T_l1 81 33 q86 [80]<| T_c (some 82) h ?_;clear h
   rintro ct bq ⟨a8,rfl,h⟩
   refine T_pd [79,81] [(82,.bool a8)]<| T_ed 1 [78,82] [(83,.bool a8)] ?_
   by_cases c87:a8=true
   ·rw[if_pos c87]at h
    refine aF 83 c87 ?_
    obtain⟨ak,q89,av,q90,ao,q91,a0,q92,h⟩:=h
    refine yY 25 (Code.ops K88) [(4,(ad b),[vp ak]),(4,(ad s),[vu av]),(8,(ad b),[vp ao]),(8,((ad s).add 1),[vu a0])] 13 (bv 13 0) (show aG _ _ _ from⟨⟨q89,trivial⟩,⟨q90,trivial⟩,⟨q91,trivial⟩,⟨q92,trivial⟩,trivial⟩)<| T_gp 0 (some 84) (vs j outN outC) (bv 13 1) [(2,vp (pa b)),(5,vp (pa d)),(12,vs j outN outC),(14,vp (pa s)),(66,vs (some r) g o),(67,vi g),(68,vi s68),(84,vs j outN outC)]<| T_g1 1 85 (vp ak) (bv 13 3) [] (aS 58 (vp (pa b))) (yW 4 yZ)<| aD 2 86 (vp (pa s)) (bv 13 7) []<| T_g1 3 87 (vu av) (bv 13 15) [86] (aS 33 (vp (pa s))) (yW 4 yX)<| T_g1 5 89 (vp ao) (bv 13 47) [] (aS 58 (vp (pa b))) (yW 8 yQ)<| aD 6 90 (vp (some ((ad s).add 1))) (bv 13 111) [14]<| T_g1 7 91 (vu a0) (bv 13 239) [90] (aS 33 (vp (some ((ad s).add 1)))) (yW 8 yJ)<| yq 4 (some 88) (bv 13 255) 20 #[vp ak,vu av] h ?_;clear h
    rintro cp ci ⟨a1,rfl,f93,f94,h⟩
    refine⟨[(2,vp (pa b)),(5,vp (pa d)),(12,vs j outN outC),(66,vs (some r) g o),(67,vi g),(68,vi s68),(84,vs j outN outC),(88,vu a1),(89,vp ao),(91,vu a0)],pk,(show aG _ _ _ from⟨trivial,trivial,f93,f94,trivial⟩),?_⟩
    refine yq 8 (some 92) (bv 13 511) 20 #[vp ao,vu a0] h ?_;clear h
    rintro cn cq ⟨a5,rfl,h⟩
    refine⟨[(2,vp (pa b)),(5,vp (pa d)),(12,vs j outN outC),(66,vs (some r) g o),(67,vi g),(68,vi s68),(84,vs j outN outC),(88,vu a1),(92,vu a5)],pk,(show aG _ _ _ from⟨trivial,trivial,trivial,trivial,trivial⟩),?_⟩
    refine T_g 9 (some 93) (.agg #[vu a1,vu a5]) (bv 13 1023) [(2,vp (pa b)),(5,vp (pa d)),(12,vs j outN outC),(66,vs (some r) g o),(67,vi g),(68,vi s68),(84,vs j outN outC),(93,.agg #[vu a1,vu a5])] (pure (.value (.agg #[vu a1,vu a5])):Sem Next) (λ_ _ _ _ _=>rfl)<| nN 10 (some 94) (bv 13 2047) (λb=>vs (pa b) 1 1) (.cells #[vu a1,vu a5] 119) (by kernel_rfl) (λ_=>by kernel_rfl) (by kernel_rfl) ?_
    intro b8 H29 e95 e96
    replace h:=h b8 H29 e95 e96
    refine⟨[(2,vp (pa b)),(5,vp (pa d)),(12,vs j outN outC),(66,vs (some r) g o),(67,vi g),(68,vi s68),(84,vs j outN outC),(94,vs (pa b8) 1 1)],pk,(show aG _ _ _ from⟨trivial,trivial,trivial,trivial,trivial⟩),?_⟩
    refine nj 11 (some 95) (bv 13 4095) (dJ #[46,46] 46 #[vs j outN outC,vs (pa b8) 1 1]) _ (by kernel_rfl) (λ_=>by kernel_rfl) (di (T:=119) (sz:=2) (bytes:=16) (zero:=(.agg #[vu 0,vu 0]:Value)) Tryz.underlying46 Tryz.underlying46 rfl (show Tryz.prog.info? 119=some Tryz.t119 from by kernel_rfl) (by kernel_rfl) (by kernel_rfl) (by decide) (by kernel_rfl) (by first | exact h | (simpa only[Value.cells,List.toList_toArray]using h))) (by kernel_rfl) ?_;clear h
    rintro _ ck ⟨ap,bb,rfl,h⟩
    refine⟨[(2,vp (pa b)),(5,vp (pa d)),(12,vs j outN outC),(66,vs (some r) g o),(67,vi g),(68,vi s68),(95,vs ap (outN+1) bb)],pk,(show aG _ _ _ from⟨trivial,trivial,trivial,trivial,trivial⟩),?_⟩
    exact T_g 12 (some 12) (vs ap (outN+1) bb) (bv 13 8191) [(2,vp (pa b)),(5,vp (pa d)),(12,vs ap (outN+1) bb),(66,vs (some r) g o),(67,vi g),(68,vi s68)] (pure (.value (vs ap (outN+1) bb)):Sem Next) (λ_ _ _ _ _=>rfl)<| eR [(2,vp (pa b)),(5,vp (pa d)),(12,vs ap (outN+1) bb),(66,vs (some r) g o),(67,vi g),(68,vi s68)] sk<| yx<| aB<| aC<| T_rz 26<| T_ne 2 [(2,vp (pa b)),(5,vp (pa d)),(12,vs ap (outN+1) bb),(66,vs (some r) g o),(67,vi g),(68,vi (zY (s68+1)))]<| aK ((ap,(outN+1),bb,(zY (s68+1))):zW×Nat×Nat×Int) sk h
   rw[if_neg c87]at h
   exact aE 83 (zZ c87)<| T_k<| aB<| aC<| T_rz 26<| T_ed 2 [14,68,83] [(68,vi (zY (s68+1)))]<| aK ((j,outN,outC,(zY (s68+1))):zW×Nat×Nat×Int) sk h
  rw[if_neg c83]at h
  refine N_bd 78 (zQ c83)<| T_ed 5 [78] [(83,.bool false)]<| T_fz 83<| T_k ?_
  exact aB<| aC<| T_rz 26<| T_ed 2 [14,68,83] [(68,vi (zY (s68+1)))]<| aK ((j,outN,outC,(zY (s68+1))):zW×Nat×Nat×Int) sk h
 rw[if_neg c72]at h
 exact aE 69 (zQ c72)<| zj 4<| aA<| aA<| aH<| aC<| ar 27<| T_nr 2 [4] [vs j outN outC] hQ h
end eY

/-! moraine/weak.Breaks -/
namespace eZ
def K0:=Func.code Tryz.f24
def K2:=cb K0
def K8:=cb K2
def K9:=ca K8
def K10:=ca K9
def K12:=cb K10
def K14:=cb K12
def K17:=ca K14
def K19:=ca K17
def K21:=cb K19
def K23:=cb K21
def K24:=ca K23
def K26:=cb K24
def K28:=cb K26
def K30:=cb K28
def K31:=ca K30
end eZ
def eZ.pt(tv:zW)(H:zV)(R:zk):Prop:=
 eM.C tv H (λv H1=> ∃x:Bool,v=.bool x/\
 if x=true then(
 R (.tuple #[]) H1)
 else
 cX.C tv H1 (λa0 H2=> ∃(xB:zW) (xN xC:Nat),a0=.slice xB xN xC/\
 ∃(s:zv) (m11:Int->zV->Nat),s 0 H2/\ ∀(b:Int) (H3:zV),s b H3->
 if b< (xN:Int)then(
 ∃f:Addr,xB=some f/\
 zw b xN/\
 ∃g:Int,hat H3 (f.add (Int.toNat b*1))=some (.int .i64 g)/\
 ∃d:Addr,tv=some d/\
 ∃ai:zW,hat H3 d=some (.pointer ai)/\
 ∃ag:Addr,ai=some ag/\
 ∃ah:zW,hat H3 ag=some (.pointer ah)/\
 ∃ak:Addr,ah=some ak/\
 ∃al:zW,hat H3 ak=some (.pointer al)/\
 ∃aj:Addr,al=some aj/\
 ∃af:zW,hat H3 aj=some (.pointer af)/\
 bR.C af g H3 (λay H4=> ∃ra rb:Int,ay=.tuple #[.int .u64 ra,.int .i64 rb]/\
 cO.C (some d) ra H4 (λau H5=> ∃p:Bool,au=.bool p/\
 if p=true then(
 bG.C (some d) ra H5 (λaz H6=> ∃r:Bool,az=.bool r/\
 if r=true then(
 ∃ap:zW,hat H6 d=some (.pointer ap)/\
 ∃o:Addr,ap=some o/\
 ∃am:zW,hat H6 o=some (.pointer am)/\
 ∃l:Addr,am=some l/\
 ∃an:zW,hat H6 l=some (.pointer an)/\
 ∃j:Addr,an=some j/\
 ∃m:zW,hat H6 j=some (.pointer m)/\
 aW.C (some d) ra H6 (λaw H7=> ∃u:Int,aw=.int .u64 u/\aU H7 d 0 [.pointer (some o)]/\aU H7 o 0 [.pointer (some l)]/\aU H7 l 0 [.pointer (some j)]/\aU H7 j 0 [.pointer m]/\
 cz.C m g u H7 (λax H8=> ∃aq:Int,ax=.int .i64 aq/\
 (s (zY (b+1)) H8/\m11 (zY (b+1)) H8<m11 b H3))))
 else
 ∃ac:zW,hat H6 d=some (.pointer ac)/\
 ∃y:Addr,ac=some y/\
 ∃ab:zW,hat H6 y=some (.pointer ab)/\
 ∃aa:Addr,ab=some aa/\
 ∃ae:zW,hat H6 aa=some (.pointer ae)/\
 ∃z:Addr,ae=some z/\
 ∃q:zW,hat H6 z=some (.pointer q)/\
 cz.C q g 44 H6 (λav H9=> ∃ao:Int,av=.int .i64 ao/\
 (s (zY (b+1)) H9/\m11 (zY (b+1)) H9<m11 b H3))))
 else
 (s (zY (b+1)) H5/\m11 (zY (b+1)) H5<m11 b H3))))
 else
 R (.tuple #[]) H3))
namespace eZ
theorem link{tv:zW}{H:zV}{R:zk}(h:pt tv H R):C tv H R:=by
 refine T_en K0 76 Tryz.func24 ?_
 intro w0 Q hQ
 unfold pt zY at h
 refine T_su [(0,vp tv)]<| T_sz<| ar 0<| T_nd 1 [] [(6,vp tv)]<| T_c (some 7) h ?_;clear h
 rintro v H1 ⟨x,rfl,h⟩
 refine T_pd [6] [(7,.bool x)]<| T_e ?_
 by_cases c1:x=true
 ·rw[if_pos c1]at h
  exact aF 7 c1<| fF [] [] hQ h
 rw[if_neg c1]at h
 refine aE 7 (zZ c1)<| T_kt<| ar 1<| T_nd 1 [7] [(8,vp tv)]<| T_c (some 9) h ?_;clear h
 rintro a0 H2 ⟨xB,xN,xC,rfl,h⟩
 refine T_pd [8] [(9,vs xB xN xC)]<| T_ed 2 [] [(10,vi xN),(11,vi 0)]<| T_bz 0 ?_
 obtain⟨s,m11,i3,i4⟩:=h
 refine bO (x:=K10) (σ:=Int) (λs_=> [(0,vp tv),(9,vs xB xN xC),(10,vi xN),(11,vi s_)]) (λs_ H=>s s_ H) (λs_ H=>m11 s_ H) (0:Int) (by kernel_rfl) i3 sk ?_
 rintro b H3 i5
 have h:=i4 b H3 i5
 refine T_su [(0,vp tv),(9,vs xB xN xC),(10,vi xN),(11,vi b)]<| ar 2<| T_ed 1 [] [(12,.bool (decide (b< (xN:Int))))]<| T_sz ?_
 by_cases c6:b< (xN:Int)
 ·rw[if_pos c6]at h
  refine aF 12 (zX c6)<| T_kt<| T_sz<| T_bz 1<| ar 3<| T_ud [12] [] ?_
  obtain⟨f,rfl,q8,h⟩:=h
  refine T_xd (some 13) 79 3 1 f xN xC .i64 b Tryz.underlying79 q8.1 q8.2 [9] [(9,vs (some f) xN xC),(13,vp (some (f.add (Int.toNat b*1))))] ?_
  obtain⟨g,q9,h⟩:=h
  refine T_l1 14 3 q9 [13]<| T_ed 1 [14] [(3,vi g)]<| ar 4<| T_nd 1 [] [(16,vp tv)] ?_
  obtain⟨d,rfl,h⟩:=h
  refine T_nd 2 [0,16] [(0,vp (some d)),(18,vp (some d))] ?_
  obtain⟨ai,q10,h⟩:=h
  refine T_l1 19 34 q10 [18] ?_
  obtain⟨ag,rfl,h⟩:=h
  refine T_nd 2 [19] [(21,vp (some ag))] ?_
  obtain⟨ah,q11,h⟩:=h
  refine T_l1 22 44 q11 [21] ?_
  obtain⟨ak,rfl,h⟩:=h
  refine T_nd 2 [22] [(24,vp (some ak))] ?_
  obtain⟨al,q12,h⟩:=h
  refine T_l1 25 81 q12 [24] ?_
  obtain⟨aj,rfl,h⟩:=h
  refine T_nd 2 [25] [(27,vp (some aj))] ?_
  obtain⟨af,q13,h⟩:=h
  refine T_l1 28 84 q13 [27]<| T_nd 1 [] [(29,vi g)]<| T_c (some 30) h ?_;clear h
  rintro ay H4 ⟨ra,rb,rfl,h⟩
  refine T_pd [28,29] [(30,.tuple #[vu ra,vi rb])]<| T_ed 5 [30] [(4,vu ra)]<| T_bz 2<| ar 6<| T_nd 2 [] [(49,vp (some d)),(50,vu ra)]<| T_c (some 51) h ?_;clear h
  rintro au H5 ⟨p,rfl,h⟩
  refine T_pd [49,50] [(51,.bool p)]<| T_ed 2 [51] [(48,.bool (!p))] ?_
  by_cases c14:p=true
  ·rw[if_pos c14]at h
   refine aE 48 (congrArg Bool.not (c14))<| ar 7<| T_nd 2 [48] [(54,vp (some d)),(55,vu ra)]<| T_c (some 56) h ?_;clear h
   rintro az H6 ⟨r,rfl,h⟩
   refine T_pd [54,55] [(56,.bool r)]<| T_ed 1 [56] [(53,.bool r)] ?_
   by_cases c16:r=true
   ·rw[if_pos c16]at h
    refine aF 53 c16 ?_
    obtain⟨ap,q18,o,rfl,am,q19,l,rfl,an,q20,j,rfl,m,q21,h⟩:=h
    refine yY 8 (Code.ops K31) [(17,d,[vp (some o)]),(17,o,[vp (some l)]),(17,l,[vp (some j)]),(17,j,[vp m])] 18 (bv 18 0) (show aG _ _ _ from⟨⟨q18,trivial⟩,⟨q19,trivial⟩,⟨q20,trivial⟩,⟨q21,trivial⟩,trivial⟩)<| T_gp 0 (some 57) (vp (some d)) (bv 18 1) [(0,vp (some d)),(3,vi g),(4,vu ra),(9,vs (some f) xN xC),(10,vi xN),(11,vi b),(57,vp (some d))]<| aD 1 58 (vp (some d)) (bv 18 3) [57]<| aD 2 59 (vp (some d)) (bv 18 7) [58]<| T_g1 3 60 (vp (some o)) (bv 18 15) [59] (aS 34 (vp (some d))) (yW 17 yZ)<| aD 4 61 (vp (some o)) (bv 18 31) [60]<| aD 5 62 (vp (some o)) (bv 18 63) [61]<| T_g1 6 63 (vp (some l)) (bv 18 127) [62] (aS 44 (vp (some o))) (yW 17 yX)<| aD 7 64 (vp (some l)) (bv 18 255) [63]<| aD 8 65 (vp (some l)) (bv 18 511) [64]<| T_g1 9 66 (vp (some j)) (bv 18 1023) [65] (aS 81 (vp (some l))) (yW 17 yQ)<| aD 10 67 (vp (some j)) (bv 18 2047) [66]<| aD 11 68 (vp (some j)) (bv 18 4095) [67]<| T_g1 12 69 (vp m) (bv 18 8191) [68] (aS 84 (vp (some j))) (yW 17 yJ)<| aD 13 70 (vi g) (bv 18 16383) [3]<| aD 14 71 (vp (some d)) (bv 18 32767) []<| aD 15 72 (vu ra) (bv 18 65535) [4]<| yq 16 (some 73) (bv 18 131071) 20 #[vp (some d),vu ra] h ?_;clear h
    rintro aw H7 ⟨u,rfl,f22,f23,f24,f25,h⟩
    refine⟨[(0,vp (some d)),(9,vs (some f) xN xC),(10,vi xN),(11,vi b),(69,vp m),(70,vi g),(73,vu u)],pk,(show aG _ _ _ from⟨f22,f23,f24,f25,trivial⟩),?_⟩
    refine yq 17 (some 74) (bv 18 262143) 50 #[vp m,vi g,vu u] h ?_;clear h
    rintro ax H8 ⟨aq,rfl,h⟩
    refine⟨[(0,vp (some d)),(9,vs (some f) xN xC),(10,vi xN),(11,vi b)],pk,(show aG _ _ _ from⟨trivial,trivial,trivial,trivial,trivial⟩),?_⟩
    refine eR [(0,vp (some d)),(9,vs (some f) xN xC),(10,vi xN),(11,vi b)] sk ?_
    exact yx<| aB<| aB<| aC<| T_rz 9<| T_ne 2 [(0,vp (some d)),(9,vs (some f) xN xC),(10,vi xN),(11,vi (zY (b+1)))]<| aK ((zY (b+1)):Int) sk h
   rw[if_neg c16]at h
   refine aE 53 (zZ c16)<| T_rz 5<| T_nd 3 [4,53] [(35,vp (some d))] ?_
   obtain⟨ac,q26,h⟩:=h
   refine T_l1 36 34 q26 [35] ?_
   obtain⟨y,rfl,h⟩:=h
   refine T_nd 2 [36] [(38,vp (some y))] ?_
   obtain⟨ab,q27,h⟩:=h
   refine T_l1 39 44 q27 [38] ?_
   obtain⟨aa,rfl,h⟩:=h
   refine T_nd 2 [39] [(41,vp (some aa))] ?_
   obtain⟨ae,q28,h⟩:=h
   refine T_l1 42 81 q28 [41] ?_
   obtain⟨z,rfl,h⟩:=h
   refine T_nd 2 [42] [(44,vp (some z))] ?_
   obtain⟨q,q29,h⟩:=h
   refine T_l1 45 84 q29 [44]<| T_nd 1 [3] [(46,vi g)]<| T_c (some 47) h ?_;clear h
   rintro av H9 ⟨ao,rfl,h⟩
   exact T_pd [45,46] []<| zq<| aB<| aB<| aC<| T_rz 9<| T_ed 2 [11] [(11,vi (zY (b+1)))]<| aK ((zY (b+1)):Int) sk h
  rw[if_neg c14]at h
  exact aF 48 (congrArg Bool.not (zZ c14))<| T_k<| aB<| aB<| aC<| T_rz 9<| T_ed 2 [3,4,11,48] [(11,vi (zY (b+1)))]<| aK ((zY (b+1)):Int) sk h
 rw[if_neg c6]at h
 exact aE 12 (zQ c6)<| zj 0<| aA<| aA<| aH<| fN (fn:=Tryz.f24) [] hQ (show dh _ _ _ [] _ from .nil) h
end eZ

/-! moraine/weak.Prune -/
namespace fp
def K0:=Func.code Tryz.f25
def K2:=cb K0
def K4:=cb K2
def K12:=cb K4
def K13:=ca K12
def K16:=cb K13
def K17:=ca K16
def K18:=ca K17
end fp
def fp.pt(tv lB:zW)(lN lC:Nat)(H:zV)(R:zk):Prop:=
 eM.C tv H (λv H1=> ∃x:Bool,v=.bool x/\
 if x=true then(
 gU.C lB lN lC H1 (λr H2=> ∃(xB:zW) (xN xC:Nat),r=.slice xB xN xC/\
 R (.slice xB xN xC) H2))
 else
 ∃(m:zW->Nat->Nat->zv) (m19:zW->Nat->Nat->Int->zV->Nat),m none 0 0 0 H1/\ ∀(d:zW) (outN:Nat) (outC:Nat) (s14:Int) (H3:zV),m d outN outC s14 H3->
 if s14< (lN:Int)then(
 ∃f:Addr,lB=some f/\
 zw s14 lN/\
 ∃g:Int,hat H3 (f.add (Int.toNat s14*1))=some (.int .u64 g)/\
 bG.C tv g H3 (λq H4=> ∃l:Bool,q=.bool l/\
 if l=true then(
 aW.C tv g H4 (λp H5=> ∃o:Int,p=.int .u64 o/\
 ∀(b:Nat) (H6:zV),b=H5.size->H6=H5.push (.cells #[.int .u64 o] 33)->
 dw 1 33 8 [.int .u64 0] d outN outC (some (ad b)) 1 H6 (λap j H7=>
 (m ap (outN+1) j (zY (s14+1)) H7/\m19 ap (outN+1) j (zY (s14+1)) H7<m19 d outN outC s14 H3))))
 else
 (m d outN outC (zY (s14+1)) H4/\m19 d outN outC (zY (s14+1)) H4<m19 d outN outC s14 H3)))
 else
 R (.slice d outN outC) H3)
namespace fp
theorem link{tv lB:zW}{lN lC:Nat}{H:zV}{R:zk}(h:pt tv lB lN lC H R):C tv lB lN lC H R:=by
 refine T_en K0 29 Tryz.func25 ?_
 intro w0 Q hQ
 unfold pt zY at h
 refine T_su [(0,vp tv),(1,vs lB lN lC)]<| ar 0<| T_ed 1 [] []<| T_sz<| ar 1<| T_nd 1 [] [(8,vp tv)]<| T_c (some 9) h ?_;clear h
 rintro v H1 ⟨x,rfl,h⟩
 refine T_pd [8] [(9,.bool x)]<| T_e ?_
 by_cases c1:x=true
 ·rw[if_pos c1]at h
  refine aF 9 c1<| ar 2<| T_n 1 [(10,vs lB lN lC)]<| T_c (some 11) h ?_;clear h
  rintro r H2 ⟨xB,xN,xC,rfl,h⟩
  refine⟨[(11,vs xB xN xC)],pk,?_⟩
  exact T_nr 1 [4] [vs xB xN xC] hQ h
 rw[if_neg c1]at h
 refine aE 9 (zZ c1)<| T_kt<| ar 3<| T_ed 1 [9] [(5,vs none 0 0)]<| T_sz<| ar 4<| T_ed 3 [1] [(12,vs lB lN lC),(13,vi lN),(14,vi 0)]<| T_bz 0 ?_
 obtain⟨m,m19,i3,i4⟩:=h
 refine bO (x:=K18) (σ:=zW×Nat×Nat×Int) (λs_=> [(0,vp tv),(5,vs s_.1 s_.2.1 s_.2.2.1),(12,vs lB lN lC),(13,vi lN),(14,vi s_.2.2.2)]) (λs_ H=>m s_.1 s_.2.1 s_.2.2.1 s_.2.2.2 H) (λs_ H=>m19 s_.1 s_.2.1 s_.2.2.1 s_.2.2.2 H) ((none,0,0,0):zW×Nat×Nat×Int) (by kernel_rfl) i3 sk ?_
 rintro⟨d,outN,outC,s14⟩ H3 i5
 have h:=i4 d outN outC s14 H3 i5
 refine T_su [(0,vp tv),(5,vs d outN outC),(12,vs lB lN lC),(13,vi lN),(14,vi s14)]<| ar 5<| T_ed 1 [] [(15,.bool (decide (s14< (lN:Int))))]<| T_sz ?_
 by_cases c6:s14< (lN:Int)
 ·rw[if_pos c6]at h
  refine aF 15 (zX c6)<| T_kt<| T_sz<| T_bz 1<| ar 6<| T_ud [15] [] ?_
  obtain⟨f,rfl,q8,h⟩:=h
  refine T_xd (some 16) 45 33 1 f lN lC .i64 s14 Tryz.underlying45 q8.1 q8.2 [12] [(12,vs (some f) lN lC),(16,vp (some (f.add (Int.toNat s14*1))))] ?_
  obtain⟨g,q9,h⟩:=h
  refine T_l1 17 33 q9 [16]<| T_ed 1 [17] [(7,vu g)]<| ar 7<| T_nd 2 [] [(18,vp tv),(19,vu g)]<| T_c (some 20) h ?_;clear h
  rintro q H4 ⟨l,rfl,h⟩
  refine T_pd [18,19] [(20,.bool l)]<| T_e ?_
  by_cases c10:l=true
  ·rw[if_pos c10]at h
   refine aF 20 c10<| T_rz 8<| T_nd 3 [5,7,20] [(21,vs d outN outC),(22,vp tv),(23,vu g)]<| T_c (some 24) h ?_;clear h
   rintro p H5 ⟨o,rfl,h⟩
   refine T_pd [22,23] [(24,vu o)]<| T_nw (some 25) (λb=>vs (pa b) 1 1) (.cells #[vu o] 33) ?_
   intro b H6 e12 e13
   replace h:=h b H6 e12 e13
   refine T_pd [24] [(25,vs (pa b) 1 1)]<| N_op (some 26) (dJ #[45,45] 45 #[vs d outN outC,vs (pa b) 1 1]) _ (λ_=>by kernel_rfl) (di (T:=33) (sz:=1) (bytes:=8) (zero:=(vu 0:Value)) Tryz.underlying45 Tryz.underlying45 rfl (show Tryz.prog.info? 33=some Tryz.t33 from by kernel_rfl) (by kernel_rfl) (by kernel_rfl) (by decide) (by kernel_rfl) (by first | exact h | (simpa only[Value.cells,List.toList_toArray]using h))) ?_;clear h
   rintro _ H7 ⟨ap,j,rfl,h⟩
   exact T_pd [21,25] [(26,vs ap (outN+1) j)]<| T_nd 1 [26] [(5,vs ap (outN+1) j)]<| zq<| aB<| aC<| T_rz 9<| T_ed 2 [14] [(14,vi (zY (s14+1)))]<| aK ((ap,(outN+1),j,(zY (s14+1))):zW×Nat×Nat×Int) sk h
  rw[if_neg c10]at h
  exact aE 20 (zZ c10)<| T_k<| aB<| aC<| T_rz 9<| T_ed 2 [7,14,20] [(14,vi (zY (s14+1)))]<| aK ((d,outN,outC,(zY (s14+1))):zW×Nat×Nat×Int) sk h
 rw[if_neg c6]at h
 exact aE 15 (zQ c6)<| zj 0<| aA<| aA<| aH<| aC<| ar 10<| T_nr 2 [4] [vs d outN outC] hQ h
end fp

/-! moraine/weak.ended -/
namespace eM
def K0:=Func.code Tryz.f55
end eM
def eM.pt(tv:zW)(H:zV)(R:zk):Prop:=
 dM tv (
 R (.bool true) H) (λa=>
 cY.C (some a) H (λv H1=> ∃x:Bool,v=.bool x/\
 R (.bool x) H1))
namespace eM
theorem link{tv:zW}{H:zV}{R:zk}(h:pt tv H R):C tv H R:=by
 refine T_en K0 9 Tryz.func55 ?_
 intro w0 Q hQ
 unfold pt at h
 refine T_su [(0,vp tv)]<| ar 0<| T_ed 1 [] []<| ar 1<| T_nd 1 [] [(3,vp tv)] ?_
 rcases tv with _ | a
 ·rw[onPtr_none]at h
  exact T_nr 6 [2] [.bool true] hQ h
 rw[onPtr_some]at h
 refine T_n 3 [(5,.bool false),(6,vp (some a))]<| T_c (some 7) h ?_;clear h
 rintro v H1 ⟨x,rfl,h⟩
 exact T_pd [6] [(7,.bool x)]<| T_nr 2 [2] [.bool x] hQ h
end eM

/-! moraine/weak.Guards.1 -/
