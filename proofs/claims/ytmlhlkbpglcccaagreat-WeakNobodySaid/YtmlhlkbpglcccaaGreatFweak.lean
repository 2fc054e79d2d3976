/- Printed: what each function asks, and that it is sound. -/
import Derived.Test.YtmlhlkbpglcccaaGreatFnsC
set_option linter.unusedSimpArgs false
set_option linter.unusedVariables false
set_option maxRecDepth 100000
set_option maxHeartbeats 1000000
noncomputable section
namespace Go.Proofs.YtmlhlkbpglcccaaGreat
open Go
/-! moraine/weak.Guards -/
namespace df
def K0:=Func.code Tryz.f14
def K2:=cb K0
def K3:=ca K2
def K5:=cb K3
def K13:=cb K5
def K14:=ca K13
def K15:=cb K13
def K17:=cb K14
def K18:=ca K17
def K19:=ca K18
def K36:=cb K15
def K37:=cb K36
def K38:=ca K37
def K39:=cb K37
def K41:=cb K38
def K42:=ca K41
def K43:=ca K42
def K45:=cb K43
def K47:=cb K45
def K50:=ca K47
def K52:=ca K50
def K54:=cb K52
def K56:=cb K54
def K57:=ca K56
def K60:=cb K57
def K62:=cb K60
def K63:=ca K62
def K68:=cb K39
def K69:=ca K68
def K72:=cb K69
def K73:=ca K72
def K74:=ca K73
def K76:=cb K74
def K78:=cb K76
def K81:=ca K78
def K83:=ca K81
def K85:=cb K83
def K87:=cb K85
def K88:=ca K87
end df
def df.pt(tv lB:zW)(lN lC:Nat)(H:zV)(R:zj):Prop:=
 ∀(b:Nat) (H1:zV),b=H.size->H1=H.push (.cells #[.pointer tv] 37)->
 ∀(e:Nat) (H2:zV),e=H1.size->H2=H1.push (.cells #[.slice lB lN lC] 31)->
 ∃x:zW,hat H2 (ad b)=some (.pointer x)/\
 dq.C x H2 (λv H3=> ∃bw:Bool,v=.bool bw/\
 if bw=true then(
 ∃(xB:zW) (xN xC:Nat),hat H3 (ad e)=some (.slice xB xN xC)/\
 aR.C xB xN xC H3 (λcq H4=> ∃(bi:zW) (bk bj:Nat),cq=.slice bi bk bj/\
 R (.slice bi bk bj) H4))
 else
 ∃(b8:zW) (y b6:Nat),hat H3 (ad e)=some (.slice b8 y b6)/\
 0<=(y:Int)/\(y:Int)<=(y:Int)/\8*(y:Int)<=2 ^ 48/\(y:Int)<=9223372036854775807/\
 ∀(bf:Nat) (H5:zV),bf=H3.size->H5=H3.push (.cells (Builtin.zeroCells #[.int .i64 0] (Int.toNat (y:Int))) 3)->
 ∀(d:Nat) (H6:zV),d=H5.size->H6=H5.push (.cells #[.slice none 0 0] 79)->
 (aK H6 (ad d) 0 1)/\ ∀H7,H7=aS H6 (ad d) [.slice (some (ad bf)) (Int.toNat (y:Int)) (Int.toNat (y:Int))] 0->
 ∃(aj:zW) (j r:Nat),hat H7 (ad e)=some (.slice aj j r)/\
 ∃(b5:zk) (m20:Int->zV->Nat),b5 0 H7/\ ∀(l:Int) (H8:zV),b5 l H8->
 if l< (j:Int)then(
 ∃z:Addr,aj=some z/\
 zv l j/\
 ∃ax ab:Int,aT H8 (z.add (Int.toNat l*2)) 0 [.int .u64 ax,.int .u64 ab]/\
 ∀(ao:Nat) (H9:zV),ao=H8.size->H9=H8.push (.cells #[.int .u64 0,.int .u64 0] 36)->
 (aK H9 (ad ao) 0 2)/\ ∀b2,b2=aS H9 (ad ao) [.int .u64 ax,.int .u64 ab] 0->
 ∃bp:zW,hat b2 (ad b)=some (.pointer bp)/\
 ∃b4:Int,hat b2 (ad ao)=some (.int .u64 b4)/\
 aY.C bp b4 b2 (λct br=> ∃bb:Bool,ct=.bool bb/\
 if bb=true then(
 (b5 (zY (l+1)) br/\m20 (zY (l+1)) br<m20 l H8))
 else
 ∃(bn:zW) (a8 be:Nat),hat br (ad d)=some (.slice bn a8 be)/\
 ∃aw:Addr,bn=some aw/\
 zv l a8/\
 (aK br (aw.add (Int.toNat l*1)) 0 1)/\ ∀cd,cd=aS br (aw.add (Int.toNat l*1)) [.int .i64 1] 0->
 (b5 (zY (l+1)) cd/\m20 (zY (l+1)) cd<m20 l H8)))
 else
 ∃(ce:zV->Prop) (m38:zV->Nat),ce H8/\ ∀(b3:zV),ce b3->
 ∃(ai:zW) (n ac:Nat),hat b3 (ad e)=some (.slice ai n ac)/\
 ∃(cc:zk) (m44:Int->zV->Nat),cc 0 b3/\ ∀(o:Int) (H14:zV),cc o H14->
 if o< (n:Int)then(
 ∃ae:Addr,ai=some ae/\
 zv o n/\
 ∃af s:Int,aT H14 (ae.add (Int.toNat o*2)) 0 [.int .u64 af,.int .u64 s]/\
 ∀(aa:Nat) (H15:zV),aa=H14.size->H15=H14.push (.cells #[.int .u64 0,.int .u64 0] 36)->
 (aK H15 (ad aa) 0 2)/\ ∀ch,ch=aS H15 (ad aa) [.int .u64 af,.int .u64 s] 0->
 dH.C o (some (ad d)) (some (ad b)) (some (ad e)) ch (λcp bx=> ∃bu:Bool,cp=.bool bu/\
 if bu=true then(
 ∃(bm:zW) (a5 bd:Nat),hat bx (ad d)=some (.slice bm a5 bd)/\
 ∃au:Addr,bm=some au/\
 zv o a5/\
 (aK bx (au.add (Int.toNat o*1)) 0 1)/\ ∀b1,b1=aS bx (au.add (Int.toNat o*1)) [.int .i64 2] 0->
 ∃bq:zW,hat b1 (ad b)=some (.pointer bq)/\
 ∃b0:Int,hat b1 (ad aa)=some (.int .u64 b0)/\
 aU.C bq b0 b1 (λcu b9=> ∃an:Int,cu=.int .u64 an/\
 ∃ah:zW,hat b9 (ad b)=some (.pointer ah)/\
 ∃av:zW,hat b9 (ad b)=some (.pointer av)/\
 ∃a6:Int,hat b9 ((ad aa).add 1)=some (.int .u64 a6)/\
 aU.C av a6 b9 (λcs cn=> ∃bt:Int,cs=.int .u64 bt/\aT cn (ad b) 0 [.pointer ah]/\
 ff.C ah bt an cn (λ_ ck=>
 ∃bg:zW,hat ck (ad b)=some (.pointer bg)/\
 bW.C bg ck (λ_ ci=>
 (ce ci/\m38 ci<m38 b3))))))
 else
 (cc (zY (o+1)) bx/\m44 (zY (o+1)) bx<m44 o H14)))
 else
 ∃(ak:zW) (f m:Nat),hat H14 (ad e)=some (.slice ak f m)/\
 ∃(bs:zW->Nat->Nat->zk) (m75:zW->Nat->Nat->Int->zV->Nat),bs none 0 0 0 H14/\ ∀(g:zW) (outN:Nat) (outC:Nat) (s68:Int) (H23:zV),bs g outN outC s68 H23->
 if s68< (f:Int)then(
 ∃p:Addr,ak=some p/\
 zv s68 f/\
 ∃ag u:Int,aT H23 (p.add (Int.toNat s68*2)) 0 [.int .u64 ag,.int .u64 u]/\
 ∀(q:Nat) (H24:zV),q=H23.size->H24=H23.push (.cells #[.int .u64 0,.int .u64 0] 36)->
 (aK H24 (ad q) 0 2)/\ ∀ba,ba=aS H24 (ad q) [.int .u64 ag,.int .u64 u] 0->
 ∃(bh:zW) (a2 bc:Nat),hat ba (ad d)=some (.slice bh a2 bc)/\
 ∃a3:Addr,bh=some a3/\
 zv s68 a2/\
 ∃ay:Int,hat ba (a3.add (Int.toNat s68*1))=some (.int .i64 ay)/\
 if ay<2 then(
 ∃a1:zW,hat ba (ad b)=some (.pointer a1)/\
 ∃bl:Int,hat ba ((ad q).add 1)=some (.int .u64 bl)/\
 aY.C a1 bl ba (λcr bo=> ∃a7:Bool,cr=.bool a7/\
 if a7=true then(
 ∃al:zW,hat bo (ad b)=some (.pointer al)/\
 ∃aq:Int,hat bo (ad q)=some (.int .u64 aq)/\
 ∃am:zW,hat bo (ad b)=some (.pointer am)/\
 ∃a0:Int,hat bo ((ad q).add 1)=some (.int .u64 a0)/\
 aU.C al aq bo (λcm cg=> ∃az:Int,cm=.int .u64 az/\aT cg (ad b) 0 [.pointer am]/\aT cg ((ad q).add 1) 0 [.int .u64 a0]/\
 aU.C am a0 cg (λcj co=> ∃a4:Int,cj=.int .u64 a4/\
 ∀(bz:Nat) (H29:zV),bz=co.size->H29=co.push (.cells #[.int .u64 az,.int .u64 a4] 36)->
 fc 2 36 16 [.int .u64 0,.int .u64 0] g outN outC (some (ad bz)) 1 H29 (λap a9 cl=>
 (bs ap (outN+1) a9 (zY (s68+1)) cl/\m75 ap (outN+1) a9 (zY (s68+1)) cl<m75 g outN outC s68 H23)))))
 else
 (bs g outN outC (zY (s68+1)) bo/\m75 g outN outC (zY (s68+1)) bo<m75 g outN outC s68 H23)))
 else
 (bs g outN outC (zY (s68+1)) ba/\m75 g outN outC (zY (s68+1)) ba<m75 g outN outC s68 H23))
 else
 R (.slice g outN outC) H23)
namespace df
theorem link{tv lB:zW}{lN lC:Nat}{H:zV}{R:zj}(h:pt tv lB lN lC H R):C tv lB lN lC H R:=by
 refine T_en K0 98 Tryz.func14 ?_
 intro w0 Q hQ
 unfold pt zY at h
 refine T_su [(0,vp tv),(1,vs lB lN lC)]<| ar 0<| T_nw (some 2) (λb=>vp (pa b)) (.cells #[vp tv] 37) ?_
 intro b H1 e1 e2
 replace h:=h b H1 e1 e2
 refine T_pd [0] [(2,vp (pa b))]<| T_nw (some 3) (λb=>vp (pa b)) (.cells #[vs lB lN lC] 31) ?_
 intro e H2 e3 e4
 replace h:=h e H2 e3 e4
 refine T_pd [1] [(3,vp (pa e))]<| T_ed 1 [] []<| nA K3 0 (by kernel_rfl) (by kernel_rfl)<| T_sz<| ar 1 ?_
 obtain⟨x,q5,h⟩:=h
 refine T_l1 15 37 q5 []<| T_c (some 16) h ?_;clear h
 rintro v H3 ⟨bw,rfl,h⟩
 refine T_pd [15] [(16,.bool bw)]<| T_e ?_
 by_cases c6:bw=true
 ·rw[if_pos c6]at h
  refine aI 16 c6<| ar 2<| T_ud [2,16] [] ?_
  obtain⟨xB,xN,xC,q8,h⟩:=h
  refine T_l1 17 31 q8 [3]<| T_c (some 18) h ?_;clear h
  rintro cq H4 ⟨bi,bk,bj,rfl,h⟩
  refine⟨[(18,vs bi bk bj)],pk,?_⟩
  exact T_nr 1 [4] [vs bi bk bj] hQ h
 rw[if_neg c6]at h
 refine aJ 16 (zZ c6)<| T_kt<| ar 3<| T_ud [16] [] ?_
 obtain⟨b8,y,b6,q9,h⟩:=h
 refine T_l1 19 31 q9 []<| T_nd 1 [19] [(20,vi y)] ?_
 obtain⟨q10,q11,q12,q13,h⟩:=h
 refine N_op (some 21) (gH 79 (vi y) (vi y)) (λv Hz=>v=Value.slice (some (Addr.mk H3.size 0 none)) (Int.toNat (y:Int)) (Int.toNat (y:Int))/\Hz=H3.push (.cells (Builtin.zeroCells #[vi 0] (Int.toNat (y:Int))) 3)) (λ_=>by kernel_rfl) (my (T:=3) (zero:=vi 0) Tryz.underlying79 (show Tryz.prog.info? 3=some Tryz.t3 from by kernel_rfl) (by kernel_rfl) q10 q11 q12 q13 (by kernel_rfl) (by decide)) ?_
 rintro _ H5 ⟨rfl,e15⟩
 obtain⟨bf,e14⟩: ∃b,b=H3.size:=⟨_,rfl⟩
 replace h:=h bf H5 e14 e15
 rw[<-e14]
 refine T_pd [20] [(21,vs (pa bf) (Int.toNat (y:Int)) (Int.toNat (y:Int)))]<| T_nw (some 5) (λb=>vp (pa b)) (.cells #[vs none 0 0] 79) ?_
 intro d H6 e16 e17
 replace h:=h d H6 e16 e17
 refine T_pd [] [(5,vp (pa d))] ?_
 obtain⟨q19,h⟩:=h
 refine fE 79 (vs (pa bf) (Int.toNat (y:Int)) (Int.toNat (y:Int))) q19 ?_
 intro H7 e18
 replace h:=h H7 e18
 refine T_pd [21] []<| T_e<| T_sz<| ar 4 ?_
 obtain⟨aj,j,r,q20,h⟩:=h
 refine T_l1 22 31 q20 []<| T_ed 2 [] [(23,vi j),(24,vi 0)]<| T_bz 0 ?_
 obtain⟨b5,m20,i21,i22⟩:=h
 refine de (x:=K19) (σ:=Int) (λs_=> [(2,vp (pa b)),(3,vp (pa e)),(5,vp (pa d)),(22,vs aj j r),(23,vi j),(24,vi s_)]) (λs_ H=>b5 s_ H) (λs_ H=>m20 s_ H) (0:Int) (by kernel_rfl) i21 sk ?_
 rintro l H8 i23
 have h:=i22 l H8 i23
 refine T_su [(2,vp (pa b)),(3,vp (pa e)),(5,vp (pa d)),(22,vs aj j r),(23,vi j),(24,vi l)]<| ar 5<| T_ed 1 [] [(25,.bool (decide (l< (j:Int))))]<| T_sz ?_
 by_cases c24:l< (j:Int)
 ·rw[if_pos c24]at h
  refine aI 25 (zX c24)<| T_kt<| T_sz<| T_bz 1<| ar 6<| T_nd 1 [25] [(26,vi l)] ?_
  obtain⟨z,rfl,q26,h⟩:=h
  refine T_xd (some 27) 31 36 2 z j r .i64 l Tryz.underlying31 q26.1 q26.2 [22] [(22,vs (some z) j r),(27,vp (some (z.add (Int.toNat l*2))))] ?_
  obtain⟨ax,ab,q27,h⟩:=h
  refine T_lr 28 36 q27 [27]<| T_nw (some 7) (λb=>vp (pa b)) (.cells #[vu 0,vu 0] 36) ?_
  intro ao H9 e28 e29
  replace h:=h ao H9 e28 e29
  refine T_pd [] [(7,vp (pa ao))]<| T_nd 1 [26] [(6,vi l)] ?_
  obtain⟨q31,h⟩:=h
  refine fl 36 [vu ax,vu ab] q31 ?_
  intro b2 e30
  replace h:=h b2 e30
  refine T_pd [28] []<| T_e<| ar 7 ?_
  obtain⟨bp,q32,h⟩:=h
  refine T_l1 29 37 q32 []<| T_nd 1 [7] [(30,vp (pa ao))] ?_
  obtain⟨b4,q33,h⟩:=h
  refine T_l1 31 28 q33 [30]<| T_c (some 32) h ?_;clear h
  rintro ct br ⟨bb,rfl,h⟩
  refine T_pd [29,31] [(32,.bool bb)]<| T_ed 1 [32] [(33,.bool (!bb))] ?_
  by_cases c34:bb=true
  ·rw[if_pos c34]at h
   exact aJ 33 (congrArg Bool.not (c34))<| T_k<| aD<| aE<| T_rz 9<| T_ed 2 [6,24,33] [(24,vi (zY (l+1)))]<| aW ((zY (l+1)):Int) sk h
  rw[if_neg c34]at h
  refine aI 33 (congrArg Bool.not (zZ c34))<| T_rz 8<| T_ud [33] [] ?_
  obtain⟨bn,a8,be,q36,h⟩:=h
  refine T_l1 34 79 q36 []<| T_nd 1 [6] [(35,vi l)] ?_
  obtain⟨aw,rfl,q37,h⟩:=h
  refine T_xd (some 36) 79 3 1 aw a8 be .i64 l Tryz.underlying79 q37.1 q37.2 [34,35] [(36,vp (some (aw.add (Int.toNat l*1))))] ?_
  obtain⟨q39,h⟩:=h
  refine fE 3 (vi 1) q39 ?_
  intro cd e38
  replace h:=h cd e38
  exact T_pd [36] []<| zq<| aD<| aE<| T_rz 9<| T_ed 2 [24] [(24,vi (zY (l+1)))]<| aW ((zY (l+1)):Int) sk h
 rw[if_neg c24]at h
 refine aJ 25 (zQ c24)<| zz 0<| aA<| aA<| aO<| aE<| ar 10<| T_ed 2 [22,23,24,25] [(8,.func (.func 57) #[] #[vp (pa d),vp (pa b),vp (pa e)])] ?_
 obtain⟨ce,m38,i40,i41⟩:=h
 refine nB 0 K37 [(2,vp (pa b)),(3,vp (pa e)),(5,vp (pa d)),(8,.func (.func 57) #[] #[vp (pa d),vp (pa b),vp (pa e)])] ce m38 (by kernel_rfl) (by kernel_rfl) i40 sk ?_
 rintro b3 i42
 have h:=i41 b3 i42
 refine T_sz<| ar 11 ?_
 obtain⟨ai,n,ac,q43,h⟩:=h
 refine T_l (some 39) 31 q43 [(2,vp (pa b)),(3,vp (pa e)),(5,vp (pa d)),(8,.func (.func 57) #[] #[vp (pa d),vp (pa b),vp (pa e)]),(39,vs ai n ac)]<| T_ed 2 [] [(40,vi n),(41,vi 0)]<| T_bz 2 ?_
 obtain⟨cc,m44,i44,i45⟩:=h
 refine de (x:=K43) (σ:=Int) (λs_=> [(2,vp (pa b)),(3,vp (pa e)),(5,vp (pa d)),(8,.func (.func 57) #[] #[vp (pa d),vp (pa b),vp (pa e)]),(39,vs ai n ac),(40,vi n),(41,vi s_)]) (λs_ H=>cc s_ H) (λs_ H=>m44 s_ H) (0:Int) (by kernel_rfl) i44 sk ?_
 rintro o H14 i46
 have h:=i45 o H14 i46
 refine T_su [(2,vp (pa b)),(3,vp (pa e)),(5,vp (pa d)),(8,.func (.func 57) #[] #[vp (pa d),vp (pa b),vp (pa e)]),(39,vs ai n ac),(40,vi n),(41,vi o)]<| ar 12<| T_ed 1 [] [(42,.bool (decide (o< (n:Int))))]<| T_sz ?_
 by_cases c47:o< (n:Int)
 ·rw[if_pos c47]at h
  refine aI 42 (zX c47)<| T_kt<| T_sz<| T_bz 3<| ar 13<| T_nd 1 [42] [(43,vi o)] ?_
  obtain⟨ae,rfl,q49,h⟩:=h
  refine T_xd (some 44) 31 36 2 ae n ac .i64 o Tryz.underlying31 q49.1 q49.2 [39] [(39,vs (some ae) n ac),(44,vp (some (ae.add (Int.toNat o*2))))] ?_
  obtain⟨af,s,q50,h⟩:=h
  refine T_lr 45 36 q50 [44]<| T_nw (some 10) (λb=>vp (pa b)) (.cells #[vu 0,vu 0] 36) ?_
  intro aa H15 e51 e52
  replace h:=h aa H15 e51 e52
  refine T_pd [] [(10,vp (pa aa))]<| T_nd 1 [43] [(9,vi o)] ?_
  obtain⟨q54,h⟩:=h
  refine fl 36 [vu af,vu s] q54 ?_
  intro ch e53
  replace h:=h ch e53
  refine T_pd [45] []<| T_e<| ar 14<| T_nd 2 [] [(46,.func (.func 57) #[] #[vp (pa d),vp (pa b),vp (pa e)]),(47,vi o)]<| T_c (some 48) h ?_;clear h
  rintro cp bx ⟨bu,rfl,h⟩
  refine T_pd [46,47] [(48,.bool bu)]<| T_e ?_
  by_cases c55:bu=true
  ·rw[if_pos c55]at h
   refine aI 48 c55<| ar 15<| T_ud [39,40,41,48] [] ?_
   obtain⟨bm,a5,bd,q57,h⟩:=h
   refine T_l1 49 79 q57 []<| T_nd 1 [9] [(50,vi o)] ?_
   obtain⟨au,rfl,q58,h⟩:=h
   refine T_xd (some 51) 79 3 1 au a5 bd .i64 o Tryz.underlying79 q58.1 q58.2 [49,50] [(51,vp (some (au.add (Int.toNat o*1))))] ?_
   obtain⟨q60,h⟩:=h
   refine fE 3 (vi 2) q60 ?_
   intro b1 e59
   replace h:=h b1 e59
   refine T_pd [51] []<| T_e<| ar 16 ?_
   obtain⟨bq,q61,h⟩:=h
   refine T_l1 52 37 q61 []<| T_nd 1 [] [(53,vp (pa aa))] ?_
   obtain⟨b0,q62,h⟩:=h
   refine T_l1 54 28 q62 [53]<| T_c (some 55) h ?_;clear h
   rintro cu b9 ⟨an,rfl,h⟩
   refine T_pd [52,54] [(55,vu an)]<| T_ed 1 [55] [(11,vu an)]<| T_sz ?_
   obtain⟨ah,q63,av,q64,a6,q65,h⟩:=h
   refine yW 17 (Code.ops K63) [(6,(ad b),[vp ah]),(4,(ad b),[vp av]),(4,((ad aa).add 1),[vu a6])] 7 (bv 7 0) (show aG _ _ _ from⟨⟨q63,trivial⟩,⟨q64,trivial⟩,⟨q65,trivial⟩,trivial⟩)<| T_g 0 (some 56) (vp ah) (bv 7 1) [(2,vp (pa b)),(3,vp (pa e)),(5,vp (pa d)),(8,.func (.func 57) #[] #[vp (pa d),vp (pa b),vp (pa e)]),(10,vp (pa aa)),(11,vu an),(56,vp ah)] (aP 37 (vp (pa b))) (yV 6 zw)<| T_g1 1 57 (vp av) (bv 7 3) [] (aP 37 (vp (pa b))) (yV 4 yZ)<| aF 2 58 (vp (some ((ad aa).add 1))) (bv 7 7) [10]<| T_g1 3 59 (vu a6) (bv 7 15) [58] (aP 28 (vp (some ((ad aa).add 1)))) (yV 4 yX)<| aF 5 61 (vu an) (bv 7 47) [11]<| yY 4 (some 60) (bv 7 63) 12 #[vp av,vu a6] h ?_;clear h
   rintro cs cn ⟨bt,rfl,f66,h⟩
   refine⟨[(2,vp (pa b)),(3,vp (pa e)),(5,vp (pa d)),(8,.func (.func 57) #[] #[vp (pa d),vp (pa b),vp (pa e)]),(56,vp ah),(60,vu bt),(61,vu an)],pk,(show aG _ _ _ from⟨f66,trivial,trivial,trivial⟩),?_⟩
   refine yY 6 (some 62) (bv 7 127) 58 #[vp ah,vu bt,vu an] h ?_;clear h
   intro v_7 ck h
   refine⟨[(2,vp (pa b)),(3,vp (pa e)),(5,vp (pa d)),(8,.func (.func 57) #[] #[vp (pa d),vp (pa b),vp (pa e)])],pk,(show aG _ _ _ from⟨trivial,trivial,trivial,trivial⟩),?_⟩
   refine eV [(2,vp (pa b)),(3,vp (pa e)),(5,vp (pa d)),(8,.func (.func 57) #[] #[vp (pa d),vp (pa b),vp (pa e)])] sk ?_
   refine yq<| aE<| ar 18 ?_
   obtain⟨bg,q67,h⟩:=h
   refine T_l (some 63) 37 q67 [(2,vp (pa b)),(3,vp (pa e)),(5,vp (pa d)),(8,.func (.func 57) #[] #[vp (pa d),vp (pa b),vp (pa e)]),(63,vp bg)]<| T_c (some 64) h ?_;clear h
   intro v_8 ci h
   exact T_pd [63] []<| T_e<| oP 0 (by kernel_rfl)<| ja<| ik<| ik<| ja<| ik<| oQ sk h
  rw[if_neg c55]at h
  exact aJ 48 (zZ c55)<| T_k<| aD<| aE<| T_rz 19<| T_ed 2 [9,10,41,48] [(41,vi (zY (o+1)))]<| aW ((zY (o+1)):Int) sk h
 rw[if_neg c47]at h
 refine aJ 42 (zQ c47)<| zz 2<| aA<| aA<| aO<| aE<| ar 20<| T_ed 1 [8,39,40,41,42] [(12,vs none 0 0)]<| T_sz<| ar 21 ?_
 obtain⟨ak,f,m,q68,h⟩:=h
 refine T_l1 66 31 q68 [3]<| T_ed 2 [] [(67,vi f),(68,vi 0)]<| T_bz 4 ?_
 obtain⟨bs,m75,i69,i70⟩:=h
 refine de (x:=K74) (σ:=zW×Nat×Nat×Int) (λs_=> [(2,vp (pa b)),(5,vp (pa d)),(12,vs s_.1 s_.2.1 s_.2.2.1),(66,vs ak f m),(67,vi f),(68,vi s_.2.2.2)]) (λs_ H=>bs s_.1 s_.2.1 s_.2.2.1 s_.2.2.2 H) (λs_ H=>m75 s_.1 s_.2.1 s_.2.2.1 s_.2.2.2 H) ((none,0,0,0):zW×Nat×Nat×Int) (by kernel_rfl) i69 sk ?_
 rintro⟨g,outN,outC,s68⟩ H23 i71
 have h:=i70 g outN outC s68 H23 i71
 refine T_su [(2,vp (pa b)),(5,vp (pa d)),(12,vs g outN outC),(66,vs ak f m),(67,vi f),(68,vi s68)]<| ar 22<| T_ed 1 [] [(69,.bool (decide (s68< (f:Int))))]<| T_sz ?_
 by_cases c72:s68< (f:Int)
 ·rw[if_pos c72]at h
  refine aI 69 (zX c72)<| T_kt<| T_sz<| T_bz 5<| ar 23<| T_nd 1 [69] [(70,vi s68)] ?_
  obtain⟨p,rfl,q74,h⟩:=h
  refine T_xd (some 71) 31 36 2 p f m .i64 s68 Tryz.underlying31 q74.1 q74.2 [66] [(66,vs (some p) f m),(71,vp (some (p.add (Int.toNat s68*2))))] ?_
  obtain⟨ag,u,q75,h⟩:=h
  refine T_lr 72 36 q75 [71]<| T_nw (some 14) (λb=>vp (pa b)) (.cells #[vu 0,vu 0] 36) ?_
  intro q H24 e76 e77
  replace h:=h q H24 e76 e77
  refine T_pd [] [(14,vp (pa q))]<| T_nd 1 [70] [(13,vi s68)] ?_
  obtain⟨q79,h⟩:=h
  refine fl 36 [vu ag,vu u] q79 ?_
  intro ba e78
  replace h:=h ba e78
  refine T_pd [72] []<| T_e<| ar 24 ?_
  obtain⟨bh,a2,bc,q80,h⟩:=h
  refine T_l1 73 79 q80 []<| T_nd 1 [13] [(74,vi s68)] ?_
  obtain⟨a3,rfl,q81,h⟩:=h
  refine T_xd (some 75) 79 3 1 a3 a2 bc .i64 s68 Tryz.underlying79 q81.1 q81.2 [73,74] [(75,vp (some (a3.add (Int.toNat s68*1))))] ?_
  obtain⟨ay,q82,h⟩:=h
  refine T_l1 76 3 q82 [75]<| T_nd 2 [76] [(78,.bool (decide (ay<2)))] ?_
  by_cases c83:ay<2
  ·rw[if_pos c83]at h
   refine N_bd 78 (zX c83) ?_
   obtain⟨a1,q85,h⟩:=h
   refine T_l1 79 37 q85 []<| T_nd 1 [] [(80,vp (some ((ad q).add 1)))] ?_
   obtain⟨bl,q86,h⟩:=h
   refine T_l1 81 28 q86 [80]<| T_c (some 82) h ?_;clear h
   rintro cr bo ⟨a7,rfl,h⟩
   refine T_pd [79,81] [(82,.bool a7)]<| T_ed 1 [78,82] [(83,.bool a7)] ?_
   by_cases c87:a7=true
   ·rw[if_pos c87]at h
    refine aI 83 c87 ?_
    obtain⟨al,q89,aq,q90,am,q91,a0,q92,h⟩:=h
    refine yW 25 (Code.ops K88) [(4,(ad b),[vp al]),(4,(ad q),[vu aq]),(8,(ad b),[vp am]),(8,((ad q).add 1),[vu a0])] 13 (bv 13 0) (show aG _ _ _ from⟨⟨q89,trivial⟩,⟨q90,trivial⟩,⟨q91,trivial⟩,⟨q92,trivial⟩,trivial⟩)<| T_gp 0 (some 84) (vs g outN outC) (bv 13 1) [(2,vp (pa b)),(5,vp (pa d)),(12,vs g outN outC),(14,vp (pa q)),(66,vs (some p) f m),(67,vi f),(68,vi s68),(84,vs g outN outC)]<| T_g1 1 85 (vp al) (bv 13 3) [] (aP 37 (vp (pa b))) (yV 4 zw)<| aF 2 86 (vp (pa q)) (bv 13 7) []<| T_g1 3 87 (vu aq) (bv 13 15) [86] (aP 28 (vp (pa q))) (yV 4 yZ)<| T_g1 5 89 (vp am) (bv 13 47) [] (aP 37 (vp (pa b))) (yV 8 yX)<| aF 6 90 (vp (some ((ad q).add 1))) (bv 13 111) [14]<| T_g1 7 91 (vu a0) (bv 13 239) [90] (aP 28 (vp (some ((ad q).add 1)))) (yV 8 yQ)<| yY 4 (some 88) (bv 13 255) 12 #[vp al,vu aq] h ?_;clear h
    rintro cm cg ⟨az,rfl,f93,f94,h⟩
    refine⟨[(2,vp (pa b)),(5,vp (pa d)),(12,vs g outN outC),(66,vs (some p) f m),(67,vi f),(68,vi s68),(84,vs g outN outC),(88,vu az),(89,vp am),(91,vu a0)],pk,(show aG _ _ _ from⟨trivial,trivial,f93,f94,trivial⟩),?_⟩
    refine yY 8 (some 92) (bv 13 511) 12 #[vp am,vu a0] h ?_;clear h
    rintro cj co ⟨a4,rfl,h⟩
    refine⟨[(2,vp (pa b)),(5,vp (pa d)),(12,vs g outN outC),(66,vs (some p) f m),(67,vi f),(68,vi s68),(84,vs g outN outC),(88,vu az),(92,vu a4)],pk,(show aG _ _ _ from⟨trivial,trivial,trivial,trivial,trivial⟩),?_⟩
    refine T_g 9 (some 93) (.agg #[vu az,vu a4]) (bv 13 1023) [(2,vp (pa b)),(5,vp (pa d)),(12,vs g outN outC),(66,vs (some p) f m),(67,vi f),(68,vi s68),(84,vs g outN outC),(93,.agg #[vu az,vu a4])] (pure (.value (.agg #[vu az,vu a4])):Sem Next) (λ_ _ _ _ _=>rfl)<| mw 10 (some 94) (bv 13 2047) (λb=>vs (pa b) 1 1) (.cells #[vu az,vu a4] 36) (by kernel_rfl) (λ_=>by kernel_rfl) (by kernel_rfl) ?_
    intro bz H29 e95 e96
    replace h:=h bz H29 e95 e96
    refine⟨[(2,vp (pa b)),(5,vp (pa d)),(12,vs g outN outC),(66,vs (some p) f m),(67,vi f),(68,vi s68),(84,vs g outN outC),(94,vs (pa bz) 1 1)],pk,(show aG _ _ _ from⟨trivial,trivial,trivial,trivial,trivial⟩),?_⟩
    refine kK 11 (some 95) (bv 13 4095) (eS #[31,31] 31 #[vs g outN outC,vs (pa bz) 1 1]) _ (by kernel_rfl) (λ_=>by kernel_rfl) (eQ (T:=36) (sz:=2) (bytes:=16) (zero:=(.agg #[vu 0,vu 0]:Value)) Tryz.underlying31 Tryz.underlying31 rfl (show Tryz.prog.info? 36=some Tryz.t36 from by kernel_rfl) (by kernel_rfl) (by kernel_rfl) (by decide) (by kernel_rfl) (by first | exact h | (simpa only[Value.cells,List.toList_toArray]using h))) (by kernel_rfl) ?_;clear h
    rintro _ cl ⟨ap,a9,rfl,h⟩
    refine⟨[(2,vp (pa b)),(5,vp (pa d)),(12,vs g outN outC),(66,vs (some p) f m),(67,vi f),(68,vi s68),(95,vs ap (outN+1) a9)],pk,(show aG _ _ _ from⟨trivial,trivial,trivial,trivial,trivial⟩),?_⟩
    exact T_g 12 (some 12) (vs ap (outN+1) a9) (bv 13 8191) [(2,vp (pa b)),(5,vp (pa d)),(12,vs ap (outN+1) a9),(66,vs (some p) f m),(67,vi f),(68,vi s68)] (pure (.value (vs ap (outN+1) a9)):Sem Next) (λ_ _ _ _ _=>rfl)<| eV [(2,vp (pa b)),(5,vp (pa d)),(12,vs ap (outN+1) a9),(66,vs (some p) f m),(67,vi f),(68,vi s68)] sk<| yq<| aD<| aE<| T_rz 26<| T_ne 2 [(2,vp (pa b)),(5,vp (pa d)),(12,vs ap (outN+1) a9),(66,vs (some p) f m),(67,vi f),(68,vi (zY (s68+1)))]<| aW ((ap,(outN+1),a9,(zY (s68+1))):zW×Nat×Nat×Int) sk h
   rw[if_neg c87]at h
   exact aJ 83 (zZ c87)<| T_k<| aD<| aE<| T_rz 26<| T_ed 2 [14,68,83] [(68,vi (zY (s68+1)))]<| aW ((g,outN,outC,(zY (s68+1))):zW×Nat×Nat×Int) sk h
  rw[if_neg c83]at h
  refine N_bd 78 (zQ c83)<| T_ed 5 [78] [(83,.bool false)]<| T_fz 83<| T_k ?_
  exact aD<| aE<| T_rz 26<| T_ed 2 [14,68,83] [(68,vi (zY (s68+1)))]<| aW ((g,outN,outC,(zY (s68+1))):zW×Nat×Nat×Int) sk h
 rw[if_neg c72]at h
 exact aJ 69 (zQ c72)<| zz 4<| aA<| aA<| aO<| aE<| ar 27<| T_nr 2 [4] [vs g outN outC] hQ h
end df

/-! moraine/weak.Breaks -/
namespace dg
def K0:=Func.code Tryz.f18
def K2:=cb K0
def K8:=cb K2
def K9:=ca K8
def K10:=ca K9
def K12:=cb K10
def K14:=cb K12
def K17:=ca K14
def K19:=ca K17
def K21:=cb K19
def K23:=cb K21
def K24:=ca K23
def K26:=cb K24
def K28:=cb K26
def K30:=cb K28
def K31:=ca K30
end dg
def dg.pt(tv:zW)(H:zV)(R:zj):Prop:=
 dq.C tv H (λv H1=> ∃x:Bool,v=.bool x/\
 if x=true then(
 R (.tuple #[]) H1)
 else
 cG.C tv H1 (λay H2=> ∃(xB:zW) (xN xC:Nat),ay=.slice xB xN xC/\
 ∃(r:zk) (m11:Int->zV->Nat),r 0 H2/\ ∀(b:Int) (H3:zV),r b H3->
 if b< (xN:Int)then(
 ∃e:Addr,xB=some e/\
 zv b xN/\
 ∃f:Int,hat H3 (e.add (Int.toNat b*1))=some (.int .i64 f)/\
 ∃d:Addr,tv=some d/\
 ∃ag:zW,hat H3 d=some (.pointer ag)/\
 ∃ai:Addr,ag=some ai/\
 ∃ah:zW,hat H3 ai=some (.pointer ah)/\
 ∃af:Addr,ah=some af/\
 ∃ae:zW,hat H3 af=some (.pointer ae)/\
 ∃aj:Addr,ae=some aj/\
 ∃ac:zW,hat H3 aj=some (.pointer ac)/\
 bQ.C ac f H3 (λaq H4=> ∃ra rb:Int,aq=.tuple #[.int .u64 ra,.int .i64 rb]/\
 cy.C (some d) ra H4 (λav H5=> ∃n:Bool,av=.bool n/\
 if n=true then(
 aY.C (some d) ra H5 (λax H6=> ∃p:Bool,ax=.bool p/\
 if p=true then(
 ∃am:zW,hat H6 d=some (.pointer am)/\
 ∃m:Addr,am=some m/\
 ∃ak:zW,hat H6 m=some (.pointer ak)/\
 ∃g:Addr,ak=some g/\
 ∃al:zW,hat H6 g=some (.pointer al)/\
 ∃j:Addr,al=some j/\
 ∃l:zW,hat H6 j=some (.pointer l)/\
 aU.C (some d) ra H6 (λap H7=> ∃aa:Int,ap=.int .u64 aa/\aT H7 d 0 [.pointer (some m)]/\aT H7 m 0 [.pointer (some g)]/\aT H7 g 0 [.pointer (some j)]/\aT H7 j 0 [.pointer l]/\
 bK.C l f aa H7 (λau H8=> ∃ao:Int,au=.int .i64 ao/\
 (r (zY (b+1)) H8/\m11 (zY (b+1)) H8<m11 b H3))))
 else
 ∃y:zW,hat H6 d=some (.pointer y)/\
 ∃z:Addr,y=some z/\
 ∃q:zW,hat H6 z=some (.pointer q)/\
 ∃ab:Addr,q=some ab/\
 ∃s:zW,hat H6 ab=some (.pointer s)/\
 ∃u:Addr,s=some u/\
 ∃o:zW,hat H6 u=some (.pointer o)/\
 bK.C o f 44 H6 (λaw H9=> ∃an:Int,aw=.int .i64 an/\
 (r (zY (b+1)) H9/\m11 (zY (b+1)) H9<m11 b H3))))
 else
 (r (zY (b+1)) H5/\m11 (zY (b+1)) H5<m11 b H3))))
 else
 R (.tuple #[]) H3))
namespace dg
theorem link{tv:zW}{H:zV}{R:zj}(h:pt tv H R):C tv H R:=by
 refine T_en K0 76 Tryz.func18 ?_
 intro w0 Q hQ
 unfold pt zY at h
 refine T_su [(0,vp tv)]<| T_sz<| ar 0<| T_nd 1 [] [(6,vp tv)]<| T_c (some 7) h ?_;clear h
 rintro v H1 ⟨x,rfl,h⟩
 refine T_pd [6] [(7,.bool x)]<| T_e ?_
 by_cases c1:x=true
 ·rw[if_pos c1]at h
  exact aI 7 c1<| eW [] [] hQ h
 rw[if_neg c1]at h
 refine aJ 7 (zZ c1)<| T_kt<| ar 1<| T_nd 1 [7] [(8,vp tv)]<| T_c (some 9) h ?_;clear h
 rintro ay H2 ⟨xB,xN,xC,rfl,h⟩
 refine T_pd [8] [(9,vs xB xN xC)]<| T_ed 2 [] [(10,vi xN),(11,vi 0)]<| T_bz 0 ?_
 obtain⟨r,m11,i3,i4⟩:=h
 refine de (x:=K10) (σ:=Int) (λs_=> [(0,vp tv),(9,vs xB xN xC),(10,vi xN),(11,vi s_)]) (λs_ H=>r s_ H) (λs_ H=>m11 s_ H) (0:Int) (by kernel_rfl) i3 sk ?_
 rintro b H3 i5
 have h:=i4 b H3 i5
 refine T_su [(0,vp tv),(9,vs xB xN xC),(10,vi xN),(11,vi b)]<| ar 2<| T_ed 1 [] [(12,.bool (decide (b< (xN:Int))))]<| T_sz ?_
 by_cases c6:b< (xN:Int)
 ·rw[if_pos c6]at h
  refine aI 12 (zX c6)<| T_kt<| T_sz<| T_bz 1<| ar 3<| T_ud [12] [] ?_
  obtain⟨e,rfl,q8,h⟩:=h
  refine T_xd (some 13) 79 3 1 e xN xC .i64 b Tryz.underlying79 q8.1 q8.2 [9] [(9,vs (some e) xN xC),(13,vp (some (e.add (Int.toNat b*1))))] ?_
  obtain⟨f,q9,h⟩:=h
  refine T_l1 14 3 q9 [13]<| T_ed 1 [14] [(3,vi f)]<| ar 4<| T_nd 1 [] [(16,vp tv)] ?_
  obtain⟨d,rfl,h⟩:=h
  refine T_nd 2 [0,16] [(0,vp (some d)),(18,vp (some d))] ?_
  obtain⟨ag,q10,h⟩:=h
  refine T_l1 19 23 q10 [18] ?_
  obtain⟨ai,rfl,h⟩:=h
  refine T_nd 2 [19] [(21,vp (some ai))] ?_
  obtain⟨ah,q11,h⟩:=h
  refine T_l1 22 53 q11 [21] ?_
  obtain⟨af,rfl,h⟩:=h
  refine T_nd 2 [22] [(24,vp (some af))] ?_
  obtain⟨ae,q12,h⟩:=h
  refine T_l1 25 56 q12 [24] ?_
  obtain⟨aj,rfl,h⟩:=h
  refine T_nd 2 [25] [(27,vp (some aj))] ?_
  obtain⟨ac,q13,h⟩:=h
  refine T_l1 28 82 q13 [27]<| T_nd 1 [] [(29,vi f)]<| T_c (some 30) h ?_;clear h
  rintro aq H4 ⟨ra,rb,rfl,h⟩
  refine T_pd [28,29] [(30,.tuple #[vu ra,vi rb])]<| T_ed 5 [30] [(4,vu ra)]<| T_bz 2<| ar 6<| T_nd 2 [] [(49,vp (some d)),(50,vu ra)]<| T_c (some 51) h ?_;clear h
  rintro av H5 ⟨n,rfl,h⟩
  refine T_pd [49,50] [(51,.bool n)]<| T_ed 2 [51] [(48,.bool (!n))] ?_
  by_cases c14:n=true
  ·rw[if_pos c14]at h
   refine aJ 48 (congrArg Bool.not (c14))<| ar 7<| T_nd 2 [48] [(54,vp (some d)),(55,vu ra)]<| T_c (some 56) h ?_;clear h
   rintro ax H6 ⟨p,rfl,h⟩
   refine T_pd [54,55] [(56,.bool p)]<| T_ed 1 [56] [(53,.bool p)] ?_
   by_cases c16:p=true
   ·rw[if_pos c16]at h
    refine aI 53 c16 ?_
    obtain⟨am,q18,m,rfl,ak,q19,g,rfl,al,q20,j,rfl,l,q21,h⟩:=h
    refine yW 8 (Code.ops K31) [(17,d,[vp (some m)]),(17,m,[vp (some g)]),(17,g,[vp (some j)]),(17,j,[vp l])] 18 (bv 18 0) (show aG _ _ _ from⟨⟨q18,trivial⟩,⟨q19,trivial⟩,⟨q20,trivial⟩,⟨q21,trivial⟩,trivial⟩)<| T_gp 0 (some 57) (vp (some d)) (bv 18 1) [(0,vp (some d)),(3,vi f),(4,vu ra),(9,vs (some e) xN xC),(10,vi xN),(11,vi b),(57,vp (some d))]<| aF 1 58 (vp (some d)) (bv 18 3) [57]<| aF 2 59 (vp (some d)) (bv 18 7) [58]<| T_g1 3 60 (vp (some m)) (bv 18 15) [59] (aP 23 (vp (some d))) (yV 17 zw)<| aF 4 61 (vp (some m)) (bv 18 31) [60]<| aF 5 62 (vp (some m)) (bv 18 63) [61]<| T_g1 6 63 (vp (some g)) (bv 18 127) [62] (aP 53 (vp (some m))) (yV 17 yZ)<| aF 7 64 (vp (some g)) (bv 18 255) [63]<| aF 8 65 (vp (some g)) (bv 18 511) [64]<| T_g1 9 66 (vp (some j)) (bv 18 1023) [65] (aP 56 (vp (some g))) (yV 17 yX)<| aF 10 67 (vp (some j)) (bv 18 2047) [66]<| aF 11 68 (vp (some j)) (bv 18 4095) [67]<| T_g1 12 69 (vp l) (bv 18 8191) [68] (aP 82 (vp (some j))) (yV 17 yQ)<| aF 13 70 (vi f) (bv 18 16383) [3]<| aF 14 71 (vp (some d)) (bv 18 32767) []<| aF 15 72 (vu ra) (bv 18 65535) [4]<| yY 16 (some 73) (bv 18 131071) 12 #[vp (some d),vu ra] h ?_;clear h
    rintro ap H7 ⟨aa,rfl,f22,f23,f24,f25,h⟩
    refine⟨[(0,vp (some d)),(9,vs (some e) xN xC),(10,vi xN),(11,vi b),(69,vp l),(70,vi f),(73,vu aa)],pk,(show aG _ _ _ from⟨f22,f23,f24,f25,trivial⟩),?_⟩
    refine yY 17 (some 74) (bv 18 262143) 50 #[vp l,vi f,vu aa] h ?_;clear h
    rintro au H8 ⟨ao,rfl,h⟩
    refine⟨[(0,vp (some d)),(9,vs (some e) xN xC),(10,vi xN),(11,vi b)],pk,(show aG _ _ _ from⟨trivial,trivial,trivial,trivial,trivial⟩),?_⟩
    refine eV [(0,vp (some d)),(9,vs (some e) xN xC),(10,vi xN),(11,vi b)] sk ?_
    exact yq<| aD<| aD<| aE<| T_rz 9<| T_ne 2 [(0,vp (some d)),(9,vs (some e) xN xC),(10,vi xN),(11,vi (zY (b+1)))]<| aW ((zY (b+1)):Int) sk h
   rw[if_neg c16]at h
   refine aJ 53 (zZ c16)<| T_rz 5<| T_nd 3 [4,53] [(35,vp (some d))] ?_
   obtain⟨y,q26,h⟩:=h
   refine T_l1 36 23 q26 [35] ?_
   obtain⟨z,rfl,h⟩:=h
   refine T_nd 2 [36] [(38,vp (some z))] ?_
   obtain⟨q,q27,h⟩:=h
   refine T_l1 39 53 q27 [38] ?_
   obtain⟨ab,rfl,h⟩:=h
   refine T_nd 2 [39] [(41,vp (some ab))] ?_
   obtain⟨s,q28,h⟩:=h
   refine T_l1 42 56 q28 [41] ?_
   obtain⟨u,rfl,h⟩:=h
   refine T_nd 2 [42] [(44,vp (some u))] ?_
   obtain⟨o,q29,h⟩:=h
   refine T_l1 45 82 q29 [44]<| T_nd 1 [3] [(46,vi f)]<| T_c (some 47) h ?_;clear h
   rintro aw H9 ⟨an,rfl,h⟩
   exact T_pd [45,46] []<| zq<| aD<| aD<| aE<| T_rz 9<| T_ed 2 [11] [(11,vi (zY (b+1)))]<| aW ((zY (b+1)):Int) sk h
  rw[if_neg c14]at h
  exact aI 48 (congrArg Bool.not (zZ c14))<| T_k<| aD<| aD<| aE<| T_rz 9<| T_ed 2 [3,4,11,48] [(11,vi (zY (b+1)))]<| aW ((zY (b+1)):Int) sk h
 rw[if_neg c6]at h
 exact aJ 12 (zQ c6)<| zz 0<| aA<| aA<| aO<| eZ (fn:=Tryz.f18) [] hQ (show dU _ _ _ [] _ from .nil) h
end dg

/-! moraine/weak.Prune -/
namespace eL
def K0:=Func.code Tryz.f19
def K2:=cb K0
def K4:=cb K2
def K12:=cb K4
def K13:=ca K12
def K16:=cb K13
def K17:=ca K16
def K18:=ca K17
end eL
def eL.pt(tv lB:zW)(lN lC:Nat)(H:zV)(R:zj):Prop:=
 dq.C tv H (λv H1=> ∃x:Bool,v=.bool x/\
 if x=true then(
 aV.C lB lN lC H1 (λp H2=> ∃(xB:zW) (xN xC:Nat),p=.slice xB xN xC/\
 R (.slice xB xN xC) H2))
 else
 ∃(l:zW->Nat->Nat->zk) (m19:zW->Nat->Nat->Int->zV->Nat),l none 0 0 0 H1/\ ∀(d:zW) (outN:Nat) (outC:Nat) (s14:Int) (H3:zV),l d outN outC s14 H3->
 if s14< (lN:Int)then(
 ∃e:Addr,lB=some e/\
 zv s14 lN/\
 ∃f:Int,hat H3 (e.add (Int.toNat s14*1))=some (.int .u64 f)/\
 aY.C tv f H3 (λn H4=> ∃g:Bool,n=.bool g/\
 if g=true then(
 aU.C tv f H4 (λo H5=> ∃m:Int,o=.int .u64 m/\
 ∀(b:Nat) (H6:zV),b=H5.size->H6=H5.push (.cells #[.int .u64 m] 28)->
 fc 1 28 8 [.int .u64 0] d outN outC (some (ad b)) 1 H6 (λap j H7=>
 (l ap (outN+1) j (zY (s14+1)) H7/\m19 ap (outN+1) j (zY (s14+1)) H7<m19 d outN outC s14 H3))))
 else
 (l d outN outC (zY (s14+1)) H4/\m19 d outN outC (zY (s14+1)) H4<m19 d outN outC s14 H3)))
 else
 R (.slice d outN outC) H3)
namespace eL
theorem link{tv lB:zW}{lN lC:Nat}{H:zV}{R:zj}(h:pt tv lB lN lC H R):C tv lB lN lC H R:=by
 refine T_en K0 29 Tryz.func19 ?_
 intro w0 Q hQ
 unfold pt zY at h
 refine T_su [(0,vp tv),(1,vs lB lN lC)]<| ar 0<| T_ed 1 [] []<| T_sz<| ar 1<| T_nd 1 [] [(8,vp tv)]<| T_c (some 9) h ?_;clear h
 rintro v H1 ⟨x,rfl,h⟩
 refine T_pd [8] [(9,.bool x)]<| T_e ?_
 by_cases c1:x=true
 ·rw[if_pos c1]at h
  refine aI 9 c1<| ar 2<| T_n 1 [(10,vs lB lN lC)]<| T_c (some 11) h ?_;clear h
  rintro p H2 ⟨xB,xN,xC,rfl,h⟩
  refine⟨[(11,vs xB xN xC)],pk,?_⟩
  exact T_nr 1 [4] [vs xB xN xC] hQ h
 rw[if_neg c1]at h
 refine aJ 9 (zZ c1)<| T_kt<| ar 3<| T_ed 1 [9] [(5,vs none 0 0)]<| T_sz<| ar 4<| T_ed 3 [1] [(12,vs lB lN lC),(13,vi lN),(14,vi 0)]<| T_bz 0 ?_
 obtain⟨l,m19,i3,i4⟩:=h
 refine de (x:=K18) (σ:=zW×Nat×Nat×Int) (λs_=> [(0,vp tv),(5,vs s_.1 s_.2.1 s_.2.2.1),(12,vs lB lN lC),(13,vi lN),(14,vi s_.2.2.2)]) (λs_ H=>l s_.1 s_.2.1 s_.2.2.1 s_.2.2.2 H) (λs_ H=>m19 s_.1 s_.2.1 s_.2.2.1 s_.2.2.2 H) ((none,0,0,0):zW×Nat×Nat×Int) (by kernel_rfl) i3 sk ?_
 rintro⟨d,outN,outC,s14⟩ H3 i5
 have h:=i4 d outN outC s14 H3 i5
 refine T_su [(0,vp tv),(5,vs d outN outC),(12,vs lB lN lC),(13,vi lN),(14,vi s14)]<| ar 5<| T_ed 1 [] [(15,.bool (decide (s14< (lN:Int))))]<| T_sz ?_
 by_cases c6:s14< (lN:Int)
 ·rw[if_pos c6]at h
  refine aI 15 (zX c6)<| T_kt<| T_sz<| T_bz 1<| ar 6<| T_ud [15] [] ?_
  obtain⟨e,rfl,q8,h⟩:=h
  refine T_xd (some 16) 32 28 1 e lN lC .i64 s14 Tryz.underlying32 q8.1 q8.2 [12] [(12,vs (some e) lN lC),(16,vp (some (e.add (Int.toNat s14*1))))] ?_
  obtain⟨f,q9,h⟩:=h
  refine T_l1 17 28 q9 [16]<| T_ed 1 [17] [(7,vu f)]<| ar 7<| T_nd 2 [] [(18,vp tv),(19,vu f)]<| T_c (some 20) h ?_;clear h
  rintro n H4 ⟨g,rfl,h⟩
  refine T_pd [18,19] [(20,.bool g)]<| T_e ?_
  by_cases c10:g=true
  ·rw[if_pos c10]at h
   refine aI 20 c10<| T_rz 8<| T_nd 3 [5,7,20] [(21,vs d outN outC),(22,vp tv),(23,vu f)]<| T_c (some 24) h ?_;clear h
   rintro o H5 ⟨m,rfl,h⟩
   refine T_pd [22,23] [(24,vu m)]<| T_nw (some 25) (λb=>vs (pa b) 1 1) (.cells #[vu m] 28) ?_
   intro b H6 e12 e13
   replace h:=h b H6 e12 e13
   refine T_pd [24] [(25,vs (pa b) 1 1)]<| N_op (some 26) (eS #[32,32] 32 #[vs d outN outC,vs (pa b) 1 1]) _ (λ_=>by kernel_rfl) (eQ (T:=28) (sz:=1) (bytes:=8) (zero:=(vu 0:Value)) Tryz.underlying32 Tryz.underlying32 rfl (show Tryz.prog.info? 28=some Tryz.t28 from by kernel_rfl) (by kernel_rfl) (by kernel_rfl) (by decide) (by kernel_rfl) (by first | exact h | (simpa only[Value.cells,List.toList_toArray]using h))) ?_;clear h
   rintro _ H7 ⟨ap,j,rfl,h⟩
   exact T_pd [21,25] [(26,vs ap (outN+1) j)]<| T_nd 1 [26] [(5,vs ap (outN+1) j)]<| zq<| aD<| aE<| T_rz 9<| T_ed 2 [14] [(14,vi (zY (s14+1)))]<| aW ((ap,(outN+1),j,(zY (s14+1))):zW×Nat×Nat×Int) sk h
  rw[if_neg c10]at h
  exact aJ 20 (zZ c10)<| T_k<| aD<| aE<| T_rz 9<| T_ed 2 [7,14,20] [(14,vi (zY (s14+1)))]<| aW ((d,outN,outC,(zY (s14+1))):zW×Nat×Nat×Int) sk h
 rw[if_neg c6]at h
 exact aJ 15 (zQ c6)<| zz 0<| aA<| aA<| aO<| aE<| ar 10<| T_nr 2 [4] [vs d outN outC] hQ h
end eL

/-! moraine/weak.ended -/
namespace dq
def K0:=Func.code Tryz.f55
end dq
def dq.pt(tv:zW)(H:zV)(R:zj):Prop:=
 ei tv (
 R (.bool true) H) (λa=>
 cJ.C (some a) H (λv H1=> ∃x:Bool,v=.bool x/\
 R (.bool x) H1))
namespace dq
theorem link{tv:zW}{H:zV}{R:zj}(h:pt tv H R):C tv H R:=by
 refine T_en K0 9 Tryz.func55 ?_
 intro w0 Q hQ
 unfold pt at h
 refine T_su [(0,vp tv)]<| ar 0<| T_ed 1 [] []<| ar 1<| T_nd 1 [] [(3,vp tv)] ?_
 rcases tv with _ | a
 ·rw[onPtr_none]at h
  exact T_nr 6 [2] [.bool true] hQ h
 rw[onPtr_some]at h
 refine T_n 3 [(5,.bool false),(6,vp (some a))]<| T_c (some 7) h ?_;clear h
 rintro v H1 ⟨x,rfl,h⟩
 exact T_pd [6] [(7,.bool x)]<| T_nr 2 [2] [.bool x] hQ h
end dq

/-! moraine/weak.Guards.1 -/
namespace dH
def K0:=Func.code Tryz.f57
def K2:=cb K0
def K3:=ca K2
end dH
def dH.pt(i:Int)(q j g:zW)(H:zV)(R:zj):Prop:=
 ∃m:Addr,q=some m/\
 ∃(xB:zW) (xN xC:Nat),hat H m=some (.slice xB xN xC)/\
 ∃b:Addr,xB=some b/\
 zv i xN/\
 ∃x:Int,hat H (b.add (Int.toNat i*1))=some (.int .i64 x)/\
 if x=1 then(
 ∃f:Addr,j=some f/\
 ∃o:zW,hat H f=some (.pointer o)/\
 ∃d:Addr,g=some d/\
 ∃(s:zW) (l p:Nat),hat H d=some (.slice s l p)/\
 ∃e:Addr,s=some e/\
 zv i l/\
 ∃r:Int,hat H ((e.add (Int.toNat i*2)).add 1)=some (.int .u64 r)/\
 aY.C o r H (λv H1=> ∃n:Bool,v=.bool n/\
 R (.bool n) H1))
 else
 R (.bool false) H
namespace dH
theorem link{i:Int}{q j g:zW}{H:zV}{R:zj}(h:pt i q j g H R):C i q j g H R:=by
 refine T_en K0 20 Tryz.func57 ?_
 intro w0 Q hQ
 unfold pt at h
 refine T_su [(0,vi i),(1,vp q),(2,vp j),(3,vp g)]<| ar 0<| T_ed 1 [] []<| T_sz ?_
 obtain⟨m,rfl,xB,xN,xC,q1,b,rfl,q2,x,q3,h⟩:=h
 by_cases c4:x=1
 ·rw[if_pos c4]at h
  obtain⟨f,rfl,o,q6,d,rfl,s,l,p,q7,e,rfl,q8,r,q9,h⟩:=h
  refine yW 1 (Code.ops K3) [(12,m,[vs (some b) xN xC]),(12,(b.add (Int.toNat i*1)),[vi x]),(12,f,[vp o]),(12,d,[vs (some e) l p]),(12,((e.add (Int.toNat i*2)).add 1),[vu r])] 15 (bv 15 0) (show aG _ _ _ from⟨⟨q1,trivial⟩,⟨q3,trivial⟩,⟨q6,trivial⟩,⟨q7,trivial⟩,⟨q9,trivial⟩,trivial⟩)<| T_g 0 (some 6) (vs (some b) xN xC) (bv 15 1) [(0,vi i),(2,vp (some f)),(3,vp (some d)),(6,vs (some b) xN xC)] (aP 79 (vp (some m))) (yV 12 zw)<| aF 1 7 (vi i) (bv 15 3) []<| T_g1 2 8 (vp (some (b.add (Int.toNat i*1)))) (bv 15 7) [6,7] (aX 79 (vs (some b) xN xC) (vi i)) (λ_ w _ _ _=>cW (P:=Tryz.prog) (t:=79) (elem:=3) (sz:=1) (a:=b) (len:=xN) (cap:=xC) (k:=.i64) (i:=i) Tryz.underlying79 (λ_=>by kernel_rfl) q2.1 q2.2 w)<| T_g1 3 9 (vi x) (bv 15 15) [8] (aP 3 (vp (some (b.add (Int.toNat i*1))))) (yV 12 yZ)<| aF 4 10 (.bool (x==1)) (bv 15 31) [9]<| aF 5 11 (.bool (x==1)) (bv 15 63) [10]<| G_bd 11 (zK c4)<| T_g1 6 12 (vp o) (bv 15 127) [2] (aP 37 (vp (some f))) (yV 12 yX)<| T_g1 7 13 (vs (some e) l p) (bv 15 255) [3] (aP 31 (vp (some d))) (yV 12 yQ)<| aF 8 14 (vi i) (bv 15 511) [0]<| T_g1 9 15 (vp (some (e.add (Int.toNat i*2)))) (bv 15 1023) [13,14] (aX 31 (vs (some e) l p) (vi i)) (λ_ w _ _ _=>cW (P:=Tryz.prog) (t:=31) (elem:=36) (sz:=2) (a:=e) (len:=l) (cap:=p) (k:=.i64) (i:=i) Tryz.underlying31 (λ_=>by kernel_rfl) q8.1 q8.2 w)<| aF 10 16 (vp (some ((e.add (Int.toNat i*2)).add 1))) (bv 15 2047) [15]<| T_g1 11 17 (vu r) (bv 15 4095) [16] (aP 28 (vp (some ((e.add (Int.toNat i*2)).add 1)))) (yV 12 yJ)<| yY 12 (some 18) (bv 15 8191) 30 #[vp o,vu r] h ?_;clear h
  rintro v H1 ⟨n,rfl,h⟩
  refine⟨[(11,.bool true),(18,.bool n)],pk,(show aG _ _ _ from⟨trivial,trivial,trivial,trivial,trivial,trivial⟩),?_⟩
  exact T_g 13 (some 19) (.bool n) (bv 15 16383) [(19,.bool n)] (pure (.value (.bool n)):Sem Next) (λ_ _ _ _ _=>rfl)<| T_g1 14 5 (.bool n) (bv 15 32767) [19] (pure (.value (.bool n)):Sem Next) (λ_ _ _ _ _=>rfl)<| eV [(5,.bool n)] sk<| yq<| aE<| eW [5] [.bool n] hQ h
 rw[if_neg c4]at h
 exact yW 1 (Code.ops K3) [(15,m,[vs (some b) xN xC]),(15,(b.add (Int.toNat i*1)),[vi x])] 15 (bv 15 0) (show aG _ _ _ from⟨⟨q1,trivial⟩,⟨q3,trivial⟩,trivial⟩)<| T_g 0 (some 6) (vs (some b) xN xC) (bv 15 1) [(0,vi i),(2,vp j),(3,vp g),(6,vs (some b) xN xC)] (aP 79 (vp (some m))) (jA 15 (λ_=>by kernel_rfl) zw (.inr (by kernel_rfl)))<| aF 1 7 (vi i) (bv 15 3) []<| T_g1 2 8 (vp (some (b.add (Int.toNat i*1)))) (bv 15 7) [6,7] (aX 79 (vs (some b) xN xC) (vi i)) (λ_ w _ _ _=>cW (P:=Tryz.prog) (t:=79) (elem:=3) (sz:=1) (a:=b) (len:=xN) (cap:=xC) (k:=.i64) (i:=i) Tryz.underlying79 (λ_=>by kernel_rfl) q2.1 q2.2 w)<| T_g1 3 9 (vi x) (bv 15 15) [8] (aP 3 (vp (some (b.add (Int.toNat i*1))))) (jA 15 (λ_=>by kernel_rfl) yZ (.inr (by kernel_rfl)))<| aF 4 10 (.bool (x==1)) (bv 15 31) [9]<| aF 5 11 (.bool (x==1)) (bv 15 63) [10]<| G_bd 11 (zJ c4)<| jE 6 (some 12) (bv 15 127) [2] [(12,undef)]<| jE 7 (some 13) (bv 15 255) [3] [(13,undef)]<| jE 8 (some 14) (bv 15 511) [0] [(14,undef)]<| jE 9 (some 15) (bv 15 1023) [13,14] [(15,undef)]<| jE 10 (some 16) (bv 15 2047) [15] [(16,undef)]<| jE 11 (some 17) (bv 15 4095) [16] [(17,undef)]<| jE 12 (some 18) (bv 15 8191) [12,17] [(18,undef)]<| aF 13 19 (.bool false) (bv 15 16383) [11,18]<| aF 14 5 (.bool false) (bv 15 32767) [19]<| eV [(5,.bool false)] sk<| yq<| aE<| eW [5] [.bool false] hQ h
end dH

/-! moraine/weak.puts -/
namespace ff
def K0:=Func.code Tryz.f58
end ff
def ff.pt(tv:zW)(a e:Int)(H:zV)(R:zj):Prop:=
 ∃b:Addr,tv=some b/\
 ∃x:zW,hat H b=some (.pointer x)/\
 dE.C x a H (λv H1=> ∃i:Int,v=.int .i64 i/\
 if i=10 then(
 ∃n:zW,hat H1 b=some (.pointer n)/\
 ec.C n a H1 (λab H2=> ∃j:Int,ab=.int .i64 j/\
 if j=2 then(
 da.C (some b) e 20 H2 (λt H3=> ∃d:Int,t=.int .u64 d/\
 if d=20 then(
 R (.tuple #[]) H3)
 else
 ∃o:zW,hat H3 b=some (.pointer o)/\
 dF.C o a 10 1 H3 (λy H4=> ∃ra rb:Int,y=.tuple #[.int .u64 ra,.int .i64 rb]/\
 ∃m:zW,hat H4 b=some (.pointer m)/\
 db.C m ra d H4 (λaa H5=> ∃k:Int,aa=.int .i64 k/\
 if k=0 then(
 ∃l:zW,hat H5 b=some (.pointer l)/\
 dc.C l a 10 1 d H5 (λs H6=> ∃q:Int,s=.int .i64 q/\
 R (.tuple #[]) H6))
 else
 ∃f:zW,hat H5 b=some (.pointer f)/\
 dc.C f a 10 0 d H5 (λu H7=> ∃p:Int,u=.int .i64 p/\
 ∃g:zW,hat H7 b=some (.pointer g)/\
 dc.C g a 10 1 d H7 (λz H8=> ∃r:Int,z=.int .i64 r/\
 R (.tuple #[]) H8))))))
 else
 R (.tuple #[]) H2))
 else
 R (.tuple #[]) H1)
namespace ff
theorem link{tv:zW}{a e:Int}{H:zV}{R:zj}(h:pt tv a e H R):C tv a e H R:=by
 refine T_en K0 61 Tryz.func58 ?_
 intro w0 Q hQ
 unfold pt at h
 refine T_su [(0,vp tv),(1,vu a),(2,vu e)]<| T_sz<| ar 0<| T_nd 1 [] [(9,vp tv)] ?_
 obtain⟨b,rfl,h⟩:=h
 refine T_nd 2 [0,9] [(0,vp (some b)),(11,vp (some b))] ?_
 obtain⟨x,q1,h⟩:=h
 refine T_l1 12 23 q1 [11]<| T_nd 1 [] [(13,vu a)]<| T_c (some 14) h ?_;clear h
 rintro v H1 ⟨i,rfl,h⟩
 refine T_pd [12,13] [(14,vi i)]<| T_nd 2 [14] [(16,.bool (i !=10))] ?_
 by_cases c2:i=10
 ·rw[if_pos c2]at h
  refine N_bd 16 (bne_eq_false_iff_eq.mpr c2)<| T_nd 3 [] [(19,vp (some b))] ?_
  obtain⟨n,q4,h⟩:=h
  refine T_l1 20 23 q4 [19]<| T_nd 1 [] [(21,vu a)]<| T_c (some 22) h ?_;clear h
  rintro ab H2 ⟨j,rfl,h⟩
  refine T_pd [20,21] [(22,vi j)]<| T_ed 2 [16,22] [(24,.bool (j !=2))] ?_
  by_cases c5:j=2
  ·rw[if_pos c5]at h
   refine aJ 24 (bne_eq_false_iff_eq.mpr c5)<| T_kt<| ar 1<| T_nd 2 [2,24] [(25,vp (some b)),(26,vu e)]<| T_c (some 27) h ?_;clear h
   rintro t H3 ⟨d,rfl,h⟩
   refine T_pd [25,26] [(27,vu d)]<| T_ed 1 [27] [(6,vu d)]<| T_sz<| ar 2<| T_ed 2 [] [(29,.bool (d==20))] ?_
   by_cases c7:d=20
   ·rw[if_pos c7]at h
    exact aI 29 (zK c7)<| eW [] [] hQ h
   rw[if_neg c7]at h
   refine aJ 29 (zJ c7)<| T_kt<| T_sz<| ar 3<| T_nd 3 [29] [(33,vp (some b))] ?_
   obtain⟨o,q9,h⟩:=h
   refine T_l1 34 23 q9 [33]<| T_nd 1 [] [(35,vu a)]<| T_c (some 36) h ?_;clear h
   rintro y H4 ⟨ra,rb,rfl,h⟩
   refine T_pd [34,35] [(36,.tuple #[vu ra,vi rb])]<| T_ed 5 [36] [(7,vu ra)]<| ar 4<| T_nd 3 [] [(41,vp (some b))] ?_
   obtain⟨m,q10,h⟩:=h
   refine T_l1 42 23 q10 [41]<| T_nd 2 [7] [(43,vu ra),(44,vu d)]<| T_c (some 45) h ?_;clear h
   rintro aa H5 ⟨k,rfl,h⟩
   refine T_pd [42,43,44] [(45,vi k)]<| T_ed 1 [45] [(46,.bool (k !=0))] ?_
   by_cases c11:k=0
   ·rw[if_pos c11]at h
    refine aJ 46 (bne_eq_false_iff_eq.mpr c11)<| T_kt<| T_rz 6<| T_nd 3 [0,46] [(56,vp (some b))] ?_
    obtain⟨l,q13,h⟩:=h
    refine T_l1 57 23 q13 [56]<| T_nd 2 [1,6] [(58,vu a),(59,vu d)]<| T_c (some 60) h ?_;clear h
    rintro s H6 ⟨q,rfl,h⟩
    refine⟨[],pk,?_⟩
    exact zq<| eZ (fn:=Tryz.f58) [] hQ (show dU _ _ _ [] _ from .nil) h
   rw[if_neg c11]at h
   refine aI 46 (bne_iff_ne.mpr c11)<| T_rz 5<| T_nd 3 [46] [(49,vp (some b))] ?_
   obtain⟨f,q14,h⟩:=h
   refine T_l1 50 23 q14 [49]<| T_nd 2 [] [(51,vu a),(52,vu d)]<| T_c (some 53) h ?_;clear h
   rintro u H7 ⟨p,rfl,h⟩
   refine T_pd [50,51,52] []<| T_e<| T_rz 6<| T_nd 3 [0] [(56,vp (some b))] ?_
   obtain⟨g,q15,h⟩:=h
   refine T_l1 57 23 q15 [56]<| T_nd 2 [1,6] [(58,vu a),(59,vu d)]<| T_c (some 60) h ?_;clear h
   rintro z H8 ⟨r,rfl,h⟩
   refine⟨[],pk,?_⟩
   exact zq<| eZ (fn:=Tryz.f58) [] hQ (show dU _ _ _ [] _ from .nil) h
  rw[if_neg c5]at h
  exact aI 24 (bne_iff_ne.mpr c5)<| eW [] [] hQ h
 rw[if_neg c2]at h
 exact N_bd 16 (bne_iff_ne.mpr c2)<| T_ed 8 [16] [(24,.bool true)]<| T_tz 24<| eW [] [] hQ h
end ff

