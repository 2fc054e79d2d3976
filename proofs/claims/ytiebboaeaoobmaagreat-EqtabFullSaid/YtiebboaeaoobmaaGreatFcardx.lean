/- Printed: what each function asks, and that it is sound. -/
import Derived.Test.YtiebboaeaoobmaaGreatFnsC
set_option linter.unusedSimpArgs false
set_option linter.unusedVariables false
set_option maxRecDepth 100000
set_option maxHeartbeats 1000000
noncomputable section
namespace Go.Proofs.YtiebboaeaoobmaaGreat
open Go
/-! (*moraine/card.Cards).Dirty -/
namespace dF
def K0:=Func.code Tryz.f104
def K2:=cb K0
def K4:=cb K2
def K12:=cb K4
def K13:=ca K12
def K16:=cb K13
def K17:=ca K16
def K18:=ca K17
def K20:=cb K18
def K22:=cb K20
def K25:=ca K22
def K27:=ca K25
def K29:=cb K27
def K31:=cb K29
def K33:=cb K31
def K34:=ca K33
def K35:=ca K34
end dF
def dF.pt(c:zW)(g:Int)(H:zV)(R:zk):Prop:=
 cK.C c H (λv H1=> ∃x:Bool,v=.bool x/\
 if x=true then(
 R (.slice none 0 0) H1)
 else
 ∃cA:Addr,c=some cA/\
 ∃am:zW,hat H1 cA=some (.pointer am)/\
 ∃al:Addr,am=some al/\
 ∃ai:zW,hat H1 al=some (.pointer ai)/\
 da.C ai none 0 0 H1 (λaq H2=> ∃(xB:zW) (xN xC:Nat),aq=.slice xB xN xC/\
 ∃(aj:zW->Nat->Nat->zv) (m19:zW->Nat->Nat->Int->zV->Nat),aj none 0 0 0 H2/\ ∀(lB:zW) (lN:Nat) (lC:Nat) (s23:Int) (H3:zV),aj lB lN lC s23 H3->
 if s23< (xN:Int)then(
 ∃d:Addr,xB=some d/\
 zw s23 xN/\
 ∃f:Int,hat H3 (d.add (Int.toNat s23*1))=some (.int .i64 f)/\
 ∃ak:zW,hat H3 cA=some (.pointer ak)/\
 ∃an:Addr,ak=some an/\
 ∃ae:zW,hat H3 an=some (.pointer ae)/\
 bI.C ae f H3 (λao H4=> ∃(ab z ac s u q r:Int) (rb:Bool),ao=.tuple #[.agg #[.int .i64 ab,.int .i64 z,.int .i64 ac,.int .i64 s,.int .i64 u,.int .i64 q,.int .i64 r],.bool rb]/\
 ∀(b:Nat) (H5:zV),b=H4.size->H5=H4.push (.cells #[.int .i64 0,.int .i64 0,.int .i64 0,.int .i64 0,.int .i64 0,.int .i64 0,.int .i64 0] 158)->
 (aJ H5 (ad b) 0 7)/\ ∀H6,H6=aP H5 (ad b) [.int .i64 ab,.int .i64 z,.int .i64 ac,.int .i64 s,.int .i64 u,.int .i64 q,.int .i64 r] 0->
 ∃p m l o:Int,aL H6 ((ad b).add 3) 0 [.int .i64 p,.int .i64 m,.int .i64 l,.int .i64 o]/\
 ∃(ag:zW->Nat->Nat->zv) (m36:zW->Nat->Nat->Int->zV->Nat),ag lB lN lC 0 H6/\ ∀(j:zW) (lN_2:Nat) (lC_2:Nat) (s41:Int) (H7:zV),ag j lN_2 lC_2 s41 H7->
 if s41<4 then(
 ∃y:Int,((0<=s41/\s41< (4:Int))/\(#[.int .i64 p,.int .i64 m,.int .i64 l,.int .i64 o]:Array Value)[Int.toNat s41]?=some (.int .i64 y))/\
 ∃aa:Int,hat H7 (ad b)=some (.int .i64 aa)/\
 if((decide (aa>g)) && (decide (y<=g)))=true then(
 ∀(ah:Nat) (H8:zV),ah=H7.size->H8=H7.push (.cells #[.int .i64 f,.int .i64 s41] 165)->
 fN 2 165 16 [.int .i64 0,.int .i64 0] j lN_2 lC_2 (some (ad ah)) 1 H8 (λap af H9=>
 (ag ap (lN_2+1) af (zY (s41+1)) H9/\m36 ap (lN_2+1) af (zY (s41+1)) H9<m36 j lN_2 lC_2 s41 H7)))
 else
 (ag j lN_2 lC_2 (zY (s41+1)) H7/\m36 j lN_2 lC_2 (zY (s41+1)) H7<m36 j lN_2 lC_2 s41 H7))
 else
 (aj j lN_2 lC_2 (zY (s23+1)) H7/\m19 j lN_2 lC_2 (zY (s23+1)) H7<m19 lB lN lC s23 H3)))
 else
 R (.slice lB lN lC) H3))
namespace dF
theorem link{c:zW}{g:Int}{H:zV}{R:zk}(h:pt c g H R):C c g H R:=by
 refine T_en K0 63 Tryz.func104 ?_
 intro w0 Q hQ
 unfold pt zY at h
 refine T_su [(0,vp c),(1,vi g)]<| ar 0<| T_ed 1 [] []<| T_sz<| ar 1<| T_nd 1 [] [(12,vp c)]<| T_c (some 13) h ?_;clear h
 rintro v H1 ⟨x,rfl,h⟩
 refine T_pd [12] [(13,.bool x)]<| T_e ?_
 by_cases c1:x=true
 ·rw[if_pos c1]at h
  exact aH 13 c1<| ar 2<| T_nr 1 [4] [vs none 0 0] hQ h
 rw[if_neg c1]at h
 refine aI 13 (zZ c1)<| T_kt<| ar 3<| T_ed 1 [13] [(5,vs none 0 0)]<| T_sz<| ar 4<| T_nd 1 [] [(14,vp c)] ?_
 obtain⟨cA,rfl,h⟩:=h
 refine T_nd 2 [0,14] [(0,vp (some cA)),(16,vp (some cA))] ?_
 obtain⟨am,q3,h⟩:=h
 refine T_l1 17 99 q3 [16] ?_
 obtain⟨al,rfl,h⟩:=h
 refine T_nd 2 [17] [(19,vp (some al))] ?_
 obtain⟨ai,q4,h⟩:=h
 refine T_l1 20 103 q4 [19]<| T_c (some 21) h ?_;clear h
 rintro aq H2 ⟨xB,xN,xC,rfl,h⟩
 refine T_pd [20] [(21,vs xB xN xC)]<| T_ed 2 [] [(22,vi xN),(23,vi 0)]<| T_bz 0 ?_
 obtain⟨aj,m19,i5,i6⟩:=h
 refine cu (x:=K18) (σ:=zW×Nat×Nat×Int) (λs_=> [(0,vp (some cA)),(1,vi g),(5,vs s_.1 s_.2.1 s_.2.2.1),(21,vs xB xN xC),(22,vi xN),(23,vi s_.2.2.2)]) (λs_ H=>aj s_.1 s_.2.1 s_.2.2.1 s_.2.2.2 H) (λs_ H=>m19 s_.1 s_.2.1 s_.2.2.1 s_.2.2.2 H) ((none,0,0,0):zW×Nat×Nat×Int) (by kernel_rfl) i5 sk ?_
 rintro⟨lB,lN,lC,s23⟩ H3 i7
 have h:=i6 lB lN lC s23 H3 i7
 refine T_su [(0,vp (some cA)),(1,vi g),(5,vs lB lN lC),(21,vs xB xN xC),(22,vi xN),(23,vi s23)]<| ar 5<| T_ed 1 [] [(24,.bool (decide (s23< (xN:Int))))]<| T_sz ?_
 by_cases c8:s23< (xN:Int)
 ·rw[if_pos c8]at h
  refine aH 24 (zX c8)<| T_kt<| T_sz<| T_bz 1<| ar 6<| T_ud [24] [] ?_
  obtain⟨d,rfl,q10,h⟩:=h
  refine T_xd (some 25) 60 3 1 d xN xC .i64 s23 Tryz.underlying60 q10.1 q10.2 [21] [(21,vs (some d) xN xC),(25,vp (some (d.add (Int.toNat s23*1))))] ?_
  obtain⟨f,q11,h⟩:=h
  refine T_l1 26 3 q11 [25]<| T_ed 1 [26] [(7,vi f)]<| ar 7<| T_nd 3 [] [(30,vp (some cA))] ?_
  obtain⟨ak,q12,h⟩:=h
  refine T_l1 31 99 q12 [30] ?_
  obtain⟨an,rfl,h⟩:=h
  refine T_nd 2 [31] [(33,vp (some an))] ?_
  obtain⟨ae,q13,h⟩:=h
  refine T_l1 34 103 q13 [33]<| T_nd 1 [] [(35,vi f)]<| T_c (some 36) h ?_;clear h
  rintro ao H4 ⟨ab,z,ac,s,u,q,r,rb,rfl,h⟩
  refine T_pd [34,35] [(36,.tuple #[.agg #[vi ab,vi z,vi ac,vi s,vi u,vi q,vi r],.bool rb])]<| T_nd 3 [36] [(37,.agg #[vi ab,vi z,vi ac,vi s,vi u,vi q,vi r]),(38,.bool rb)]<| T_nw (some 8) (λb=>vp (pa b)) (.cells #[vi 0,vi 0,vi 0,vi 0,vi 0,vi 0,vi 0] 158) ?_
  intro b H5 e14 e15
  replace h:=h b H5 e14 e15
  refine T_pd [] [(8,vp (pa b))] ?_
  obtain⟨q17,h⟩:=h
  refine fm 158 [vi ab,vi z,vi ac,vi s,vi u,vi q,vi r] q17 ?_
  intro H6 e16
  replace h:=h H6 e16
  refine T_pd [37] []<| T_ed 1 [38] []<| ar 8<| T_nd 1 [] [(39,vp (some ((ad b).add 3)))] ?_
  obtain⟨p,m,l,o,q18,h⟩:=h
  refine T_lr 40 104 q18 [39]<| T_ed 1 [] [(41,vi 0)]<| T_bz 2 ?_
  obtain⟨ag,m36,i19,i20⟩:=h
  refine cu (x:=K35) (σ:=zW×Nat×Nat×Int) (λs_=> [(0,vp (some cA)),(1,vi g),(5,vs s_.1 s_.2.1 s_.2.2.1),(7,vi f),(8,vp (pa b)),(21,vs (some d) xN xC),(22,vi xN),(23,vi s23),(40,.agg #[vi p,vi m,vi l,vi o]),(41,vi s_.2.2.2)]) (λs_ H=>ag s_.1 s_.2.1 s_.2.2.1 s_.2.2.2 H) (λs_ H=>m36 s_.1 s_.2.1 s_.2.2.1 s_.2.2.2 H) ((lB,lN,lC,0):zW×Nat×Nat×Int) (by kernel_rfl) i19 sk ?_
  rintro⟨j,lN_2,lC_2,s41⟩ H7 i21
  have h:=i20 j lN_2 lC_2 s41 H7 i21
  refine T_su [(0,vp (some cA)),(1,vi g),(5,vs j lN_2 lC_2),(7,vi f),(8,vp (pa b)),(21,vs (some d) xN xC),(22,vi xN),(23,vi s23),(40,.agg #[vi p,vi m,vi l,vi o]),(41,vi s41)]<| ar 9<| T_ed 1 [] [(42,.bool (decide (s41<4)))]<| T_sz ?_
  by_cases c22:s41<4
  ·rw[if_pos c22]at h
   refine aH 42 (zX c22)<| T_kt<| T_sz<| T_bz 3<| ar 10<| T_nd 1 [42] [(43,vi s41)] ?_
   obtain⟨y,q24,h⟩:=h
   refine T_v1 44 (li 104 (.agg #[vi p,vi m,vi l,vi o]) (vi s41)) (vi y) (λw _=>iP (P:=Tryz.prog) (t:=104) (elem:=3) (n:=4) Tryz.underlying104 (λ_=>by kernel_rfl) (λ_=>by kernel_rfl) q24.1.1 q24.1.2 q24.2 w) []<| T_ed 2 [43,44] [(10,vi s41),(11,vi y)]<| ar 11<| T_nd 1 [] [(45,vp (pa b))] ?_
   obtain⟨aa,q25,h⟩:=h
   refine T_l1 46 3 q25 [45]<| T_nd 3 [46] [(49,.bool (decide (aa>g)))] ?_
   refine gm [(0,vp (some cA)),(1,vi g),(5,vs j lN_2 lC_2),(7,vi f),(8,vp (pa b)),(10,vi s41),(21,vs (some d) xN xC),(22,vi xN),(23,vi s23),(40,.agg #[vi p,vi m,vi l,vi o]),(41,vi s41),(53,.bool ((decide (aa>g)) && (decide (y<=g))))] ?_ ?_
   ·refine aB ?_
    by_cases c28:((decide (aa>g)) && (decide (y<=g)))=true
    ·rw[if_pos c28]at h
     refine aH 53 c28<| T_rz 12<| T_n 4 [(0,vp (some cA)),(1,vi g),(7,vi f),(8,vp (pa b)),(21,vs (some d) xN xC),(22,vi xN),(23,vi s23),(40,.agg #[vi p,vi m,vi l,vi o]),(41,vi s41),(54,vs j lN_2 lC_2),(57,.agg #[vi f,vi s41])]<| T_nw (some 58) (λb=>vs (pa b) 1 1) (.cells #[vi f,vi s41] 165) ?_
     intro ah H8 e30 e31
     replace h:=h ah H8 e30 e31
     refine T_pd [57] [(58,vs (pa ah) 1 1)]<| N_op (some 59) (fq #[154,154] 154 #[vs j lN_2 lC_2,vs (pa ah) 1 1]) _ (λ_=>by kernel_rfl) (eJ (T:=165) (sz:=2) (bytes:=16) (zero:=(.agg #[vi 0,vi 0]:Value)) Tryz.underlying154 Tryz.underlying154 rfl (show Tryz.prog.info? 165=some Tryz.t165 from by kernel_rfl) (by kernel_rfl) (by kernel_rfl) (by decide) (by kernel_rfl) (by first | exact h | (simpa only[Value.cells,List.toList_toArray]using h))) ?_;clear h
     rintro _ H9 ⟨ap,af,rfl,h⟩
     exact T_pd [54,58] [(59,vs ap (lN_2+1) af)]<| T_nd 1 [59] [(5,vs ap (lN_2+1) af)]<| zq<| aC<| aB<| T_rz 13<| T_ed 2 [41] [(41,vi (zY (s41+1)))]<| aQ ((ap,(lN_2+1),af,(zY (s41+1))):zW×Nat×Nat×Int) sk h
    rw[if_neg c28]at h
    exact aI 53 (zZ c28)<| T_k<| aC<| aB<| T_rz 13<| T_ne 2 [(0,vp (some cA)),(1,vi g),(5,vs j lN_2 lC_2),(7,vi f),(8,vp (pa b)),(21,vs (some d) xN xC),(22,vi xN),(23,vi s23),(40,.agg #[vi p,vi m,vi l,vi o]),(41,vi (zY (s41+1)))]<| aQ ((j,lN_2,lC_2,(zY (s41+1))):zW×Nat×Nat×Int) sk h
   intro hk
   refine T_nu [(0,vp (some cA)),(1,vi g),(5,vs j lN_2 lC_2),(7,vi f),(8,vp (pa b)),(10,vi s41),(11,vi y),(21,vs (some d) xN xC),(22,vi xN),(23,vi s23),(40,.agg #[vi p,vi m,vi l,vi o]),(41,vi s41),(49,.bool (decide (aa>g)))] ?_
   by_cases c26:aa>g
   ·have b27:(decide (aa>g))=true:=zX c26
    refine bV [(0,vp (some cA)),(1,vi g),(5,vs j lN_2 lC_2),(7,vi f),(8,vp (pa b)),(10,vi s41),(11,vi y),(21,vs (some d) xN xC),(22,vi xN),(23,vi s23),(40,.agg #[vi p,vi m,vi l,vi o]),(41,vi s41),(49,.bool true)] (by rw[b27]) ?_
    refine T_nd 4 [11,49] [(53,.bool (decide (y<=g)))]<| zq<| S_bd 53 (b:=(decide (y<=g))) (v:=((decide (aa>g)) && (decide (y<=g)))) (by simp only[b27,BL]) ?_
    exact hk
   have b27:(decide (aa>g))=false:=zQ c26
   refine bV [(0,vp (some cA)),(1,vi g),(5,vs j lN_2 lC_2),(7,vi f),(8,vp (pa b)),(10,vi s41),(11,vi y),(21,vs (some d) xN xC),(22,vi xN),(23,vi s23),(40,.agg #[vi p,vi m,vi l,vi o]),(41,vi s41),(49,.bool false)] (by rw[b27]) ?_
   refine T_nd 4 [11,49] [(53,.bool false)]<| zq<| S_bd 53 (b:=false) (v:=((decide (aa>g)) && (decide (y<=g)))) (by simp only[b27,BL]) ?_
   exact hk
  rw[if_neg c22]at h
  exact aI 42 (zQ c22)<| zj 2<| aA<| aA<| aN<| aC<| aB<| T_rz 14<| T_ed 2 [7,8,23,40,41,42] [(23,vi (zY (s23+1)))]<| aQ ((j,lN_2,lC_2,(zY (s23+1))):zW×Nat×Nat×Int) sk h
 rw[if_neg c8]at h
 exact aI 24 (zQ c8)<| zj 0<| aA<| aA<| aN<| aB<| ar 15<| T_nr 2 [4] [vs lB lN lC] hQ h
end dF

/-! (*moraine/card.Cards).Again -/
namespace dH
def K0:=Func.code Tryz.f107
def K2:=cb K0
def K4:=cb K2
def K12:=cb K4
def K14:=cb K12
def K27:=cb K14
def K28:=ca K27
def K29:=cb K27
def K31:=cb K28
def K32:=ca K31
def K33:=ca K32
def K34:=cb K32
def K36:=ca K29
end dH
def dH.pt(c:zW)(d a:Int)(H:zV)(R:zk):Prop:=
 ∀(b:Nat) (H1:zV),b=H.size->H1=H.push (.cells #[.pointer c] 82)->
 ∃x:zW,hat H1 (ad b)=some (.pointer x)/\
 cK.C x H1 (λv H2=> ∃an:Bool,v=.bool an/\
 if an=true then(
 R (.int .i64 19) H2)
 else
 ∃aq:zW,hat H2 (ad b)=some (.pointer aq)/\
 ∃aw:Addr,aq=some aw/\
 ∃ap:zW,hat H2 aw=some (.pointer ap)/\
 ∃au:Addr,ap=some au/\
 ∃am:zW,hat H2 au=some (.pointer am)/\
 bI.C am d H2 (λa5 H3=> ∃(u t ag l m j k:Int) (rb:Bool),a5=.tuple #[.agg #[.int .i64 u,.int .i64 t,.int .i64 ag,.int .i64 l,.int .i64 m,.int .i64 j,.int .i64 k],.bool rb]/\
 ∀(i:Nat) (H4:zV),i=H3.size->H4=H3.push (.cells #[.int .i64 0,.int .i64 0,.int .i64 0,.int .i64 0,.int .i64 0,.int .i64 0,.int .i64 0] 158)->
 (aJ H4 (ad i) 0 7)/\ ∀H5,H5=aP H4 (ad i) [.int .i64 u,.int .i64 t,.int .i64 ag,.int .i64 l,.int .i64 m,.int .i64 j,.int .i64 k] 0->
 if rb=true then(
 if((decide (a<0)) || (decide (a>=4)))=true then(
 R (.int .i64 1) H5)
 else
 ∀(f:Nat) (H6:zV),f=H5.size->H6=H5.push (.cells #[.int .i64 0] 3)->
 (aJ H6 (ad f) 0 1)/\ ∀H7,H7=aP H6 (ad f) [.int .i64 5] 0->
 ∃al:zW,hat H7 (ad b)=some (.pointer al)/\
 dW.C al d a H7 (λak H8=>ak=ak/\
 ∀(rc:LoopState->Option Code->Obj) (lp:Nat) (H9:zV),lp=H8.size+1->H9=(H8.push (.deferred (some []))).push (rc .ready none)->
 ∀vY:Value,(∀(ab:Int) (H10:zV) (vRy:zk),H10[lp]?=some (rc .ready none)->
 (H10[lp]?=some (rc .ready none)/\ ∀ao:zV,ao=aV H10 lp (rc .busy none)->
 ∃ah:zW,hat ao (ad b)=some (.pointer ah)/\
 ∃ac y xN o n q p:Int,aL ao (ad i) 0 [.int .i64 ac,.int .i64 y,.int .i64 xN,.int .i64 o,.int .i64 n,.int .i64 q,.int .i64 p]/\
 ∃ai:Int,hat ao (ad f)=some (.int .i64 ai)/\
 cI.C ah ac y xN o n q p ab ai ao (λa1 az=> ∃ae:Int,a1=.int .i64 ae/\
 (aJ az (ad f) 0 1)/\ ∀av,av=aP az (ad f) [.int .i64 ae] 0->
 av[lp]?=some (rc .busy none)/\
 vRy (.bool true) (aV av lp (rc .ready none))))->
 FC Tryz.prog vY #[.int .u64 ab] H10 vRy)->
 FE Tryz.prog ak #[vY] H9 (λ_ a0=>
 (a0[lp]?=some (rc .ready none)/\ ∀aj:zV,aj=aV a0 lp (rc .exhausted none)->
 ∃ay:zW,hat aj (ad b)=some (.pointer ay)/\
 ∃r:Addr,ay=some r/\
 ∃ax:zW,hat aj r=some (.pointer ax)/\
 ∃s:Addr,ax=some s/\
 ∃z:zW,hat aj s=some (.pointer z)/\
 ∃af:Int,hat aj (ad f)=some (.int .i64 af)/\
 eY.C z d a af aj (λa2 a4=> ∃aa:Int,a2=.int .i64 aa/\
 Shut (H8.size::[]) a4 (λa3=>
 R (.int .i64 aa) a3))))))
 else
 R (.int .i64 19) H5))
namespace dH
theorem link{c:zW}{d a:Int}{H:zV}{R:zk}(h:pt c d a H R):C c d a H R:=by
 refine T_en K0 56 Tryz.func107 ?_
 intro w0 Q hQ
 unfold pt at h
 refine T_su [(0,vp c),(1,vi d),(2,vi a)]<| ar 0<| T_nw (some 3) (λb=>vp (pa b)) (.cells #[vp c] 82) ?_
 intro b H1 e1 e2
 replace h:=h b H1 e1 e2
 refine T_pd [0] [(3,vp (pa b))]<| T_ed 1 [] []<| T_sz<| ar 1 ?_
 obtain⟨x,q3,h⟩:=h
 refine T_l1 11 82 q3 []<| T_c (some 12) h ?_;clear h
 rintro v H2 ⟨an,rfl,h⟩
 refine T_pd [11] [(12,.bool an)]<| T_e ?_
 by_cases c4:an=true
 ·rw[if_pos c4]at h
  exact aH 12 c4<| ar 2<| T_nr 1 [6] [vi 19] hQ h
 rw[if_neg c4]at h
 refine aI 12 (zZ c4)<| T_kt<| ar 3<| T_ud [12] [] ?_
 obtain⟨aq,q6,h⟩:=h
 refine T_l1 14 82 q6 [] ?_
 obtain⟨aw,rfl,h⟩:=h
 refine T_nd 2 [14] [(16,vp (some aw))] ?_
 obtain⟨ap,q7,h⟩:=h
 refine T_l1 17 99 q7 [16] ?_
 obtain⟨au,rfl,h⟩:=h
 refine T_nd 2 [17] [(19,vp (some au))] ?_
 obtain⟨am,q8,h⟩:=h
 refine T_l1 20 103 q8 [19]<| T_nd 1 [] [(21,vi d)]<| T_c (some 22) h ?_;clear h
 rintro a5 H3 ⟨u,t,ag,l,m,j,k,rb,rfl,h⟩
 refine T_pd [20,21] [(22,.tuple #[.agg #[vi u,vi t,vi ag,vi l,vi m,vi j,vi k],.bool rb])]<| T_nd 3 [22] [(23,.agg #[vi u,vi t,vi ag,vi l,vi m,vi j,vi k]),(24,.bool rb)]<| T_nw (some 7) (λb=>vp (pa b)) (.cells #[vi 0,vi 0,vi 0,vi 0,vi 0,vi 0,vi 0] 158) ?_
 intro i H4 e9 e10
 replace h:=h i H4 e9 e10
 refine T_pd [] [(7,vp (pa i))] ?_
 obtain⟨q12,h⟩:=h
 refine fm 158 [vi u,vi t,vi ag,vi l,vi m,vi j,vi k] q12 ?_
 intro H5 e11
 replace h:=h H5 e11
 refine T_pd [23] []<| T_ed 1 [24] [(8,.bool rb)]<| T_sz<| T_bz 0<| ar 4<| T_ed 3 [8] [(25,.bool (!rb))] ?_
 by_cases c13:rb=true
 ·rw[if_pos c13]at h
  refine aI 25 (congrArg Bool.not (c13))<| ar 6 ?_
  refine gm [(1,vi d),(2,vi a),(3,vp (pa b)),(7,vp (pa i)),(28,.bool ((decide (a<0)) || (decide (a>=4))))] ?_ ?_
  ·refine aB ?_
   by_cases c17:((decide (a<0)) || (decide (a>=4)))=true
   ·rw[if_pos c17]at h
    exact aH 28 c17<| ar 7<| T_nr 1 [6] [vi 1] hQ h
   rw[if_neg c17]at h
   refine aI 28 (zZ c17)<| T_k<| aC<| aB<| ar 8<| T_nu [(1,vi d),(2,vi a),(3,vp (pa b)),(7,vp (pa i))]<| T_nw (some 9) (λb=>vp (pa b)) (.cells #[vi 0] 3) ?_
   intro f H6 e19 e20
   replace h:=h f H6 e19 e20
   refine T_pd [] [(9,vp (pa f))] ?_
   obtain⟨q22,h⟩:=h
   refine dV 3 (vi 5) q22 ?_
   intro H7 e21
   replace h:=h H7 e21
   refine T_pd [] []<| T_e<| T_sz<| ar 9 ?_
   obtain⟨al,q23,h⟩:=h
   refine T_l1 35 82 q23 []<| T_nd 2 [] [(36,vi d),(37,vi a)]<| T_c (some 38) h ?_;clear h
   rintro ak H8 ⟨-,h⟩
   refine T_pd [35,36,37] [(38,ak)]<| T_e<| T_bz 1<| kU (g:=.tmp 38) (ps:= #[39]) (assign:=K33) (body:=K34) (ak) (by kernel_rfl) (by kernel_rfl) (by kernel_rfl) ?_
   intro rc lp H9 r24 e25 e26 y27
   refine FE.mono (h rc lp H9 e25 e26 (.func (.yield lp) #[] #[]) ?_) ?_
   ·clear h
    intro ab H10 vRy q28 h
    refine y27 #[vu ab] H10 vRy (by kernel_rfl) q28 (λw1x=>?_)
    refine T_sd [] [(39,vu ab)]<| T_rz 10<| T_nd 1 [1,2,38,39] [(10,vu ab)]<| zq ?_
    obtain⟨q30,h⟩:=h
    refine aB<| kS r24 q30 ?_
    intro ao e29
    replace h:=h ao e29
    refine T_bz 2<| T_rz 11 ?_
    obtain⟨ah,q31,h⟩:=h
    refine T_l1 40 82 q31 [3] ?_
    obtain⟨ac,y,xN,o,n,q,p,q32,h⟩:=h
    refine T_lr 41 158 q32 [7]<| T_nd 1 [10] [(42,vu ab)] ?_
    obtain⟨ai,q33,h⟩:=h
    refine T_l1 43 3 q33 []<| T_c (some 44) h ?_;clear h
    rintro a1 az ⟨ae,rfl,h⟩
    refine⟨[(9,vp (pa f)),(44,vi ae)],pk,?_⟩
    obtain⟨q35,h⟩:=h
    refine dV 3 (vi ae) q35 ?_
    intro av e34
    replace h:=h av e34
    refine⟨[],pk,?_⟩
    refine zq<| aC ?_
    obtain⟨q36,h⟩:=h
    exact jx r24 q36 h
   clear h y27
   rintro _ a0 (⟨q37,h⟩)
   refine .inl ⟨q37,λaj e42=>?_⟩
   replace h:=h aj e42
   refine jl (H8.size::[]) rfl ?_
   refine T_sd [7,38] []<| aC<| aB<| T_sz ?_
   obtain⟨ay,q38,r,rfl,ax,q39,s,rfl,z,q40,af,q41,h⟩:=h
   refine yz 12 (Code.ops K36) [(10,(ad b),[vp (some r)]),(10,r,[vp (some s)]),(10,s,[vp z]),(10,(ad f),[vi af])] 12 (bv 12 0) (show aE _ _ _ from⟨⟨q38,trivial⟩,⟨q39,trivial⟩,⟨q40,trivial⟩,⟨q41,trivial⟩,trivial⟩)<| T_g 0 (some 45) (vp (some r)) (bv 12 1) [(1,vi d),(2,vi a),(9,vp (pa f)),(45,vp (some r))] (aM 82 (vp (pa b))) (yx 10 yZ)<| aD 1 46 (vp (some r)) (bv 12 3) [45]<| aD 2 47 (vp (some r)) (bv 12 7) [46]<| T_g1 3 48 (vp (some s)) (bv 12 15) [47] (aM 99 (vp (some r))) (yx 10 yX)<| aD 4 49 (vp (some s)) (bv 12 31) [48]<| aD 5 50 (vp (some s)) (bv 12 63) [49]<| T_g1 6 51 (vp z) (bv 12 127) [50] (aM 103 (vp (some s))) (yx 10 yQ)<| aD 7 52 (vi d) (bv 12 255) [1]<| aD 8 53 (vi a) (bv 12 511) [2]<| T_g1 9 54 (vi af) (bv 12 1023) [9] (aM 3 (vp (pa f))) (yx 10 yJ)<| yj 10 (some 55) (bv 12 2047) 126 #[vp z,vi d,vi a,vi af] h ?_;clear h
   rintro a2 a4 ⟨aa,rfl,h⟩
   refine⟨[(55,vi aa)],pk,(show aE _ _ _ from⟨trivial,trivial,trivial,trivial,trivial⟩),?_⟩
   refine T_g 11 (some 6) (vi aa) (bv 12 4095) [(6,vi aa)] (pure (.value (vi aa)):Sem Next) (λ_ _ _ _ _=>rfl)<| dp [(6,vi aa)] sk<| yv<| aB<| zx ?_
   show At _ _ _ _ _ (Q .ret)
   refine iQ (fn:=Tryz.f107) (H8.size::[]) hQ (Shut.mono (λa3 h=>?_) h)
   exact⟨[vi aa],(show cF _ _ _ [.tmp 6] _ from .tmp (by kernel_rfl) (.nil)),h⟩
  intro hk
  refine T_n 3 [(1,vi d),(2,vi a),(3,vp (pa b)),(7,vp (pa i)),(31,.bool (decide (a<0)))] ?_
  by_cases c15:a<0
  ·have b16:(decide (a<0))=true:=zX c15
   refine bV [(1,vi d),(2,vi a),(3,vp (pa b)),(7,vp (pa i)),(31,.bool true)] (by rw[b16]) ?_
   refine T_nd 4 [31] [(28,.bool true)]<| zq<| S_bd 28 (b:=true) (v:=((decide (a<0)) || (decide (a>=4)))) (by simp only[b16,BL]) ?_
   exact hk
  have b16:(decide (a<0))=false:=zQ c15
  refine bV [(1,vi d),(2,vi a),(3,vp (pa b)),(7,vp (pa i)),(31,.bool false)] (by rw[b16]) ?_
  refine T_nd 4 [31] [(28,.bool (decide (a>=4)))]<| zq<| S_bd 28 (b:=(decide (a>=4))) (v:=((decide (a<0)) || (decide (a>=4)))) (by simp only[b16,BL]) ?_
  exact hk
 rw[if_neg c13]at h
 exact aH 25 (congrArg Bool.not (zZ c13))<| ar 5<| T_nr 1 [6] [vi 19] hQ h
end dH

/-! (*moraine/card.Cards).words -/
namespace dW
def K0:=Func.code Tryz.f135
end dW
def dW.pt(c:zW)(g a:Int)(H:zV)(R:zk):Prop:=
 ∀(b:Nat) (H1:zV),b=H.size->H1=H.push (.cells #[.pointer c] 82)->
 ∀(d:Nat) (H2:zV),d=H1.size->H2=H1.push (.cells #[.int .i64 g] 3)->
 ∀(f:Nat) (H3:zV),f=H2.size->H3=H2.push (.cells #[.int .i64 a] 3)->
 R (.func (.func 147) #[] #[.pointer (some (ad b)),.pointer (some (ad d)),.pointer (some (ad f))]) H3
namespace dW
theorem link{c:zW}{g a:Int}{H:zV}{R:zk}(h:pt c g a H R):C c g a H R:=by
 refine T_en K0 8 Tryz.func135 ?_
 intro w0 Q hQ
 unfold pt at h
 refine T_su [(0,vp c),(1,vi g),(2,vi a)]<| ar 0<| T_nw (some 3) (λb=>vp (pa b)) (.cells #[vp c] 82) ?_
 intro b H1 e1 e2
 replace h:=h b H1 e1 e2
 refine T_pd [0] [(3,vp (pa b))]<| T_nw (some 4) (λb=>vp (pa b)) (.cells #[vi g] 3) ?_
 intro d H2 e3 e4
 replace h:=h d H2 e3 e4
 refine T_pd [1] [(4,vp (pa d))]<| T_nw (some 5) (λb=>vp (pa b)) (.cells #[vi a] 3) ?_
 intro f H3 e5 e6
 replace h:=h f H3 e5 e6
 exact T_pd [2] [(5,vp (pa f))]<| T_ed 1 [] []<| ar 1<| T_nr 2 [6] [.func (.func 147) #[] #[vp (pa b),vp (pa d),vp (pa f)]] hQ h
end dW

/-! (*moraine/card.Cards).words.1 -/
namespace dq
def K0:=Func.code Tryz.f147
def K2:=cb K0
def K3:=ca K2
def K4:=ca K3
def K6:=cb K4
def K8:=cb K6
def K11:=ca K8
def K13:=ca K11
def K15:=cb K13
def K16:=ca K15
end dq
def dq.pt(a:Value)(k l j:zW)(H:zV)(R:zk):Prop:=
 ∃(I5:zv) (m5:Int->zV->Nat),I5 0 H/\ ∀(s8:Int) (H1:zV),I5 s8 H1->
 if s8<16 then(
 ∃f:Addr,k=some f/\
 ∃x:zW,hat H1 f=some (.pointer x)/\
 ∃xA:Addr,x=some xA/\
 ∃p:zW,hat H1 xA=some (.pointer p)/\
 ∃m:Addr,p=some m/\
 ∃n:zW,hat H1 m=some (.pointer n)/\
 ∃b:Addr,l=some b/\
 ∃g:Int,hat H1 b=some (.int .i64 g)/\
 ∃d:Addr,j=some d/\
 ∃i:Int,hat H1 d=some (.int .i64 i)/\
 cE.C n (zY ((zY ((zY (g*64))+(zY (i*16))))+s8)) H1 (λv H2=> ∃ra rb:Int,v=.tuple #[.int .u64 ra,.int .i64 rb]/\
 if rb=0 then(
 FC Tryz.prog a #[.int .u64 ra] H2 (λq H3=> ∃o:Bool,q=.bool o/\
 if o=true then(
 (I5 (zY (s8+1)) H3/\m5 (zY (s8+1)) H3<m5 s8 H1))
 else
 R (.tuple #[]) H3))
 else
 R (.tuple #[]) H2))
 else
 R (.tuple #[]) H1
namespace dq
theorem link{a:Value}{k l j:zW}{H:zV}{R:zk}(h:pt a k l j H R):C a k l j H R:=by
 refine T_en K0 38 Tryz.func147 ?_
 intro w0 Q hQ
 unfold pt zY at h
 refine T_su [(0,a),(1,vp k),(2,vp l),(3,vp j)]<| ar 0<| T_ed 1 [] [(8,vi 0)]<| T_bz 0 ?_
 obtain⟨I5,m5,i1,i2⟩:=h
 refine cu (x:=K4) (σ:=Int) (λs_=> [(0,a),(1,vp k),(2,vp l),(3,vp j),(8,vi s_)]) (λs_ H=>I5 s_ H) (λs_ H=>m5 s_ H) (0:Int) (by kernel_rfl) i1 sk ?_
 rintro s8 H1 i3
 have h:=i2 s8 H1 i3
 refine T_su [(0,a),(1,vp k),(2,vp l),(3,vp j),(8,vi s8)]<| ar 1<| T_ed 1 [] [(9,.bool (decide (s8<16)))]<| T_sz ?_
 by_cases c4:s8<16
 ·rw[if_pos c4]at h
  refine aH 9 (zX c4)<| T_kt<| T_sz<| T_bz 1<| ar 2<| T_ed 2 [9] [(5,vi s8)]<| T_sz ?_
  obtain⟨f,rfl,x,q6,xA,rfl,p,q7,m,rfl,n,q8,b,rfl,g,q9,d,rfl,i,q10,h⟩:=h
  refine yz 3 (Code.ops K16) [(14,f,[vp (some xA)]),(14,xA,[vp (some m)]),(14,m,[vp n]),(14,b,[vi g]),(14,d,[vi i])] 20 (bv 20 0) (show aE _ _ _ from⟨⟨q6,trivial⟩,⟨q7,trivial⟩,⟨q8,trivial⟩,⟨q9,trivial⟩,⟨q10,trivial⟩,trivial⟩)<| T_g 0 (some 12) (vp (some xA)) (bv 20 1) [(0,a),(1,vp (some f)),(2,vp (some b)),(3,vp (some d)),(5,vi s8),(8,vi s8),(12,vp (some xA))] (aM 82 (vp (some f))) (yx 14 yZ)<| aD 1 13 (vp (some xA)) (bv 20 3) [12]<| aD 2 14 (vp (some xA)) (bv 20 7) [13]<| T_g1 3 15 (vp (some m)) (bv 20 15) [14] (aM 99 (vp (some xA))) (yx 14 yX)<| aD 4 16 (vp (some m)) (bv 20 31) [15]<| aD 5 17 (vp (some m)) (bv 20 63) [16]<| T_g1 6 18 (vp n) (bv 20 127) [17] (aM 103 (vp (some m))) (yx 14 yQ)<| T_g1 7 19 (vi g) (bv 20 255) [] (aM 3 (vp (some b))) (yx 14 yJ)<| aD 8 20 (vi (zY (g*64))) (bv 20 511) [19]<| T_g1 9 21 (vi i) (bv 20 1023) [] (aM 3 (vp (some d))) (yx 14 yK)<| aD 10 22 (vi (zY (i*16))) (bv 20 2047) [21]<| aD 11 23 (vi (zY ((zY (g*64))+(zY (i*16))))) (bv 20 4095) [20,22]<| aD 12 24 (vi s8) (bv 20 8191) [5]<| aD 13 25 (vi (zY ((zY ((zY (g*64))+(zY (i*16))))+s8))) (bv 20 16383) [23,24]<| yj 14 (some 26) (bv 20 32767) 97 #[vp n,vi (zY ((zY ((zY (g*64))+(zY (i*16))))+s8))] h ?_;clear h
  rintro v H2 ⟨ra,rb,rfl,h⟩
  refine⟨[(0,a),(1,vp (some f)),(2,vp (some b)),(3,vp (some d)),(8,vi s8),(26,.tuple #[vu ra,vi rb])],pk,(show aE _ _ _ from⟨trivial,trivial,trivial,trivial,trivial,trivial⟩),?_⟩
  refine T_g 15 (some 11) (.tuple #[vu ra,vi rb]) (bv 20 65535) [(0,a),(1,vp (some f)),(2,vp (some b)),(3,vp (some d)),(8,vi s8),(11,.tuple #[vu ra,vi rb])] (pure (.value (.tuple #[vu ra,vi rb])):Sem Next) (λ_ _ _ _ _=>rfl)<| T_g1 16 27 (vu ra) (bv 20 131071) [] (pure (.value (vu ra)):Sem Next) (λ_ _ _ _ _=>rfl)<| T_g1 17 28 (vi rb) (bv 20 262143) [11] (pure (.value (vi rb)):Sem Next) (λ_ _ _ _ _=>rfl)<| T_g1 18 6 (vu ra) (bv 20 524287) [27] (pure (.value (vu ra)):Sem Next) (λ_ _ _ _ _=>rfl)<| T_g1 19 7 (vi rb) (bv 20 1048575) [28] (pure (.value (vi rb)):Sem Next) (λ_ _ _ _ _=>rfl)<| dp [(0,a),(1,vp (some f)),(2,vp (some b)),(3,vp (some d)),(6,vu ra),(7,vi rb),(8,vi s8)] sk<| yv<| aB<| ar 4<| T_n 3 [(0,a),(1,vp (some f)),(2,vp (some b)),(3,vp (some d)),(6,vu ra),(8,vi s8),(31,.bool (rb !=0))] ?_
  by_cases c11:rb=0
  ·rw[if_pos c11]at h
   have b12:(rb !=0)=false:=bne_eq_false_iff_eq.mpr c11
   refine bV [(0,a),(1,vp (some f)),(2,vp (some b)),(3,vp (some d)),(6,vu ra),(8,vi s8),(31,.bool false)] (by rw[b12]) ?_
   clear b12
   refine T_nd 2 [6] [(32,a),(33,vu ra)]<| nQ (some 34) a #[vu ra] (λ_=>by kernel_rfl) h ?_;clear h
   rintro q H3 ⟨o,rfl,h⟩
   refine T_pd [32,33] [(34,.bool o)]<| T_ed 2 [31,34] [(36,.bool (!o))] ?_
   by_cases c13:o=true
   ·rw[if_pos c13]at h
    exact aI 36 (congrArg Bool.not (c13))<| T_k<| aC<| aB<| T_rz 5<| T_ed 2 [8,36] [(8,vi (zY (s8+1)))]<| aQ ((zY (s8+1)):Int) sk h
   rw[if_neg c13]at h
   exact aH 36 (congrArg Bool.not (zZ c13))<| gi [] [] hQ h
  rw[if_neg c11]at h
  have b12:(rb !=0)=true:=bne_iff_ne.mpr c11
  refine bV [(0,a),(1,vp (some f)),(2,vp (some b)),(3,vp (some d)),(6,vu ra),(8,vi s8),(31,.bool true)] (by rw[b12]) ?_
  clear b12
  exact T_ed 5 [6,31] [(36,.bool true)]<| T_tz 36<| gi [] [] hQ h
 rw[if_neg c4]at h
 exact aI 9 (zQ c4)<| zj 0<| aA<| aA<| aN<| fp (fn:=Tryz.f147) [] hQ (show cF _ _ _ [] _ from .nil) h
end dq

