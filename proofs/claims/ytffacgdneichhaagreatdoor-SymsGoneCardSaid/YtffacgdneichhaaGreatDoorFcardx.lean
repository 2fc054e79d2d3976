/- Printed: what each function asks, and that it is sound. -/
import Derived.Test.YtffacgdneichhaaGreatDoorFnsC
set_option linter.unusedSimpArgs false
set_option linter.unusedVariables false
set_option maxRecDepth 100000
set_option maxHeartbeats 1000000
noncomputable section
namespace Go.Proofs.YtffacgdneichhaaGreatDoor
open Go
/-! (*moraine/card.Cards).Dirty -/
namespace dc
def K0:=Func.code Tryz.f39
def K2:=cb K0
def K4:=cb K2
def K12:=cb K4
def K13:=ca K12
def K16:=cb K13
def K17:=ca K16
def K18:=ca K17
def K20:=cb K18
def K22:=cb K20
def K25:=ca K22
def K27:=ca K25
def K29:=cb K27
def K31:=cb K29
def K33:=cb K31
def K34:=ca K33
def K35:=ca K34
end dc
def dc.pt(c:zW)(g:Int)(H:zV)(R:zk):Prop:=
 cP.C c H (λv H1=> ∃x:Bool,v=.bool x/\
 if x=true then(
 R (.slice none 0 0) H1)
 else
 ∃cA:Addr,c=some cA/\
 ∃aj:zW,hat H1 cA=some (.pointer aj)/\
 ∃an:Addr,aj=some an/\
 ∃ah:zW,hat H1 an=some (.pointer ah)/\
 cS.C ah none 0 0 H1 (λaq H2=> ∃(xB:zW) (xN xC:Nat),aq=.slice xB xN xC/\
 ∃(ak:zW->Nat->Nat->zv) (m19:zW->Nat->Nat->Int->zV->Nat),ak none 0 0 0 H2/\ ∀(lB:zW) (lN:Nat) (lC:Nat) (s23:Int) (H3:zV),ak lB lN lC s23 H3->
 if s23< (xN:Int)then(
 ∃d:Addr,xB=some d/\
 zw s23 xN/\
 ∃f:Int,hat H3 (d.add (Int.toNat s23*1))=some (.int .i64 f)/\
 ∃am:zW,hat H3 cA=some (.pointer am)/\
 ∃al:Addr,am=some al/\
 ∃af:zW,hat H3 al=some (.pointer af)/\
 bE.C af f H3 (λao H4=> ∃(ab z ac q u r s:Int) (rb:Bool),ao=.tuple #[.agg #[.int .i64 ab,.int .i64 z,.int .i64 ac,.int .i64 q,.int .i64 u,.int .i64 r,.int .i64 s],.bool rb]/\
 ∀(b:Nat) (H5:zV),b=H4.size->H5=H4.push (.cells #[.int .i64 0,.int .i64 0,.int .i64 0,.int .i64 0,.int .i64 0,.int .i64 0,.int .i64 0] 96)->
 (aI H5 (ad b) 0 7)/\ ∀H6,H6=aO H5 (ad b) [.int .i64 ab,.int .i64 z,.int .i64 ac,.int .i64 q,.int .i64 u,.int .i64 r,.int .i64 s] 0->
 ∃p m o l:Int,aU H6 ((ad b).add 3) 0 [.int .i64 p,.int .i64 m,.int .i64 o,.int .i64 l]/\
 ∃(ag:zW->Nat->Nat->zv) (m36:zW->Nat->Nat->Int->zV->Nat),ag lB lN lC 0 H6/\ ∀(j:zW) (lN_2:Nat) (lC_2:Nat) (s41:Int) (H7:zV),ag j lN_2 lC_2 s41 H7->
 if s41<4 then(
 ∃y:Int,((0<=s41/\s41< (4:Int))/\(#[.int .i64 p,.int .i64 m,.int .i64 o,.int .i64 l]:Array Value)[Int.toNat s41]?=some (.int .i64 y))/\
 ∃aa:Int,hat H7 (ad b)=some (.int .i64 aa)/\
 if((decide (aa>g)) && (decide (y<=g)))=true then(
 ∀(ai:Nat) (H8:zV),ai=H7.size->H8=H7.push (.cells #[.int .i64 f,.int .i64 s41] 103)->
 dw 2 103 16 [.int .i64 0,.int .i64 0] j lN_2 lC_2 (some (ad ai)) 1 H8 (λap ae H9=>
 (ag ap (lN_2+1) ae (zY (s41+1)) H9/\m36 ap (lN_2+1) ae (zY (s41+1)) H9<m36 j lN_2 lC_2 s41 H7)))
 else
 (ag j lN_2 lC_2 (zY (s41+1)) H7/\m36 j lN_2 lC_2 (zY (s41+1)) H7<m36 j lN_2 lC_2 s41 H7))
 else
 (ak j lN_2 lC_2 (zY (s23+1)) H7/\m19 j lN_2 lC_2 (zY (s23+1)) H7<m19 lB lN lC s23 H3)))
 else
 R (.slice lB lN lC) H3))
namespace dc
theorem link{c:zW}{g:Int}{H:zV}{R:zk}(h:pt c g H R):C c g H R:=by
 refine T_en K0 63 Tryz.func39 ?_
 intro w0 Q hQ
 unfold pt zY at h
 refine T_su [(0,vp c),(1,vi g)]<| ar 0<| T_ed 1 [] []<| T_sz<| ar 1<| T_nd 1 [] [(12,vp c)]<| T_c (some 13) h ?_;clear h
 rintro v H1 ⟨x,rfl,h⟩
 refine T_pd [12] [(13,.bool x)]<| T_e ?_
 by_cases c1:x=true
 ·rw[if_pos c1]at h
  exact aF 13 c1<| ar 2<| T_nr 1 [4] [vs none 0 0] hQ h
 rw[if_neg c1]at h
 refine aE 13 (zZ c1)<| T_kt<| ar 3<| T_ed 1 [13] [(5,vs none 0 0)]<| T_sz<| ar 4<| T_nd 1 [] [(14,vp c)] ?_
 obtain⟨cA,rfl,h⟩:=h
 refine T_nd 2 [0,14] [(0,vp (some cA)),(16,vp (some cA))] ?_
 obtain⟨aj,q3,h⟩:=h
 refine T_l1 17 81 q3 [16] ?_
 obtain⟨an,rfl,h⟩:=h
 refine T_nd 2 [17] [(19,vp (some an))] ?_
 obtain⟨ah,q4,h⟩:=h
 refine T_l1 20 84 q4 [19]<| T_c (some 21) h ?_;clear h
 rintro aq H2 ⟨xB,xN,xC,rfl,h⟩
 refine T_pd [20] [(21,vs xB xN xC)]<| T_ed 2 [] [(22,vi xN),(23,vi 0)]<| T_bz 0 ?_
 obtain⟨ak,m19,i5,i6⟩:=h
 refine bO (x:=K18) (σ:=zW×Nat×Nat×Int) (λs_=> [(0,vp (some cA)),(1,vi g),(5,vs s_.1 s_.2.1 s_.2.2.1),(21,vs xB xN xC),(22,vi xN),(23,vi s_.2.2.2)]) (λs_ H=>ak s_.1 s_.2.1 s_.2.2.1 s_.2.2.2 H) (λs_ H=>m19 s_.1 s_.2.1 s_.2.2.1 s_.2.2.2 H) ((none,0,0,0):zW×Nat×Nat×Int) (by kernel_rfl) i5 sk ?_
 rintro⟨lB,lN,lC,s23⟩ H3 i7
 have h:=i6 lB lN lC s23 H3 i7
 refine T_su [(0,vp (some cA)),(1,vi g),(5,vs lB lN lC),(21,vs xB xN xC),(22,vi xN),(23,vi s23)]<| ar 5<| T_ed 1 [] [(24,.bool (decide (s23< (xN:Int))))]<| T_sz ?_
 by_cases c8:s23< (xN:Int)
 ·rw[if_pos c8]at h
  refine aF 24 (zX c8)<| T_kt<| T_sz<| T_bz 1<| ar 6<| T_ud [24] [] ?_
  obtain⟨d,rfl,q10,h⟩:=h
  refine T_xd (some 25) 79 3 1 d xN xC .i64 s23 Tryz.underlying79 q10.1 q10.2 [21] [(21,vs (some d) xN xC),(25,vp (some (d.add (Int.toNat s23*1))))] ?_
  obtain⟨f,q11,h⟩:=h
  refine T_l1 26 3 q11 [25]<| T_ed 1 [26] [(7,vi f)]<| ar 7<| T_nd 3 [] [(30,vp (some cA))] ?_
  obtain⟨am,q12,h⟩:=h
  refine T_l1 31 81 q12 [30] ?_
  obtain⟨al,rfl,h⟩:=h
  refine T_nd 2 [31] [(33,vp (some al))] ?_
  obtain⟨af,q13,h⟩:=h
  refine T_l1 34 84 q13 [33]<| T_nd 1 [] [(35,vi f)]<| T_c (some 36) h ?_;clear h
  rintro ao H4 ⟨ab,z,ac,q,u,r,s,rb,rfl,h⟩
  refine T_pd [34,35] [(36,.tuple #[.agg #[vi ab,vi z,vi ac,vi q,vi u,vi r,vi s],.bool rb])]<| T_nd 3 [36] [(37,.agg #[vi ab,vi z,vi ac,vi q,vi u,vi r,vi s]),(38,.bool rb)]<| T_nw (some 8) (λb=>vp (pa b)) (.cells #[vi 0,vi 0,vi 0,vi 0,vi 0,vi 0,vi 0] 96) ?_
  intro b H5 e14 e15
  replace h:=h b H5 e14 e15
  refine T_pd [] [(8,vp (pa b))] ?_
  obtain⟨q17,h⟩:=h
  refine fH 96 [vi ab,vi z,vi ac,vi q,vi u,vi r,vi s] q17 ?_
  intro H6 e16
  replace h:=h H6 e16
  refine T_pd [37] []<| T_ed 1 [38] []<| ar 8<| T_nd 1 [] [(39,vp (some ((ad b).add 3)))] ?_
  obtain⟨p,m,o,l,q18,h⟩:=h
  refine T_lr 40 85 q18 [39]<| T_ed 1 [] [(41,vi 0)]<| T_bz 2 ?_
  obtain⟨ag,m36,i19,i20⟩:=h
  refine bO (x:=K35) (σ:=zW×Nat×Nat×Int) (λs_=> [(0,vp (some cA)),(1,vi g),(5,vs s_.1 s_.2.1 s_.2.2.1),(7,vi f),(8,vp (pa b)),(21,vs (some d) xN xC),(22,vi xN),(23,vi s23),(40,.agg #[vi p,vi m,vi o,vi l]),(41,vi s_.2.2.2)]) (λs_ H=>ag s_.1 s_.2.1 s_.2.2.1 s_.2.2.2 H) (λs_ H=>m36 s_.1 s_.2.1 s_.2.2.1 s_.2.2.2 H) ((lB,lN,lC,0):zW×Nat×Nat×Int) (by kernel_rfl) i19 sk ?_
  rintro⟨j,lN_2,lC_2,s41⟩ H7 i21
  have h:=i20 j lN_2 lC_2 s41 H7 i21
  refine T_su [(0,vp (some cA)),(1,vi g),(5,vs j lN_2 lC_2),(7,vi f),(8,vp (pa b)),(21,vs (some d) xN xC),(22,vi xN),(23,vi s23),(40,.agg #[vi p,vi m,vi o,vi l]),(41,vi s41)]<| ar 9<| T_ed 1 [] [(42,.bool (decide (s41<4)))]<| T_sz ?_
  by_cases c22:s41<4
  ·rw[if_pos c22]at h
   refine aF 42 (zX c22)<| T_kt<| T_sz<| T_bz 3<| ar 10<| T_nd 1 [42] [(43,vi s41)] ?_
   obtain⟨y,q24,h⟩:=h
   refine T_v1 44 (dj 85 (.agg #[vi p,vi m,vi o,vi l]) (vi s41)) (vi y) (λw _=>ig (P:=Tryz.prog) (t:=85) (elem:=3) (n:=4) Tryz.underlying85 (λ_=>by kernel_rfl) (λ_=>by kernel_rfl) q24.1.1 q24.1.2 q24.2 w) []<| T_ed 2 [43,44] [(10,vi s41),(11,vi y)]<| ar 11<| T_nd 1 [] [(45,vp (pa b))] ?_
   obtain⟨aa,q25,h⟩:=h
   refine T_l1 46 3 q25 [45]<| T_nd 3 [46] [(49,.bool (decide (aa>g)))] ?_
   refine eQ [(0,vp (some cA)),(1,vi g),(5,vs j lN_2 lC_2),(7,vi f),(8,vp (pa b)),(10,vi s41),(21,vs (some d) xN xC),(22,vi xN),(23,vi s23),(40,.agg #[vi p,vi m,vi o,vi l]),(41,vi s41),(53,.bool ((decide (aa>g)) && (decide (y<=g))))] ?_ ?_
   ·refine aC ?_
    by_cases c28:((decide (aa>g)) && (decide (y<=g)))=true
    ·rw[if_pos c28]at h
     refine aF 53 c28<| T_rz 12<| T_n 4 [(0,vp (some cA)),(1,vi g),(7,vi f),(8,vp (pa b)),(21,vs (some d) xN xC),(22,vi xN),(23,vi s23),(40,.agg #[vi p,vi m,vi o,vi l]),(41,vi s41),(54,vs j lN_2 lC_2),(57,.agg #[vi f,vi s41])]<| T_nw (some 58) (λb=>vs (pa b) 1 1) (.cells #[vi f,vi s41] 103) ?_
     intro ai H8 e30 e31
     replace h:=h ai H8 e30 e31
     refine T_pd [57] [(58,vs (pa ai) 1 1)]<| N_op (some 59) (dJ #[92,92] 92 #[vs j lN_2 lC_2,vs (pa ai) 1 1]) _ (λ_=>by kernel_rfl) (di (T:=103) (sz:=2) (bytes:=16) (zero:=(.agg #[vi 0,vi 0]:Value)) Tryz.underlying92 Tryz.underlying92 rfl (show Tryz.prog.info? 103=some Tryz.t103 from by kernel_rfl) (by kernel_rfl) (by kernel_rfl) (by decide) (by kernel_rfl) (by first | exact h | (simpa only[Value.cells,List.toList_toArray]using h))) ?_;clear h
     rintro _ H9 ⟨ap,ae,rfl,h⟩
     exact T_pd [54,58] [(59,vs ap (lN_2+1) ae)]<| T_nd 1 [59] [(5,vs ap (lN_2+1) ae)]<| zq<| aB<| aC<| T_rz 13<| T_ed 2 [41] [(41,vi (zY (s41+1)))]<| aK ((ap,(lN_2+1),ae,(zY (s41+1))):zW×Nat×Nat×Int) sk h
    rw[if_neg c28]at h
    exact aE 53 (zZ c28)<| T_k<| aB<| aC<| T_rz 13<| T_ne 2 [(0,vp (some cA)),(1,vi g),(5,vs j lN_2 lC_2),(7,vi f),(8,vp (pa b)),(21,vs (some d) xN xC),(22,vi xN),(23,vi s23),(40,.agg #[vi p,vi m,vi o,vi l]),(41,vi (zY (s41+1)))]<| aK ((j,lN_2,lC_2,(zY (s41+1))):zW×Nat×Nat×Int) sk h
   intro hk
   refine T_nu [(0,vp (some cA)),(1,vi g),(5,vs j lN_2 lC_2),(7,vi f),(8,vp (pa b)),(10,vi s41),(11,vi y),(21,vs (some d) xN xC),(22,vi xN),(23,vi s23),(40,.agg #[vi p,vi m,vi o,vi l]),(41,vi s41),(49,.bool (decide (aa>g)))] ?_
   by_cases c26:aa>g
   ·have b27:(decide (aa>g))=true:=zX c26
    refine bJ [(0,vp (some cA)),(1,vi g),(5,vs j lN_2 lC_2),(7,vi f),(8,vp (pa b)),(10,vi s41),(11,vi y),(21,vs (some d) xN xC),(22,vi xN),(23,vi s23),(40,.agg #[vi p,vi m,vi o,vi l]),(41,vi s41),(49,.bool true)] (by rw[b27]) ?_
    refine T_nd 4 [11,49] [(53,.bool (decide (y<=g)))]<| zq<| S_bd 53 (b:=(decide (y<=g))) (v:=((decide (aa>g)) && (decide (y<=g)))) (by simp only[b27,BL]) ?_
    exact hk
   have b27:(decide (aa>g))=false:=zQ c26
   refine bJ [(0,vp (some cA)),(1,vi g),(5,vs j lN_2 lC_2),(7,vi f),(8,vp (pa b)),(10,vi s41),(11,vi y),(21,vs (some d) xN xC),(22,vi xN),(23,vi s23),(40,.agg #[vi p,vi m,vi o,vi l]),(41,vi s41),(49,.bool false)] (by rw[b27]) ?_
   refine T_nd 4 [11,49] [(53,.bool false)]<| zq<| S_bd 53 (b:=false) (v:=((decide (aa>g)) && (decide (y<=g)))) (by simp only[b27,BL]) ?_
   exact hk
  rw[if_neg c22]at h
  exact aE 42 (zQ c22)<| zj 2<| aA<| aA<| aH<| aB<| aC<| T_rz 14<| T_ed 2 [7,8,23,40,41,42] [(23,vi (zY (s23+1)))]<| aK ((j,lN_2,lC_2,(zY (s23+1))):zW×Nat×Nat×Int) sk h
 rw[if_neg c8]at h
 exact aE 24 (zQ c8)<| zj 0<| aA<| aA<| aH<| aC<| ar 15<| T_nr 2 [4] [vs lB lN lC] hQ h
end dc

/-! (*moraine/card.Cards).Again -/
namespace de
def K0:=Func.code Tryz.f42
def K2:=cb K0
def K4:=cb K2
def K12:=cb K4
def K14:=cb K12
def K27:=cb K14
def K28:=ca K27
def K29:=cb K27
def K31:=cb K28
def K32:=ca K31
def K33:=ca K32
def K34:=cb K32
def K36:=ca K29
end de
def de.pt(c:zW)(d a:Int)(H:zV)(R:zk):Prop:=
 ∀(b:Nat) (H1:zV),b=H.size->H1=H.push (.cells #[.pointer c] 44)->
 ∃x:zW,hat H1 (ad b)=some (.pointer x)/\
 cP.C x H1 (λv H2=> ∃al:Bool,v=.bool al/\
 if al=true then(
 R (.int .i64 19) H2)
 else
 ∃av:zW,hat H2 (ad b)=some (.pointer av)/\
 ∃aq:Addr,av=some aq/\
 ∃au:zW,hat H2 aq=some (.pointer au)/\
 ∃aw:Addr,au=some aw/\
 ∃ao:zW,hat H2 aw=some (.pointer ao)/\
 bE.C ao d H2 (λa5 H3=> ∃(y u ah j m k l:Int) (rb:Bool),a5=.tuple #[.agg #[.int .i64 y,.int .i64 u,.int .i64 ah,.int .i64 j,.int .i64 m,.int .i64 k,.int .i64 l],.bool rb]/\
 ∀(i:Nat) (H4:zV),i=H3.size->H4=H3.push (.cells #[.int .i64 0,.int .i64 0,.int .i64 0,.int .i64 0,.int .i64 0,.int .i64 0,.int .i64 0] 96)->
 (aI H4 (ad i) 0 7)/\ ∀H5,H5=aO H4 (ad i) [.int .i64 y,.int .i64 u,.int .i64 ah,.int .i64 j,.int .i64 m,.int .i64 k,.int .i64 l] 0->
 if rb=true then(
 if((decide (a<0)) || (decide (a>=4)))=true then(
 R (.int .i64 1) H5)
 else
 ∀(f:Nat) (H6:zV),f=H5.size->H6=H5.push (.cells #[.int .i64 0] 3)->
 (aI H6 (ad f) 0 1)/\ ∀H7,H7=aO H6 (ad f) [.int .i64 5] 0->
 ∃ap:zW,hat H7 (ad b)=some (.pointer ap)/\
 dv.C ap d a H7 (λan H8=>an=an/\
 ∀(rc:LoopState->Option Code->Obj) (lp:Nat) (H9:zV),lp=H8.size+1->H9=(H8.push (.deferred (some []))).push (rc .ready none)->
 ∀vY:Value,(∀(ac:Int) (H10:zV) (vRy:zk),H10[lp]?=some (rc .ready none)->
 (H10[lp]?=some (rc .ready none)/\ ∀am:zV,am=bC H10 lp (rc .busy none)->
 ∃ai:zW,hat am (ad b)=some (.pointer ai)/\
 ∃ae z xN p q r o:Int,aU am (ad i) 0 [.int .i64 ae,.int .i64 z,.int .i64 xN,.int .i64 p,.int .i64 q,.int .i64 r,.int .i64 o]/\
 ∃aj:Int,hat am (ad f)=some (.int .i64 aj)/\
 cI.C ai ae z xN p q r o ac aj am (λa2 a0=> ∃ag:Int,a2=.int .i64 ag/\
 (aI a0 (ad f) 0 1)/\ ∀ax,ax=aO a0 (ad f) [.int .i64 ag] 0->
 ax[lp]?=some (rc .busy none)/\
 vRy (.bool true) (bC ax lp (rc .ready none))))->
 FC Tryz.prog vY #[.int .u64 ac] H10 vRy)->
 FE Tryz.prog an #[vY] H9 (λ_ a1=>
 (a1[lp]?=some (rc .ready none)/\ ∀ak:zV,ak=bC a1 lp (rc .exhausted none)->
 ∃az:zW,hat ak (ad b)=some (.pointer az)/\
 ∃s:Addr,az=some s/\
 ∃ay:zW,hat ak s=some (.pointer ay)/\
 ∃t:Addr,ay=some t/\
 ∃aa:zW,hat ak t=some (.pointer aa)/\
 ∃af:Int,hat ak (ad f)=some (.int .i64 af)/\
 eG.C aa d a af ak (λa4 a3=> ∃ab:Int,a4=.int .i64 ab/\
 Shut (H8.size::[]) a3 (λa6=>
 R (.int .i64 ab) a6))))))
 else
 R (.int .i64 19) H5))
namespace de
theorem link{c:zW}{d a:Int}{H:zV}{R:zk}(h:pt c d a H R):C c d a H R:=by
 refine T_en K0 56 Tryz.func42 ?_
 intro w0 Q hQ
 unfold pt at h
 refine T_su [(0,vp c),(1,vi d),(2,vi a)]<| ar 0<| T_nw (some 3) (λb=>vp (pa b)) (.cells #[vp c] 44) ?_
 intro b H1 e1 e2
 replace h:=h b H1 e1 e2
 refine T_pd [0] [(3,vp (pa b))]<| T_ed 1 [] []<| T_sz<| ar 1 ?_
 obtain⟨x,q3,h⟩:=h
 refine T_l1 11 44 q3 []<| T_c (some 12) h ?_;clear h
 rintro v H2 ⟨al,rfl,h⟩
 refine T_pd [11] [(12,.bool al)]<| T_e ?_
 by_cases c4:al=true
 ·rw[if_pos c4]at h
  exact aF 12 c4<| ar 2<| T_nr 1 [6] [vi 19] hQ h
 rw[if_neg c4]at h
 refine aE 12 (zZ c4)<| T_kt<| ar 3<| T_ud [12] [] ?_
 obtain⟨av,q6,h⟩:=h
 refine T_l1 14 44 q6 [] ?_
 obtain⟨aq,rfl,h⟩:=h
 refine T_nd 2 [14] [(16,vp (some aq))] ?_
 obtain⟨au,q7,h⟩:=h
 refine T_l1 17 81 q7 [16] ?_
 obtain⟨aw,rfl,h⟩:=h
 refine T_nd 2 [17] [(19,vp (some aw))] ?_
 obtain⟨ao,q8,h⟩:=h
 refine T_l1 20 84 q8 [19]<| T_nd 1 [] [(21,vi d)]<| T_c (some 22) h ?_;clear h
 rintro a5 H3 ⟨y,u,ah,j,m,k,l,rb,rfl,h⟩
 refine T_pd [20,21] [(22,.tuple #[.agg #[vi y,vi u,vi ah,vi j,vi m,vi k,vi l],.bool rb])]<| T_nd 3 [22] [(23,.agg #[vi y,vi u,vi ah,vi j,vi m,vi k,vi l]),(24,.bool rb)]<| T_nw (some 7) (λb=>vp (pa b)) (.cells #[vi 0,vi 0,vi 0,vi 0,vi 0,vi 0,vi 0] 96) ?_
 intro i H4 e9 e10
 replace h:=h i H4 e9 e10
 refine T_pd [] [(7,vp (pa i))] ?_
 obtain⟨q12,h⟩:=h
 refine fH 96 [vi y,vi u,vi ah,vi j,vi m,vi k,vi l] q12 ?_
 intro H5 e11
 replace h:=h H5 e11
 refine T_pd [23] []<| T_ed 1 [24] [(8,.bool rb)]<| T_sz<| T_bz 0<| ar 4<| T_ed 3 [8] [(25,.bool (!rb))] ?_
 by_cases c13:rb=true
 ·rw[if_pos c13]at h
  refine aE 25 (congrArg Bool.not (c13))<| ar 6 ?_
  refine eQ [(1,vi d),(2,vi a),(3,vp (pa b)),(7,vp (pa i)),(28,.bool ((decide (a<0)) || (decide (a>=4))))] ?_ ?_
  ·refine aC ?_
   by_cases c17:((decide (a<0)) || (decide (a>=4)))=true
   ·rw[if_pos c17]at h
    exact aF 28 c17<| ar 7<| T_nr 1 [6] [vi 1] hQ h
   rw[if_neg c17]at h
   refine aE 28 (zZ c17)<| T_k<| aB<| aC<| ar 8<| T_nu [(1,vi d),(2,vi a),(3,vp (pa b)),(7,vp (pa i))]<| T_nw (some 9) (λb=>vp (pa b)) (.cells #[vi 0] 3) ?_
   intro f H6 e19 e20
   replace h:=h f H6 e19 e20
   refine T_pd [] [(9,vp (pa f))] ?_
   obtain⟨q22,h⟩:=h
   refine eq 3 (vi 5) q22 ?_
   intro H7 e21
   replace h:=h H7 e21
   refine T_pd [] []<| T_e<| T_sz<| ar 9 ?_
   obtain⟨ap,q23,h⟩:=h
   refine T_l1 35 44 q23 []<| T_nd 2 [] [(36,vi d),(37,vi a)]<| T_c (some 38) h ?_;clear h
   rintro an H8 ⟨-,h⟩
   refine T_pd [35,36,37] [(38,an)]<| T_e<| T_bz 1<| pL (g:=.tmp 38) (ps:= #[39]) (assign:=K33) (body:=K34) (an) (by kernel_rfl) (by kernel_rfl) (by kernel_rfl) ?_
   intro rc lp H9 r24 e25 e26 y27
   refine FE.mono (h rc lp H9 e25 e26 (.func (.yield lp) #[] #[]) ?_) ?_
   ·clear h
    intro ac H10 vRy q28 h
    refine y27 #[vu ac] H10 vRy (by kernel_rfl) q28 (λw1x=>?_)
    refine T_sd [] [(39,vu ac)]<| T_rz 10<| T_nd 1 [1,2,38,39] [(10,vu ac)]<| zq ?_
    obtain⟨q30,h⟩:=h
    refine aC<| pK r24 q30 ?_
    intro am e29
    replace h:=h am e29
    refine T_bz 2<| T_rz 11 ?_
    obtain⟨ai,q31,h⟩:=h
    refine T_l1 40 44 q31 [3] ?_
    obtain⟨ae,z,xN,p,q,r,o,q32,h⟩:=h
    refine T_lr 41 96 q32 [7]<| T_nd 1 [10] [(42,vu ac)] ?_
    obtain⟨aj,q33,h⟩:=h
    refine T_l1 43 3 q33 []<| T_c (some 44) h ?_;clear h
    rintro a2 a0 ⟨ag,rfl,h⟩
    refine⟨[(9,vp (pa f)),(44,vi ag)],pk,?_⟩
    obtain⟨q35,h⟩:=h
    refine eq 3 (vi ag) q35 ?_
    intro ax e34
    replace h:=h ax e34
    refine⟨[],pk,?_⟩
    refine zq<| aB ?_
    obtain⟨q36,h⟩:=h
    exact mJ r24 q36 h
   clear h y27
   rintro _ a1 (⟨q37,h⟩)
   refine .inl ⟨q37,λak e42=>?_⟩
   replace h:=h ak e42
   refine ni (H8.size::[]) rfl ?_
   refine T_sd [7,38] []<| aB<| aC<| T_sz ?_
   obtain⟨az,q38,s,rfl,ay,q39,t,rfl,aa,q40,af,q41,h⟩:=h
   refine yY 12 (Code.ops K36) [(10,(ad b),[vp (some s)]),(10,s,[vp (some t)]),(10,t,[vp aa]),(10,(ad f),[vi af])] 12 (bv 12 0) (show aG _ _ _ from⟨⟨q38,trivial⟩,⟨q39,trivial⟩,⟨q40,trivial⟩,⟨q41,trivial⟩,trivial⟩)<| T_g 0 (some 45) (vp (some s)) (bv 12 1) [(1,vi d),(2,vi a),(9,vp (pa f)),(45,vp (some s))] (aS 44 (vp (pa b))) (yW 10 yZ)<| aD 1 46 (vp (some s)) (bv 12 3) [45]<| aD 2 47 (vp (some s)) (bv 12 7) [46]<| T_g1 3 48 (vp (some t)) (bv 12 15) [47] (aS 81 (vp (some s))) (yW 10 yX)<| aD 4 49 (vp (some t)) (bv 12 31) [48]<| aD 5 50 (vp (some t)) (bv 12 63) [49]<| T_g1 6 51 (vp aa) (bv 12 127) [50] (aS 84 (vp (some t))) (yW 10 yQ)<| aD 7 52 (vi d) (bv 12 255) [1]<| aD 8 53 (vi a) (bv 12 511) [2]<| T_g1 9 54 (vi af) (bv 12 1023) [9] (aS 3 (vp (pa f))) (yW 10 yJ)<| yq 10 (some 55) (bv 12 2047) 81 #[vp aa,vi d,vi a,vi af] h ?_;clear h
   rintro a4 a3 ⟨ab,rfl,h⟩
   refine⟨[(55,vi ab)],pk,(show aG _ _ _ from⟨trivial,trivial,trivial,trivial,trivial⟩),?_⟩
   refine T_g 11 (some 6) (vi ab) (bv 12 4095) [(6,vi ab)] (pure (.value (vi ab)):Sem Next) (λ_ _ _ _ _=>rfl)<| eR [(6,vi ab)] sk<| yx<| aC<| zx ?_
   show At _ _ _ _ _ (Q .ret)
   refine lc (fn:=Tryz.f42) (H8.size::[]) hQ (Shut.mono (λa6 h=>?_) h)
   exact⟨[vi ab],(show dh _ _ _ [.tmp 6] _ from .tmp (by kernel_rfl) (.nil)),h⟩
  intro hk
  refine T_n 3 [(1,vi d),(2,vi a),(3,vp (pa b)),(7,vp (pa i)),(31,.bool (decide (a<0)))] ?_
  by_cases c15:a<0
  ·have b16:(decide (a<0))=true:=zX c15
   refine bJ [(1,vi d),(2,vi a),(3,vp (pa b)),(7,vp (pa i)),(31,.bool true)] (by rw[b16]) ?_
   refine T_nd 4 [31] [(28,.bool true)]<| zq<| S_bd 28 (b:=true) (v:=((decide (a<0)) || (decide (a>=4)))) (by simp only[b16,BL]) ?_
   exact hk
  have b16:(decide (a<0))=false:=zQ c15
  refine bJ [(1,vi d),(2,vi a),(3,vp (pa b)),(7,vp (pa i)),(31,.bool false)] (by rw[b16]) ?_
  refine T_nd 4 [31] [(28,.bool (decide (a>=4)))]<| zq<| S_bd 28 (b:=(decide (a>=4))) (v:=((decide (a<0)) || (decide (a>=4)))) (by simp only[b16,BL]) ?_
  exact hk
 rw[if_neg c13]at h
 exact aF 25 (congrArg Bool.not (zZ c13))<| ar 5<| T_nr 1 [6] [vi 19] hQ h
end de

/-! (*moraine/card.Cards).words -/
namespace dv
def K0:=Func.code Tryz.f79
end dv
def dv.pt(c:zW)(g a:Int)(H:zV)(R:zk):Prop:=
 ∀(b:Nat) (H1:zV),b=H.size->H1=H.push (.cells #[.pointer c] 44)->
 ∀(d:Nat) (H2:zV),d=H1.size->H2=H1.push (.cells #[.int .i64 g] 3)->
 ∀(f:Nat) (H3:zV),f=H2.size->H3=H2.push (.cells #[.int .i64 a] 3)->
 R (.func (.func 105) #[] #[.pointer (some (ad b)),.pointer (some (ad d)),.pointer (some (ad f))]) H3
namespace dv
theorem link{c:zW}{g a:Int}{H:zV}{R:zk}(h:pt c g a H R):C c g a H R:=by
 refine T_en K0 8 Tryz.func79 ?_
 intro w0 Q hQ
 unfold pt at h
 refine T_su [(0,vp c),(1,vi g),(2,vi a)]<| ar 0<| T_nw (some 3) (λb=>vp (pa b)) (.cells #[vp c] 44) ?_
 intro b H1 e1 e2
 replace h:=h b H1 e1 e2
 refine T_pd [0] [(3,vp (pa b))]<| T_nw (some 4) (λb=>vp (pa b)) (.cells #[vi g] 3) ?_
 intro d H2 e3 e4
 replace h:=h d H2 e3 e4
 refine T_pd [1] [(4,vp (pa d))]<| T_nw (some 5) (λb=>vp (pa b)) (.cells #[vi a] 3) ?_
 intro f H3 e5 e6
 replace h:=h f H3 e5 e6
 exact T_pd [2] [(5,vp (pa f))]<| T_ed 1 [] []<| ar 1<| T_nr 2 [6] [.func (.func 105) #[] #[vp (pa b),vp (pa d),vp (pa f)]] hQ h
end dv

/-! (*moraine/card.Cards).words.1 -/
namespace da
def K0:=Func.code Tryz.f105
def K2:=cb K0
def K3:=ca K2
def K4:=ca K3
def K6:=cb K4
def K8:=cb K6
def K11:=ca K8
def K13:=ca K11
def K15:=cb K13
def K16:=ca K15
end da
def da.pt(a:Value)(k l j:zW)(H:zV)(R:zk):Prop:=
 ∃(I5:zv) (m5:Int->zV->Nat),I5 0 H/\ ∀(s8:Int) (H1:zV),I5 s8 H1->
 if s8<16 then(
 ∃d:Addr,k=some d/\
 ∃x:zW,hat H1 d=some (.pointer x)/\
 ∃xA:Addr,x=some xA/\
 ∃q:zW,hat H1 xA=some (.pointer q)/\
 ∃o:Addr,q=some o/\
 ∃m:zW,hat H1 o=some (.pointer m)/\
 ∃b:Addr,l=some b/\
 ∃g:Int,hat H1 b=some (.int .i64 g)/\
 ∃f:Addr,j=some f/\
 ∃i:Int,hat H1 f=some (.int .i64 i)/\
 bR.C m (zY ((zY ((zY (g*64))+(zY (i*16))))+s8)) H1 (λv H2=> ∃ra rb:Int,v=.tuple #[.int .u64 ra,.int .i64 rb]/\
 if rb=0 then(
 FC Tryz.prog a #[.int .u64 ra] H2 (λr H3=> ∃p:Bool,r=.bool p/\
 if p=true then(
 (I5 (zY (s8+1)) H3/\m5 (zY (s8+1)) H3<m5 s8 H1))
 else
 R (.tuple #[]) H3))
 else
 R (.tuple #[]) H2))
 else
 R (.tuple #[]) H1
namespace da
theorem link{a:Value}{k l j:zW}{H:zV}{R:zk}(h:pt a k l j H R):C a k l j H R:=by
 refine T_en K0 38 Tryz.func105 ?_
 intro w0 Q hQ
 unfold pt zY at h
 refine T_su [(0,a),(1,vp k),(2,vp l),(3,vp j)]<| ar 0<| T_ed 1 [] [(8,vi 0)]<| T_bz 0 ?_
 obtain⟨I5,m5,i1,i2⟩:=h
 refine bO (x:=K4) (σ:=Int) (λs_=> [(0,a),(1,vp k),(2,vp l),(3,vp j),(8,vi s_)]) (λs_ H=>I5 s_ H) (λs_ H=>m5 s_ H) (0:Int) (by kernel_rfl) i1 sk ?_
 rintro s8 H1 i3
 have h:=i2 s8 H1 i3
 refine T_su [(0,a),(1,vp k),(2,vp l),(3,vp j),(8,vi s8)]<| ar 1<| T_ed 1 [] [(9,.bool (decide (s8<16)))]<| T_sz ?_
 by_cases c4:s8<16
 ·rw[if_pos c4]at h
  refine aF 9 (zX c4)<| T_kt<| T_sz<| T_bz 1<| ar 2<| T_ed 2 [9] [(5,vi s8)]<| T_sz ?_
  obtain⟨d,rfl,x,q6,xA,rfl,q,q7,o,rfl,m,q8,b,rfl,g,q9,f,rfl,i,q10,h⟩:=h
  refine yY 3 (Code.ops K16) [(14,d,[vp (some xA)]),(14,xA,[vp (some o)]),(14,o,[vp m]),(14,b,[vi g]),(14,f,[vi i])] 20 (bv 20 0) (show aG _ _ _ from⟨⟨q6,trivial⟩,⟨q7,trivial⟩,⟨q8,trivial⟩,⟨q9,trivial⟩,⟨q10,trivial⟩,trivial⟩)<| T_g 0 (some 12) (vp (some xA)) (bv 20 1) [(0,a),(1,vp (some d)),(2,vp (some b)),(3,vp (some f)),(5,vi s8),(8,vi s8),(12,vp (some xA))] (aS 44 (vp (some d))) (yW 14 yZ)<| aD 1 13 (vp (some xA)) (bv 20 3) [12]<| aD 2 14 (vp (some xA)) (bv 20 7) [13]<| T_g1 3 15 (vp (some o)) (bv 20 15) [14] (aS 81 (vp (some xA))) (yW 14 yX)<| aD 4 16 (vp (some o)) (bv 20 31) [15]<| aD 5 17 (vp (some o)) (bv 20 63) [16]<| T_g1 6 18 (vp m) (bv 20 127) [17] (aS 84 (vp (some o))) (yW 14 yQ)<| T_g1 7 19 (vi g) (bv 20 255) [] (aS 3 (vp (some b))) (yW 14 yJ)<| aD 8 20 (vi (zY (g*64))) (bv 20 511) [19]<| T_g1 9 21 (vi i) (bv 20 1023) [] (aS 3 (vp (some f))) (yW 14 yK)<| aD 10 22 (vi (zY (i*16))) (bv 20 2047) [21]<| aD 11 23 (vi (zY ((zY (g*64))+(zY (i*16))))) (bv 20 4095) [20,22]<| aD 12 24 (vi s8) (bv 20 8191) [5]<| aD 13 25 (vi (zY ((zY ((zY (g*64))+(zY (i*16))))+s8))) (bv 20 16383) [23,24]<| yq 14 (some 26) (bv 20 32767) 49 #[vp m,vi (zY ((zY ((zY (g*64))+(zY (i*16))))+s8))] h ?_;clear h
  rintro v H2 ⟨ra,rb,rfl,h⟩
  refine⟨[(0,a),(1,vp (some d)),(2,vp (some b)),(3,vp (some f)),(8,vi s8),(26,.tuple #[vu ra,vi rb])],pk,(show aG _ _ _ from⟨trivial,trivial,trivial,trivial,trivial,trivial⟩),?_⟩
  refine T_g 15 (some 11) (.tuple #[vu ra,vi rb]) (bv 20 65535) [(0,a),(1,vp (some d)),(2,vp (some b)),(3,vp (some f)),(8,vi s8),(11,.tuple #[vu ra,vi rb])] (pure (.value (.tuple #[vu ra,vi rb])):Sem Next) (λ_ _ _ _ _=>rfl)<| T_g1 16 27 (vu ra) (bv 20 131071) [] (pure (.value (vu ra)):Sem Next) (λ_ _ _ _ _=>rfl)<| T_g1 17 28 (vi rb) (bv 20 262143) [11] (pure (.value (vi rb)):Sem Next) (λ_ _ _ _ _=>rfl)<| T_g1 18 6 (vu ra) (bv 20 524287) [27] (pure (.value (vu ra)):Sem Next) (λ_ _ _ _ _=>rfl)<| T_g1 19 7 (vi rb) (bv 20 1048575) [28] (pure (.value (vi rb)):Sem Next) (λ_ _ _ _ _=>rfl)<| eR [(0,a),(1,vp (some d)),(2,vp (some b)),(3,vp (some f)),(6,vu ra),(7,vi rb),(8,vi s8)] sk<| yx<| aC<| ar 4<| T_n 3 [(0,a),(1,vp (some d)),(2,vp (some b)),(3,vp (some f)),(6,vu ra),(8,vi s8),(31,.bool (rb !=0))] ?_
  by_cases c11:rb=0
  ·rw[if_pos c11]at h
   have b12:(rb !=0)=false:=bne_eq_false_iff_eq.mpr c11
   refine bJ [(0,a),(1,vp (some d)),(2,vp (some b)),(3,vp (some f)),(6,vu ra),(8,vi s8),(31,.bool false)] (by rw[b12]) ?_
   clear b12
   refine T_nd 2 [6] [(32,a),(33,vu ra)]<| pJ (some 34) a #[vu ra] (λ_=>by kernel_rfl) h ?_;clear h
   rintro r H3 ⟨p,rfl,h⟩
   refine T_pd [32,33] [(34,.bool p)]<| T_ed 2 [31,34] [(36,.bool (!p))] ?_
   by_cases c13:p=true
   ·rw[if_pos c13]at h
    exact aE 36 (congrArg Bool.not (c13))<| T_k<| aB<| aC<| T_rz 5<| T_ed 2 [8,36] [(8,vi (zY (s8+1)))]<| aK ((zY (s8+1)):Int) sk h
   rw[if_neg c13]at h
   exact aF 36 (congrArg Bool.not (zZ c13))<| fF [] [] hQ h
  rw[if_neg c11]at h
  have b12:(rb !=0)=true:=bne_iff_ne.mpr c11
  refine bJ [(0,a),(1,vp (some d)),(2,vp (some b)),(3,vp (some f)),(6,vu ra),(8,vi s8),(31,.bool true)] (by rw[b12]) ?_
  clear b12
  exact T_ed 5 [6,31] [(36,.bool true)]<| T_tz 36<| fF [] [] hQ h
 rw[if_neg c4]at h
 exact aE 9 (zQ c4)<| zj 0<| aA<| aA<| aH<| fN (fn:=Tryz.f105) [] hQ (show dh _ _ _ [] _ from .nil) h
end da

