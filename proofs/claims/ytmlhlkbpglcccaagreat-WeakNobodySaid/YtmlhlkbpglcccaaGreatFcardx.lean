/- Printed: what each function asks, and that it is sound. -/
import Derived.Test.YtmlhlkbpglcccaaGreatFnsC
set_option linter.unusedSimpArgs false
set_option linter.unusedVariables false
set_option maxRecDepth 100000
set_option maxHeartbeats 1000000
noncomputable section
namespace Go.Proofs.YtmlhlkbpglcccaaGreat
open Go
/-! (*moraine/card.Cards).Dirty -/
namespace cQ
def K0:=Func.code Tryz.f45
def K2:=cb K0
def K4:=cb K2
def K12:=cb K4
def K13:=ca K12
def K16:=cb K13
def K17:=ca K16
def K18:=ca K17
def K20:=cb K18
def K22:=cb K20
def K25:=ca K22
def K27:=ca K25
def K29:=cb K27
def K31:=cb K29
def K33:=cb K31
def K34:=ca K33
def K35:=ca K34
end cQ
def cQ.pt(c:zW)(g:Int)(H:zV)(R:zj):Prop:=
 bV.C c H (λv H1=> ∃x:Bool,v=.bool x/\
 if x=true then(
 R (.slice none 0 0) H1)
 else
 ∃cA:Addr,c=some cA/\
 ∃ai:zW,hat H1 cA=some (.pointer ai)/\
 ∃al:Addr,ai=some al/\
 ∃ag:zW,hat H1 al=some (.pointer ag)/\
 cz.C ag none 0 0 H1 (λao H2=> ∃(xB:zW) (xN xC:Nat),ao=.slice xB xN xC/\
 ∃(am:zW->Nat->Nat->zk) (m19:zW->Nat->Nat->Int->zV->Nat),am none 0 0 0 H2/\ ∀(lB:zW) (lN:Nat) (lC:Nat) (s23:Int) (H3:zV),am lB lN lC s23 H3->
 if s23< (xN:Int)then(
 ∃d:Addr,xB=some d/\
 zv s23 xN/\
 ∃e:Int,hat H3 (d.add (Int.toNat s23*1))=some (.int .i64 e)/\
 ∃aj:zW,hat H3 cA=some (.pointer aj)/\
 ∃ak:Addr,aj=some ak/\
 ∃ae:zW,hat H3 ak=some (.pointer ae)/\
 bE.C ae e H3 (λan H4=> ∃(aa u ab r s p q:Int) (rb:Bool),an=.tuple #[.agg #[.int .i64 aa,.int .i64 u,.int .i64 ab,.int .i64 r,.int .i64 s,.int .i64 p,.int .i64 q],.bool rb]/\
 ∀(b:Nat) (H5:zV),b=H4.size->H5=H4.push (.cells #[.int .i64 0,.int .i64 0,.int .i64 0,.int .i64 0,.int .i64 0,.int .i64 0,.int .i64 0] 102)->
 (aK H5 (ad b) 0 7)/\ ∀H6,H6=aS H5 (ad b) [.int .i64 aa,.int .i64 u,.int .i64 ab,.int .i64 r,.int .i64 s,.int .i64 p,.int .i64 q] 0->
 ∃l o m j:Int,aT H6 ((ad b).add 3) 0 [.int .i64 l,.int .i64 o,.int .i64 m,.int .i64 j]/\
 ∃(ah:zW->Nat->Nat->zk) (m36:zW->Nat->Nat->Int->zV->Nat),ah lB lN lC 0 H6/\ ∀(f:zW) (lN_2:Nat) (lC_2:Nat) (s41:Int) (H7:zV),ah f lN_2 lC_2 s41 H7->
 if s41<4 then(
 ∃y:Int,((0<=s41/\s41< (4:Int))/\(#[.int .i64 l,.int .i64 o,.int .i64 m,.int .i64 j]:Array Value)[Int.toNat s41]?=some (.int .i64 y))/\
 ∃z:Int,hat H7 (ad b)=some (.int .i64 z)/\
 if((decide (z>g)) && (decide (y<=g)))=true then(
 ∀(af:Nat) (H8:zV),af=H7.size->H8=H7.push (.cells #[.int .i64 e,.int .i64 s41] 121)->
 fc 2 121 16 [.int .i64 0,.int .i64 0] f lN_2 lC_2 (some (ad af)) 1 H8 (λap ac H9=>
 (ah ap (lN_2+1) ac (zY (s41+1)) H9/\m36 ap (lN_2+1) ac (zY (s41+1)) H9<m36 f lN_2 lC_2 s41 H7)))
 else
 (ah f lN_2 lC_2 (zY (s41+1)) H7/\m36 f lN_2 lC_2 (zY (s41+1)) H7<m36 f lN_2 lC_2 s41 H7))
 else
 (am f lN_2 lC_2 (zY (s23+1)) H7/\m19 f lN_2 lC_2 (zY (s23+1)) H7<m19 lB lN lC s23 H3)))
 else
 R (.slice lB lN lC) H3))
namespace cQ
theorem link{c:zW}{g:Int}{H:zV}{R:zj}(h:pt c g H R):C c g H R:=by
 refine T_en K0 63 Tryz.func45 ?_
 intro w0 Q hQ
 unfold pt zY at h
 refine T_su [(0,vp c),(1,vi g)]<| ar 0<| T_ed 1 [] []<| T_sz<| ar 1<| T_nd 1 [] [(12,vp c)]<| T_c (some 13) h ?_;clear h
 rintro v H1 ⟨x,rfl,h⟩
 refine T_pd [12] [(13,.bool x)]<| T_e ?_
 by_cases c1:x=true
 ·rw[if_pos c1]at h
  exact aI 13 c1<| ar 2<| T_nr 1 [4] [vs none 0 0] hQ h
 rw[if_neg c1]at h
 refine aJ 13 (zZ c1)<| T_kt<| ar 3<| T_ed 1 [13] [(5,vs none 0 0)]<| T_sz<| ar 4<| T_nd 1 [] [(14,vp c)] ?_
 obtain⟨cA,rfl,h⟩:=h
 refine T_nd 2 [0,14] [(0,vp (some cA)),(16,vp (some cA))] ?_
 obtain⟨ai,q3,h⟩:=h
 refine T_l1 17 56 q3 [16] ?_
 obtain⟨al,rfl,h⟩:=h
 refine T_nd 2 [17] [(19,vp (some al))] ?_
 obtain⟨ag,q4,h⟩:=h
 refine T_l1 20 82 q4 [19]<| T_c (some 21) h ?_;clear h
 rintro ao H2 ⟨xB,xN,xC,rfl,h⟩
 refine T_pd [20] [(21,vs xB xN xC)]<| T_ed 2 [] [(22,vi xN),(23,vi 0)]<| T_bz 0 ?_
 obtain⟨am,m19,i5,i6⟩:=h
 refine de (x:=K18) (σ:=zW×Nat×Nat×Int) (λs_=> [(0,vp (some cA)),(1,vi g),(5,vs s_.1 s_.2.1 s_.2.2.1),(21,vs xB xN xC),(22,vi xN),(23,vi s_.2.2.2)]) (λs_ H=>am s_.1 s_.2.1 s_.2.2.1 s_.2.2.2 H) (λs_ H=>m19 s_.1 s_.2.1 s_.2.2.1 s_.2.2.2 H) ((none,0,0,0):zW×Nat×Nat×Int) (by kernel_rfl) i5 sk ?_
 rintro⟨lB,lN,lC,s23⟩ H3 i7
 have h:=i6 lB lN lC s23 H3 i7
 refine T_su [(0,vp (some cA)),(1,vi g),(5,vs lB lN lC),(21,vs xB xN xC),(22,vi xN),(23,vi s23)]<| ar 5<| T_ed 1 [] [(24,.bool (decide (s23< (xN:Int))))]<| T_sz ?_
 by_cases c8:s23< (xN:Int)
 ·rw[if_pos c8]at h
  refine aI 24 (zX c8)<| T_kt<| T_sz<| T_bz 1<| ar 6<| T_ud [24] [] ?_
  obtain⟨d,rfl,q10,h⟩:=h
  refine T_xd (some 25) 79 3 1 d xN xC .i64 s23 Tryz.underlying79 q10.1 q10.2 [21] [(21,vs (some d) xN xC),(25,vp (some (d.add (Int.toNat s23*1))))] ?_
  obtain⟨e,q11,h⟩:=h
  refine T_l1 26 3 q11 [25]<| T_ed 1 [26] [(7,vi e)]<| ar 7<| T_nd 3 [] [(30,vp (some cA))] ?_
  obtain⟨aj,q12,h⟩:=h
  refine T_l1 31 56 q12 [30] ?_
  obtain⟨ak,rfl,h⟩:=h
  refine T_nd 2 [31] [(33,vp (some ak))] ?_
  obtain⟨ae,q13,h⟩:=h
  refine T_l1 34 82 q13 [33]<| T_nd 1 [] [(35,vi e)]<| T_c (some 36) h ?_;clear h
  rintro an H4 ⟨aa,u,ab,r,s,p,q,rb,rfl,h⟩
  refine T_pd [34,35] [(36,.tuple #[.agg #[vi aa,vi u,vi ab,vi r,vi s,vi p,vi q],.bool rb])]<| T_nd 3 [36] [(37,.agg #[vi aa,vi u,vi ab,vi r,vi s,vi p,vi q]),(38,.bool rb)]<| T_nw (some 8) (λb=>vp (pa b)) (.cells #[vi 0,vi 0,vi 0,vi 0,vi 0,vi 0,vi 0] 102) ?_
  intro b H5 e14 e15
  replace h:=h b H5 e14 e15
  refine T_pd [] [(8,vp (pa b))] ?_
  obtain⟨q17,h⟩:=h
  refine fl 102 [vi aa,vi u,vi ab,vi r,vi s,vi p,vi q] q17 ?_
  intro H6 e16
  replace h:=h H6 e16
  refine T_pd [37] []<| T_ed 1 [38] []<| ar 8<| T_nd 1 [] [(39,vp (some ((ad b).add 3)))] ?_
  obtain⟨l,o,m,j,q18,h⟩:=h
  refine T_lr 40 83 q18 [39]<| T_ed 1 [] [(41,vi 0)]<| T_bz 2 ?_
  obtain⟨ah,m36,i19,i20⟩:=h
  refine de (x:=K35) (σ:=zW×Nat×Nat×Int) (λs_=> [(0,vp (some cA)),(1,vi g),(5,vs s_.1 s_.2.1 s_.2.2.1),(7,vi e),(8,vp (pa b)),(21,vs (some d) xN xC),(22,vi xN),(23,vi s23),(40,.agg #[vi l,vi o,vi m,vi j]),(41,vi s_.2.2.2)]) (λs_ H=>ah s_.1 s_.2.1 s_.2.2.1 s_.2.2.2 H) (λs_ H=>m36 s_.1 s_.2.1 s_.2.2.1 s_.2.2.2 H) ((lB,lN,lC,0):zW×Nat×Nat×Int) (by kernel_rfl) i19 sk ?_
  rintro⟨f,lN_2,lC_2,s41⟩ H7 i21
  have h:=i20 f lN_2 lC_2 s41 H7 i21
  refine T_su [(0,vp (some cA)),(1,vi g),(5,vs f lN_2 lC_2),(7,vi e),(8,vp (pa b)),(21,vs (some d) xN xC),(22,vi xN),(23,vi s23),(40,.agg #[vi l,vi o,vi m,vi j]),(41,vi s41)]<| ar 9<| T_ed 1 [] [(42,.bool (decide (s41<4)))]<| T_sz ?_
  by_cases c22:s41<4
  ·rw[if_pos c22]at h
   refine aI 42 (zX c22)<| T_kt<| T_sz<| T_bz 3<| ar 10<| T_nd 1 [42] [(43,vi s41)] ?_
   obtain⟨y,q24,h⟩:=h
   refine T_v1 44 (jy 83 (.agg #[vi l,vi o,vi m,vi j]) (vi s41)) (vi y) (λw _=>gG (P:=Tryz.prog) (t:=83) (elem:=3) (n:=4) Tryz.underlying83 (λ_=>by kernel_rfl) (λ_=>by kernel_rfl) q24.1.1 q24.1.2 q24.2 w) []<| T_ed 2 [43,44] [(10,vi s41),(11,vi y)]<| ar 11<| T_nd 1 [] [(45,vp (pa b))] ?_
   obtain⟨z,q25,h⟩:=h
   refine T_l1 46 3 q25 [45]<| T_nd 3 [46] [(49,.bool (decide (z>g)))] ?_
   refine fm [(0,vp (some cA)),(1,vi g),(5,vs f lN_2 lC_2),(7,vi e),(8,vp (pa b)),(10,vi s41),(21,vs (some d) xN xC),(22,vi xN),(23,vi s23),(40,.agg #[vi l,vi o,vi m,vi j]),(41,vi s41),(53,.bool ((decide (z>g)) && (decide (y<=g))))] ?_ ?_
   ·refine aE ?_
    by_cases c28:((decide (z>g)) && (decide (y<=g)))=true
    ·rw[if_pos c28]at h
     refine aI 53 c28<| T_rz 12<| T_n 4 [(0,vp (some cA)),(1,vi g),(7,vi e),(8,vp (pa b)),(21,vs (some d) xN xC),(22,vi xN),(23,vi s23),(40,.agg #[vi l,vi o,vi m,vi j]),(41,vi s41),(54,vs f lN_2 lC_2),(57,.agg #[vi e,vi s41])]<| T_nw (some 58) (λb=>vs (pa b) 1 1) (.cells #[vi e,vi s41] 121) ?_
     intro af H8 e30 e31
     replace h:=h af H8 e30 e31
     refine T_pd [57] [(58,vs (pa af) 1 1)]<| N_op (some 59) (eS #[98,98] 98 #[vs f lN_2 lC_2,vs (pa af) 1 1]) _ (λ_=>by kernel_rfl) (eQ (T:=121) (sz:=2) (bytes:=16) (zero:=(.agg #[vi 0,vi 0]:Value)) Tryz.underlying98 Tryz.underlying98 rfl (show Tryz.prog.info? 121=some Tryz.t121 from by kernel_rfl) (by kernel_rfl) (by kernel_rfl) (by decide) (by kernel_rfl) (by first | exact h | (simpa only[Value.cells,List.toList_toArray]using h))) ?_;clear h
     rintro _ H9 ⟨ap,ac,rfl,h⟩
     exact T_pd [54,58] [(59,vs ap (lN_2+1) ac)]<| T_nd 1 [59] [(5,vs ap (lN_2+1) ac)]<| zq<| aD<| aE<| T_rz 13<| T_ed 2 [41] [(41,vi (zY (s41+1)))]<| aW ((ap,(lN_2+1),ac,(zY (s41+1))):zW×Nat×Nat×Int) sk h
    rw[if_neg c28]at h
    exact aJ 53 (zZ c28)<| T_k<| aD<| aE<| T_rz 13<| T_ne 2 [(0,vp (some cA)),(1,vi g),(5,vs f lN_2 lC_2),(7,vi e),(8,vp (pa b)),(21,vs (some d) xN xC),(22,vi xN),(23,vi s23),(40,.agg #[vi l,vi o,vi m,vi j]),(41,vi (zY (s41+1)))]<| aW ((f,lN_2,lC_2,(zY (s41+1))):zW×Nat×Nat×Int) sk h
   intro hk
   refine T_nu [(0,vp (some cA)),(1,vi g),(5,vs f lN_2 lC_2),(7,vi e),(8,vp (pa b)),(10,vi s41),(11,vi y),(21,vs (some d) xN xC),(22,vi xN),(23,vi s23),(40,.agg #[vi l,vi o,vi m,vi j]),(41,vi s41),(49,.bool (decide (z>g)))] ?_
   by_cases c26:z>g
   ·have b27:(decide (z>g))=true:=zX c26
    refine cO [(0,vp (some cA)),(1,vi g),(5,vs f lN_2 lC_2),(7,vi e),(8,vp (pa b)),(10,vi s41),(11,vi y),(21,vs (some d) xN xC),(22,vi xN),(23,vi s23),(40,.agg #[vi l,vi o,vi m,vi j]),(41,vi s41),(49,.bool true)] (by rw[b27]) ?_
    refine T_nd 4 [11,49] [(53,.bool (decide (y<=g)))]<| zq<| S_bd 53 (b:=(decide (y<=g))) (v:=((decide (z>g)) && (decide (y<=g)))) (by simp only[b27,BL]) ?_
    exact hk
   have b27:(decide (z>g))=false:=zQ c26
   refine cO [(0,vp (some cA)),(1,vi g),(5,vs f lN_2 lC_2),(7,vi e),(8,vp (pa b)),(10,vi s41),(11,vi y),(21,vs (some d) xN xC),(22,vi xN),(23,vi s23),(40,.agg #[vi l,vi o,vi m,vi j]),(41,vi s41),(49,.bool false)] (by rw[b27]) ?_
   refine T_nd 4 [11,49] [(53,.bool false)]<| zq<| S_bd 53 (b:=false) (v:=((decide (z>g)) && (decide (y<=g)))) (by simp only[b27,BL]) ?_
   exact hk
  rw[if_neg c22]at h
  exact aJ 42 (zQ c22)<| zz 2<| aA<| aA<| aO<| aD<| aE<| T_rz 14<| T_ed 2 [7,8,23,40,41,42] [(23,vi (zY (s23+1)))]<| aW ((f,lN_2,lC_2,(zY (s23+1))):zW×Nat×Nat×Int) sk h
 rw[if_neg c8]at h
 exact aJ 24 (zQ c8)<| zz 0<| aA<| aA<| aO<| aE<| ar 15<| T_nr 2 [4] [vs lB lN lC] hQ h
end cQ

/-! (*moraine/card.Cards).Again -/
namespace cS
def K0:=Func.code Tryz.f60
def K2:=cb K0
def K4:=cb K2
def K12:=cb K4
def K14:=cb K12
def K27:=cb K14
def K28:=ca K27
def K29:=cb K27
def K31:=cb K28
def K32:=ca K31
def K33:=ca K32
def K34:=cb K32
def K36:=ca K29
end cS
def cS.pt(c:zW)(d a:Int)(H:zV)(R:zj):Prop:=
 ∀(b:Nat) (H1:zV),b=H.size->H1=H.push (.cells #[.pointer c] 53)->
 ∃x:zW,hat H1 (ad b)=some (.pointer x)/\
 bV.C x H1 (λv H2=> ∃aj:Bool,v=.bool aj/\
 if aj=true then(
 R (.int .i64 19) H2)
 else
 ∃aq:zW,hat H2 (ad b)=some (.pointer aq)/\
 ∃av:Addr,aq=some av/\
 ∃au:zW,hat H2 av=some (.pointer au)/\
 ∃ap:Addr,au=some ap/\
 ∃ak:zW,hat H2 ap=some (.pointer ak)/\
 bE.C ak d H2 (λa4 H3=> ∃(t q ag k l i j:Int) (rb:Bool),a4=.tuple #[.agg #[.int .i64 t,.int .i64 q,.int .i64 ag,.int .i64 k,.int .i64 l,.int .i64 i,.int .i64 j],.bool rb]/\
 ∀(f:Nat) (H4:zV),f=H3.size->H4=H3.push (.cells #[.int .i64 0,.int .i64 0,.int .i64 0,.int .i64 0,.int .i64 0,.int .i64 0,.int .i64 0] 102)->
 (aK H4 (ad f) 0 7)/\ ∀H5,H5=aS H4 (ad f) [.int .i64 t,.int .i64 q,.int .i64 ag,.int .i64 k,.int .i64 l,.int .i64 i,.int .i64 j] 0->
 if rb=true then(
 if((decide (a<0)) || (decide (a>=4)))=true then(
 R (.int .i64 1) H5)
 else
 ∀(e:Nat) (H6:zV),e=H5.size->H6=H5.push (.cells #[.int .i64 0] 3)->
 (aK H6 (ad e) 0 1)/\ ∀H7,H7=aS H6 (ad e) [.int .i64 5] 0->
 ∃am:zW,hat H7 (ad b)=some (.pointer am)/\
 dh.C am d a H7 (λal H8=>al=al/\
 ∀(rc:LoopState->Option Code->Obj) (lp:Nat) (H9:zV),lp=H8.size+1->H9=(H8.push (.deferred (some []))).push (rc .ready none)->
 ∀vY:Value,(∀(aa:Int) (H10:zV) (vRy:zj),H10[lp]?=some (rc .ready none)->
 (H10[lp]?=some (rc .ready none)/\ ∀an:zV,an=bL H10 lp (rc .busy none)->
 ∃af:zW,hat an (ad b)=some (.pointer af)/\
 ∃ab u xN n p m o:Int,aT an (ad f) 0 [.int .i64 ab,.int .i64 u,.int .i64 xN,.int .i64 n,.int .i64 p,.int .i64 m,.int .i64 o]/\
 ∃ah:Int,hat an (ad e)=some (.int .i64 ah)/\
 bS.C af ab u xN n p m o aa ah an (λa1 ay=> ∃ac:Int,a1=.int .i64 ac/\
 (aK ay (ad e) 0 1)/\ ∀ao,ao=aS ay (ad e) [.int .i64 ac] 0->
 ao[lp]?=some (rc .busy none)/\
 vRy (.bool true) (bL ao lp (rc .ready none))))->
 FC Tryz.prog vY #[.int .u64 aa] H10 vRy)->
 FE Tryz.prog al #[vY] H9 (λ_ az=>
 (az[lp]?=some (rc .ready none)/\ ∀ai:zV,ai=bL az lp (rc .exhausted none)->
 ∃aw:zW,hat ai (ad b)=some (.pointer aw)/\
 ∃s:Addr,aw=some s/\
 ∃ax:zW,hat ai s=some (.pointer ax)/\
 ∃r:Addr,ax=some r/\
 ∃y:zW,hat ai r=some (.pointer y)/\
 ∃ae:Int,hat ai (ad e)=some (.int .i64 ae)/\
 dO.C y d a ae ai (λa3 a2=> ∃z:Int,a3=.int .i64 z/\
 Shut (H8.size::[]) a2 (λa0=>
 R (.int .i64 z) a0))))))
 else
 R (.int .i64 19) H5))
namespace cS
theorem link{c:zW}{d a:Int}{H:zV}{R:zj}(h:pt c d a H R):C c d a H R:=by
 refine T_en K0 56 Tryz.func60 ?_
 intro w0 Q hQ
 unfold pt at h
 refine T_su [(0,vp c),(1,vi d),(2,vi a)]<| ar 0<| T_nw (some 3) (λb=>vp (pa b)) (.cells #[vp c] 53) ?_
 intro b H1 e1 e2
 replace h:=h b H1 e1 e2
 refine T_pd [0] [(3,vp (pa b))]<| T_ed 1 [] []<| T_sz<| ar 1 ?_
 obtain⟨x,q3,h⟩:=h
 refine T_l1 11 53 q3 []<| T_c (some 12) h ?_;clear h
 rintro v H2 ⟨aj,rfl,h⟩
 refine T_pd [11] [(12,.bool aj)]<| T_e ?_
 by_cases c4:aj=true
 ·rw[if_pos c4]at h
  exact aI 12 c4<| ar 2<| T_nr 1 [6] [vi 19] hQ h
 rw[if_neg c4]at h
 refine aJ 12 (zZ c4)<| T_kt<| ar 3<| T_ud [12] [] ?_
 obtain⟨aq,q6,h⟩:=h
 refine T_l1 14 53 q6 [] ?_
 obtain⟨av,rfl,h⟩:=h
 refine T_nd 2 [14] [(16,vp (some av))] ?_
 obtain⟨au,q7,h⟩:=h
 refine T_l1 17 56 q7 [16] ?_
 obtain⟨ap,rfl,h⟩:=h
 refine T_nd 2 [17] [(19,vp (some ap))] ?_
 obtain⟨ak,q8,h⟩:=h
 refine T_l1 20 82 q8 [19]<| T_nd 1 [] [(21,vi d)]<| T_c (some 22) h ?_;clear h
 rintro a4 H3 ⟨t,q,ag,k,l,i,j,rb,rfl,h⟩
 refine T_pd [20,21] [(22,.tuple #[.agg #[vi t,vi q,vi ag,vi k,vi l,vi i,vi j],.bool rb])]<| T_nd 3 [22] [(23,.agg #[vi t,vi q,vi ag,vi k,vi l,vi i,vi j]),(24,.bool rb)]<| T_nw (some 7) (λb=>vp (pa b)) (.cells #[vi 0,vi 0,vi 0,vi 0,vi 0,vi 0,vi 0] 102) ?_
 intro f H4 e9 e10
 replace h:=h f H4 e9 e10
 refine T_pd [] [(7,vp (pa f))] ?_
 obtain⟨q12,h⟩:=h
 refine fl 102 [vi t,vi q,vi ag,vi k,vi l,vi i,vi j] q12 ?_
 intro H5 e11
 replace h:=h H5 e11
 refine T_pd [23] []<| T_ed 1 [24] [(8,.bool rb)]<| T_sz<| T_bz 0<| ar 4<| T_ed 3 [8] [(25,.bool (!rb))] ?_
 by_cases c13:rb=true
 ·rw[if_pos c13]at h
  refine aJ 25 (congrArg Bool.not (c13))<| ar 6 ?_
  refine fm [(1,vi d),(2,vi a),(3,vp (pa b)),(7,vp (pa f)),(28,.bool ((decide (a<0)) || (decide (a>=4))))] ?_ ?_
  ·refine aE ?_
   by_cases c17:((decide (a<0)) || (decide (a>=4)))=true
   ·rw[if_pos c17]at h
    exact aI 28 c17<| ar 7<| T_nr 1 [6] [vi 1] hQ h
   rw[if_neg c17]at h
   refine aJ 28 (zZ c17)<| T_k<| aD<| aE<| ar 8<| T_nu [(1,vi d),(2,vi a),(3,vp (pa b)),(7,vp (pa f))]<| T_nw (some 9) (λb=>vp (pa b)) (.cells #[vi 0] 3) ?_
   intro e H6 e19 e20
   replace h:=h e H6 e19 e20
   refine T_pd [] [(9,vp (pa e))] ?_
   obtain⟨q22,h⟩:=h
   refine fE 3 (vi 5) q22 ?_
   intro H7 e21
   replace h:=h H7 e21
   refine T_pd [] []<| T_e<| T_sz<| ar 9 ?_
   obtain⟨am,q23,h⟩:=h
   refine T_l1 35 53 q23 []<| T_nd 2 [] [(36,vi d),(37,vi a)]<| T_c (some 38) h ?_;clear h
   rintro al H8 ⟨-,h⟩
   refine T_pd [35,36,37] [(38,al)]<| T_e<| T_bz 1<| oe (g:=.tmp 38) (ps:= #[39]) (assign:=K33) (body:=K34) (al) (by kernel_rfl) (by kernel_rfl) (by kernel_rfl) ?_
   intro rc lp H9 r24 e25 e26 y27
   refine FE.mono (h rc lp H9 e25 e26 (.func (.yield lp) #[] #[]) ?_) ?_
   ·clear h
    intro aa H10 vRy q28 h
    refine y27 #[vu aa] H10 vRy (by kernel_rfl) q28 (λw1x=>?_)
    refine T_sd [] [(39,vu aa)]<| T_rz 10<| T_nd 1 [1,2,38,39] [(10,vu aa)]<| zq ?_
    obtain⟨q30,h⟩:=h
    refine aE<| od r24 q30 ?_
    intro an e29
    replace h:=h an e29
    refine T_bz 2<| T_rz 11 ?_
    obtain⟨af,q31,h⟩:=h
    refine T_l1 40 53 q31 [3] ?_
    obtain⟨ab,u,xN,n,p,m,o,q32,h⟩:=h
    refine T_lr 41 102 q32 [7]<| T_nd 1 [10] [(42,vu aa)] ?_
    obtain⟨ah,q33,h⟩:=h
    refine T_l1 43 3 q33 []<| T_c (some 44) h ?_;clear h
    rintro a1 ay ⟨ac,rfl,h⟩
    refine⟨[(9,vp (pa e)),(44,vi ac)],pk,?_⟩
    obtain⟨q35,h⟩:=h
    refine fE 3 (vi ac) q35 ?_
    intro ao e34
    replace h:=h ao e34
    refine⟨[],pk,?_⟩
    refine zq<| aD ?_
    obtain⟨q36,h⟩:=h
    exact mV r24 q36 h
   clear h y27
   rintro _ az (⟨q37,h⟩)
   refine .inl ⟨q37,λai e42=>?_⟩
   replace h:=h ai e42
   refine n9 (H8.size::[]) rfl ?_
   refine T_sd [7,38] []<| aD<| aE<| T_sz ?_
   obtain⟨aw,q38,s,rfl,ax,q39,r,rfl,y,q40,ae,q41,h⟩:=h
   refine yW 12 (Code.ops K36) [(10,(ad b),[vp (some s)]),(10,s,[vp (some r)]),(10,r,[vp y]),(10,(ad e),[vi ae])] 12 (bv 12 0) (show aG _ _ _ from⟨⟨q38,trivial⟩,⟨q39,trivial⟩,⟨q40,trivial⟩,⟨q41,trivial⟩,trivial⟩)<| T_g 0 (some 45) (vp (some s)) (bv 12 1) [(1,vi d),(2,vi a),(9,vp (pa e)),(45,vp (some s))] (aP 53 (vp (pa b))) (yV 10 zw)<| aF 1 46 (vp (some s)) (bv 12 3) [45]<| aF 2 47 (vp (some s)) (bv 12 7) [46]<| T_g1 3 48 (vp (some r)) (bv 12 15) [47] (aP 56 (vp (some s))) (yV 10 yZ)<| aF 4 49 (vp (some r)) (bv 12 31) [48]<| aF 5 50 (vp (some r)) (bv 12 63) [49]<| T_g1 6 51 (vp y) (bv 12 127) [50] (aP 82 (vp (some r))) (yV 10 yX)<| aF 7 52 (vi d) (bv 12 255) [1]<| aF 8 53 (vi a) (bv 12 511) [2]<| T_g1 9 54 (vi ae) (bv 12 1023) [9] (aP 3 (vp (pa e))) (yV 10 yQ)<| yY 10 (some 55) (bv 12 2047) 97 #[vp y,vi d,vi a,vi ae] h ?_;clear h
   rintro a3 a2 ⟨z,rfl,h⟩
   refine⟨[(55,vi z)],pk,(show aG _ _ _ from⟨trivial,trivial,trivial,trivial,trivial⟩),?_⟩
   refine T_g 11 (some 6) (vi z) (bv 12 4095) [(6,vi z)] (pure (.value (vi z)):Sem Next) (λ_ _ _ _ _=>rfl)<| eV [(6,vi z)] sk<| yq<| aE<| mp (by kernel_rfl) ?_
   show At _ _ _ _ _ (Q .ret)
   refine mv (fn:=Tryz.f60) (H8.size::[]) hQ (Shut.mono (λa0 h=>?_) h)
   exact⟨[vi z],(show dU _ _ _ [.tmp 6] _ from .tmp (by kernel_rfl) (.nil)),h⟩
  intro hk
  refine T_n 3 [(1,vi d),(2,vi a),(3,vp (pa b)),(7,vp (pa f)),(31,.bool (decide (a<0)))] ?_
  by_cases c15:a<0
  ·have b16:(decide (a<0))=true:=zX c15
   refine cO [(1,vi d),(2,vi a),(3,vp (pa b)),(7,vp (pa f)),(31,.bool true)] (by rw[b16]) ?_
   refine T_nd 4 [31] [(28,.bool true)]<| zq<| S_bd 28 (b:=true) (v:=((decide (a<0)) || (decide (a>=4)))) (by simp only[b16,BL]) ?_
   exact hk
  have b16:(decide (a<0))=false:=zQ c15
  refine cO [(1,vi d),(2,vi a),(3,vp (pa b)),(7,vp (pa f)),(31,.bool false)] (by rw[b16]) ?_
  refine T_nd 4 [31] [(28,.bool (decide (a>=4)))]<| zq<| S_bd 28 (b:=(decide (a>=4))) (v:=((decide (a<0)) || (decide (a>=4)))) (by simp only[b16,BL]) ?_
  exact hk
 rw[if_neg c13]at h
 exact aI 25 (congrArg Bool.not (zZ c13))<| ar 5<| T_nr 1 [6] [vi 19] hQ h
end cS

/-! (*moraine/card.Cards).words -/
namespace dh
def K0:=Func.code Tryz.f95
end dh
def dh.pt(c:zW)(f a:Int)(H:zV)(R:zj):Prop:=
 ∀(b:Nat) (H1:zV),b=H.size->H1=H.push (.cells #[.pointer c] 53)->
 ∀(d:Nat) (H2:zV),d=H1.size->H2=H1.push (.cells #[.int .i64 f] 3)->
 ∀(e:Nat) (H3:zV),e=H2.size->H3=H2.push (.cells #[.int .i64 a] 3)->
 R (.func (.func 113) #[] #[.pointer (some (ad b)),.pointer (some (ad d)),.pointer (some (ad e))]) H3
namespace dh
theorem link{c:zW}{f a:Int}{H:zV}{R:zj}(h:pt c f a H R):C c f a H R:=by
 refine T_en K0 8 Tryz.func95 ?_
 intro w0 Q hQ
 unfold pt at h
 refine T_su [(0,vp c),(1,vi f),(2,vi a)]<| ar 0<| T_nw (some 3) (λb=>vp (pa b)) (.cells #[vp c] 53) ?_
 intro b H1 e1 e2
 replace h:=h b H1 e1 e2
 refine T_pd [0] [(3,vp (pa b))]<| T_nw (some 4) (λb=>vp (pa b)) (.cells #[vi f] 3) ?_
 intro d H2 e3 e4
 replace h:=h d H2 e3 e4
 refine T_pd [1] [(4,vp (pa d))]<| T_nw (some 5) (λb=>vp (pa b)) (.cells #[vi a] 3) ?_
 intro e H3 e5 e6
 replace h:=h e H3 e5 e6
 exact T_pd [2] [(5,vp (pa e))]<| T_ed 1 [] []<| ar 1<| T_nr 2 [6] [.func (.func 113) #[] #[vp (pa b),vp (pa d),vp (pa e)]] hQ h
end dh

/-! (*moraine/card.Cards).words.1 -/
namespace cK
def K0:=Func.code Tryz.f113
def K2:=cb K0
def K3:=ca K2
def K4:=ca K3
def K6:=cb K4
def K8:=cb K6
def K11:=ca K8
def K13:=ca K11
def K15:=cb K13
def K16:=ca K15
end cK
def cK.pt(a:Value)(j k i:zW)(H:zV)(R:zj):Prop:=
 ∃(I5:zk) (m5:Int->zV->Nat),I5 0 H/\ ∀(s8:Int) (H1:zV),I5 s8 H1->
 if s8<16 then(
 ∃d:Addr,j=some d/\
 ∃x:zW,hat H1 d=some (.pointer x)/\
 ∃xA:Addr,x=some xA/\
 ∃o:zW,hat H1 xA=some (.pointer o)/\
 ∃m:Addr,o=some m/\
 ∃l:zW,hat H1 m=some (.pointer l)/\
 ∃e:Addr,k=some e/\
 ∃f:Int,hat H1 e=some (.int .i64 f)/\
 ∃b:Addr,i=some b/\
 ∃g:Int,hat H1 b=some (.int .i64 g)/\
 bQ.C l (zY ((zY ((zY (f*64))+(zY (g*16))))+s8)) H1 (λv H2=> ∃ra rb:Int,v=.tuple #[.int .u64 ra,.int .i64 rb]/\
 if rb=0 then(
 FC Tryz.prog a #[.int .u64 ra] H2 (λp H3=> ∃n:Bool,p=.bool n/\
 if n=true then(
 (I5 (zY (s8+1)) H3/\m5 (zY (s8+1)) H3<m5 s8 H1))
 else
 R (.tuple #[]) H3))
 else
 R (.tuple #[]) H2))
 else
 R (.tuple #[]) H1
namespace cK
theorem link{a:Value}{j k i:zW}{H:zV}{R:zj}(h:pt a j k i H R):C a j k i H R:=by
 refine T_en K0 38 Tryz.func113 ?_
 intro w0 Q hQ
 unfold pt zY at h
 refine T_su [(0,a),(1,vp j),(2,vp k),(3,vp i)]<| ar 0<| T_ed 1 [] [(8,vi 0)]<| T_bz 0 ?_
 obtain⟨I5,m5,i1,i2⟩:=h
 refine de (x:=K4) (σ:=Int) (λs_=> [(0,a),(1,vp j),(2,vp k),(3,vp i),(8,vi s_)]) (λs_ H=>I5 s_ H) (λs_ H=>m5 s_ H) (0:Int) (by kernel_rfl) i1 sk ?_
 rintro s8 H1 i3
 have h:=i2 s8 H1 i3
 refine T_su [(0,a),(1,vp j),(2,vp k),(3,vp i),(8,vi s8)]<| ar 1<| T_ed 1 [] [(9,.bool (decide (s8<16)))]<| T_sz ?_
 by_cases c4:s8<16
 ·rw[if_pos c4]at h
  refine aI 9 (zX c4)<| T_kt<| T_sz<| T_bz 1<| ar 2<| T_ed 2 [9] [(5,vi s8)]<| T_sz ?_
  obtain⟨d,rfl,x,q6,xA,rfl,o,q7,m,rfl,l,q8,e,rfl,f,q9,b,rfl,g,q10,h⟩:=h
  refine yW 3 (Code.ops K16) [(14,d,[vp (some xA)]),(14,xA,[vp (some m)]),(14,m,[vp l]),(14,e,[vi f]),(14,b,[vi g])] 20 (bv 20 0) (show aG _ _ _ from⟨⟨q6,trivial⟩,⟨q7,trivial⟩,⟨q8,trivial⟩,⟨q9,trivial⟩,⟨q10,trivial⟩,trivial⟩)<| T_g 0 (some 12) (vp (some xA)) (bv 20 1) [(0,a),(1,vp (some d)),(2,vp (some e)),(3,vp (some b)),(5,vi s8),(8,vi s8),(12,vp (some xA))] (aP 53 (vp (some d))) (yV 14 zw)<| aF 1 13 (vp (some xA)) (bv 20 3) [12]<| aF 2 14 (vp (some xA)) (bv 20 7) [13]<| T_g1 3 15 (vp (some m)) (bv 20 15) [14] (aP 56 (vp (some xA))) (yV 14 yZ)<| aF 4 16 (vp (some m)) (bv 20 31) [15]<| aF 5 17 (vp (some m)) (bv 20 63) [16]<| T_g1 6 18 (vp l) (bv 20 127) [17] (aP 82 (vp (some m))) (yV 14 yX)<| T_g1 7 19 (vi f) (bv 20 255) [] (aP 3 (vp (some e))) (yV 14 yQ)<| aF 8 20 (vi (zY (f*64))) (bv 20 511) [19]<| T_g1 9 21 (vi g) (bv 20 1023) [] (aP 3 (vp (some b))) (yV 14 yJ)<| aF 10 22 (vi (zY (g*16))) (bv 20 2047) [21]<| aF 11 23 (vi (zY ((zY (f*64))+(zY (g*16))))) (bv 20 4095) [20,22]<| aF 12 24 (vi s8) (bv 20 8191) [5]<| aF 13 25 (vi (zY ((zY ((zY (f*64))+(zY (g*16))))+s8))) (bv 20 16383) [23,24]<| yY 14 (some 26) (bv 20 32767) 35 #[vp l,vi (zY ((zY ((zY (f*64))+(zY (g*16))))+s8))] h ?_;clear h
  rintro v H2 ⟨ra,rb,rfl,h⟩
  refine⟨[(0,a),(1,vp (some d)),(2,vp (some e)),(3,vp (some b)),(8,vi s8),(26,.tuple #[vu ra,vi rb])],pk,(show aG _ _ _ from⟨trivial,trivial,trivial,trivial,trivial,trivial⟩),?_⟩
  refine T_g 15 (some 11) (.tuple #[vu ra,vi rb]) (bv 20 65535) [(0,a),(1,vp (some d)),(2,vp (some e)),(3,vp (some b)),(8,vi s8),(11,.tuple #[vu ra,vi rb])] (pure (.value (.tuple #[vu ra,vi rb])):Sem Next) (λ_ _ _ _ _=>rfl)<| T_g1 16 27 (vu ra) (bv 20 131071) [] (pure (.value (vu ra)):Sem Next) (λ_ _ _ _ _=>rfl)<| T_g1 17 28 (vi rb) (bv 20 262143) [11] (pure (.value (vi rb)):Sem Next) (λ_ _ _ _ _=>rfl)<| T_g1 18 6 (vu ra) (bv 20 524287) [27] (pure (.value (vu ra)):Sem Next) (λ_ _ _ _ _=>rfl)<| T_g1 19 7 (vi rb) (bv 20 1048575) [28] (pure (.value (vi rb)):Sem Next) (λ_ _ _ _ _=>rfl)<| eV [(0,a),(1,vp (some d)),(2,vp (some e)),(3,vp (some b)),(6,vu ra),(7,vi rb),(8,vi s8)] sk<| yq<| aE<| ar 4<| T_n 3 [(0,a),(1,vp (some d)),(2,vp (some e)),(3,vp (some b)),(6,vu ra),(8,vi s8),(31,.bool (rb !=0))] ?_
  by_cases c11:rb=0
  ·rw[if_pos c11]at h
   have b12:(rb !=0)=false:=bne_eq_false_iff_eq.mpr c11
   refine cO [(0,a),(1,vp (some d)),(2,vp (some e)),(3,vp (some b)),(6,vu ra),(8,vi s8),(31,.bool false)] (by rw[b12]) ?_
   clear b12
   refine T_nd 2 [6] [(32,a),(33,vu ra)]<| oc (some 34) a #[vu ra] (λ_=>by kernel_rfl) h ?_;clear h
   rintro p H3 ⟨n,rfl,h⟩
   refine T_pd [32,33] [(34,.bool n)]<| T_ed 2 [31,34] [(36,.bool (!n))] ?_
   by_cases c13:n=true
   ·rw[if_pos c13]at h
    exact aJ 36 (congrArg Bool.not (c13))<| T_k<| aD<| aE<| T_rz 5<| T_ed 2 [8,36] [(8,vi (zY (s8+1)))]<| aW ((zY (s8+1)):Int) sk h
   rw[if_neg c13]at h
   exact aI 36 (congrArg Bool.not (zZ c13))<| eW [] [] hQ h
  rw[if_neg c11]at h
  have b12:(rb !=0)=true:=bne_iff_ne.mpr c11
  refine cO [(0,a),(1,vp (some d)),(2,vp (some e)),(3,vp (some b)),(6,vu ra),(8,vi s8),(31,.bool true)] (by rw[b12]) ?_
  clear b12
  exact T_ed 5 [6,31] [(36,.bool true)]<| T_tz 36<| eW [] [] hQ h
 rw[if_neg c4]at h
 exact aJ 9 (zQ c4)<| zz 0<| aA<| aA<| aO<| eZ (fn:=Tryz.f113) [] hQ (show dU _ _ _ [] _ from .nil) h
end cK

