/- Printed: what each function asks, and that it is sound. -/
import Derived.Test.YtillhdiiglamhaaGreatDoorFnsC
set_option linter.unusedSimpArgs false
set_option linter.unusedVariables false
set_option maxRecDepth 100000
set_option maxHeartbeats 1000000
noncomputable section
namespace Go.Proofs.YtillhdiiglamhaaGreatDoor
open Go Go.Proofs.Tryz
variable{H:zV}{a:zW}{b:zk}{d:Int}
namespace fm
def K0:=GC f71
def K2:=cb K0
def K4:=cb K2
def Bj:=cb K4
def BK:=ca Bj
def BF:=cb BK
def Bu:=ca BF
def BZ:=ca Bu
def Co:=cb BZ
def B6:=cb Co
def C1:=ca B6
def B8:=ca C1
def CN:=cb B8
def Cc:=cb CN
def Cg:=cb Cc
def C7:=ca Cg
def CG:=ca C7
end fm
def fm.pt(c:zW)(g:Int):GJ:=λH R=>
 eK.C c H (λv H1=> ∃x,v=.bool x/\
 if x=true then(
 R VN H1)
 else
 ∃cA,c=some cA/\
 ∃al,hat H1 cA=some (vp al)/\
 ∃an,al=some an/\
 ∃ah,hat H1 an=some (vp ah)/\
 eP.C ah none 0 0 H1 (λao H2=> ∃xB xN xC,ao=vs xB xN xC/\
 ∃(am:zW->Nat->Nat->zv) (m19:zW->Nat->Nat->Int->zV->Nat),am none 0 0 0 H2/\ ∀lB lN lC s23 H3,am lB lN lC s23 H3->
 if s23< (xN:Int)then(
 ∃d,xB=some d/\
 zw s23 xN/\
 ∃e,hat H3 (d.add (Int.toNat s23*1))=some (vi e)/\
 ∃ak,hat H3 cA=some (vp ak)/\
 ∃aj,ak=some aj/\
 ∃af,hat H3 aj=some (vp af)/\
 bX.C af e H3 (λaq H4=> ∃ab y ac u r s q rb,aq=.tuple #[.agg #[vi ab,vi y,vi ac,vi u,vi r,vi s,vi q],.bool rb]/\
 ∀b H5,b=H4.size->H5=H4.push (.cells GL 127)->
 (aF H5 (ad b) 0 7)/\ ∀H6,H6=aL H5 (ad b) [vi ab,vi y,vi ac,vi u,vi r,vi s,vi q] 0->
 ∃m o j p,aI H6 ((ad b).add 3) 0 [vi m,vi o,vi j,vi p]/\
 ∃(ag:zW->Nat->Nat->zv) (m36:zW->Nat->Nat->Int->zV->Nat),ag lB lN lC 0 H6/\ ∀f lN_2 lC_2 s41 H7,ag f lN_2 lC_2 s41 H7->
 if s41<4 then(
 ∃z,((0<=s41/\s41< (4:Int))/\(#[vi m,vi o,vi j,vi p]:Array Value)[Int.toNat s41]?=some (vi z))/\
 ∃aa,hat H7 (ad b)=some (vi aa)/\
 if((decide (aa>g)) && (decide (z<=g)))=true then(
 ∀ai H8,ai=H7.size->H8=H7.push (.cells #[vi e,vi s41] 134)->
 dY 2 134 16 [vi 0,vi 0] f lN_2 lC_2 (some (ad ai)) 1 H8 (λap ae H9=>
 (ag ap (lN_2+1) ae (zY (s41+1)) H9/\m36 ap (lN_2+1) ae (zY (s41+1)) H9<m36 f lN_2 lC_2 s41 H7)))
 else
 (ag f lN_2 lC_2 (zY (s41+1)) H7/\m36 f lN_2 lC_2 (zY (s41+1)) H7<m36 f lN_2 lC_2 s41 H7))
 else
 (am f lN_2 lC_2 (zY (s23+1)) H7/\m19 f lN_2 lC_2 (zY (s23+1)) H7<m19 lB lN lC s23 H3)))
 else
 R (vs lB lN lC) H3))
theorem fm.link(h:pt a d H b):C a d H b:=by
 refine l2 K0 63 func71 ?_;intro w0 Q hQ;unfold pt zY at h;refine ki [(0,vp a),(1,vi d)]<|ar 0<|gi 1 [] []<|gv<|ar 1<|fd 1 [] [(12,vp a)]<|l5 13 [12] h λx H1 h=>ue<|jn h (λc1 h=>?_) (λc1 h=>?_)
 ·exact aH 13 c1<|ar 2<|hH 1 [4] [VN] hQ h
 refine aG 13 (zZ c1)<|kT<|ar 3<|gi 1 [13] [(5,VN)]<|gv<|ar 4<|fd 1 [] [(14,vp a)] ?_;obtain⟨cA,rfl,ha⟩:=h;refine fd 2 [0,14] [(0,Vq cA),(16,Vq cA)]<|have⟨al,q3,h⟩:=ha;hV 17 79 q3 [16] ?_;obtain⟨an,rfl,hb⟩:=h;refine fd 2 [17] [(19,Vq an)]<|have⟨ah,q4,h⟩:=hb;hV 20 115 q4 [19]<|BO 21 [20] h λxB xN xC H2 h=>gi 2 [] [(22,vi xN),(23,vi 0)]<|k5 0<|have⟨am,m19,i5,i6⟩:=h;bI (x:=BZ) (σ:=zW×Nat×Nat×Int) (λs_=> [(0,Vq cA),(1,vi d),(5,vs s_.1 s_.2.1 s_.2.2.1),(21,vs xB xN xC),(22,vi xN),(23,vi s_.2.2.2)]) (λs_ H=>am s_.1 s_.2.1 s_.2.2.1 s_.2.2.2 H) (λs_ H=>m19 s_.1 s_.2.1 s_.2.2.1 s_.2.2.2 H) ((none,0,0,0):zW×Nat×Nat×Int) GE i5 sk ?_;rintro⟨lB,lN,lC,s23⟩ H3 i7;have h:=i6 lB lN lC s23 H3 i7;refine ki [(0,Vq cA),(1,vi d),(5,vs lB lN lC),(21,vs xB xN xC),(22,vi xN),(23,vi s23)]<|ar 5<|gi 1 [] [(24,.bool (decide (s23< (xN:Int))))]<|gv<|jn h (λc8 h=>?_) (λc8 h=>?_)
 ·refine aH 24 (zX c8)<|kT<|gv<|k5 1<|ar 6<|p0 [24] [] ?_;obtain⟨g,rfl,q10,hc⟩:=h;refine ww (some 25) 28 3 1 g xN xC .i64 s23 EW q10.1 q10.2 [21] [(21,vs (some g) xN xC),(25,Vq (g.add (Int.toNat s23*1)))]<|have⟨e,q11,h⟩:=hc;hV 26 3 q11 [25]<|gi 1 [26] [(7,vi e)]<|ar 7<|fd 3 [] [(30,Vq cA)]<|have⟨ak,q12,h⟩:=h;hV 31 79 q12 [30] ?_;obtain⟨aj,rfl,hd⟩:=h;refine fd 2 [31] [(33,Vq aj)]<|have⟨af,q13,h⟩:=hd;hV 34 115 q13 [33]<|fd 1 [] [(35,vi e)]<|B7 36 [34,35] h λab y ac u r s q rb H4 h=>fd 3 [36] [(37,.agg #[vi ab,vi y,vi ac,vi u,vi r,vi s,vi q]),(38,.bool rb)]<|l1 (some 8) (λR=>vp (pa R)) (.cells GL 127)<|λR H5 e14 e15=>have h:=h R H5 e14 e15;im [] [(8,vp (pa R))]<|have⟨q17,h⟩:=h;bF 127 [vi ab,vi y,vi ac,vi u,vi r,vi s,vi q] q17<|λH6 e16=>have h:=h H6 e16;im [37] []<|gi 1 [38] []<|ar 8<|fd 1 [] [(39,Vq ((ad R).add 3))]<|have⟨m,o,j,p,q18,h⟩:=h;na 40 116 q18 [39]<|gi 1 [] [(41,vi 0)]<|k5 2<|have⟨ag,m36,i19,i20⟩:=h;bI (x:=CG) (σ:=zW×Nat×Nat×Int) (λs_=> [(0,Vq cA),(1,vi d),(5,vs s_.1 s_.2.1 s_.2.2.1),(7,vi e),(8,vp (pa R)),(21,vs (some g) xN xC),(22,vi xN),(23,vi s23),(40,.agg #[vi m,vi o,vi j,vi p]),(41,vi s_.2.2.2)]) (λs_ H=>ag s_.1 s_.2.1 s_.2.2.1 s_.2.2.2 H) (λs_ H=>m36 s_.1 s_.2.1 s_.2.2.1 s_.2.2.2 H) ((lB,lN,lC,0):zW×Nat×Nat×Int) GE i19 sk ?_;rintro⟨f,lN_2,lC_2,s41⟩ H7 i21;have h:=i20 f lN_2 lC_2 s41 H7 i21;refine ki [(0,Vq cA),(1,vi d),(5,vs f lN_2 lC_2),(7,vi e),(8,vp (pa R)),(21,vs (some g) xN xC),(22,vi xN),(23,vi s23),(40,.agg #[vi m,vi o,vi j,vi p]),(41,vi s41)]<|ar 9<|gi 1 [] [(42,.bool (decide (s41<4)))]<|gv<|jn h (λc22 h=>?_) (λc22 h=>?_)
  ·refine aH 42 (zX c22)<|kT<|gv<|k5 3<|ar 10<|fd 1 [42] [(43,vi s41)]<|have⟨z,q24,h⟩:=h;wd 44 (fD 116 (.agg #[vi m,vi o,vi j,vi p]) (vi s41)) (vi z) (λw _=>kX (P:=prog) (t:=116) (elem:=3) (n:=4) FP Et Et q24.1.1 q24.1.2 q24.2 w) []<|gi 2 [43,44] [(10,vi s41),(11,vi z)]<|ar 11<|fd 1 [] [(45,vp (pa R))]<|have⟨aa,q25,h⟩:=h;hV 46 3 q25 [45]<|fd 3 [46] [(49,.bool (decide (aa>d)))]<|gU [(0,Vq cA),(1,vi d),(5,vs f lN_2 lC_2),(7,vi e),(8,vp (pa R)),(10,vi s41),(21,vs (some g) xN xC),(22,vi xN),(23,vi s23),(40,.agg #[vi m,vi o,vi j,vi p]),(41,vi s41),(53,.bool ((decide (aa>d)) && (decide (z<=d))))] ?_ ?_
   ·refine aE<|jn h (λc28 h=>?_) (λc28 h=>?_)
    ·refine aH 53 c28<|k4 12<|nb 4 [(0,Vq cA),(1,vi d),(7,vi e),(8,vp (pa R)),(21,vs (some g) xN xC),(22,vi xN),(23,vi s23),(40,.agg #[vi m,vi o,vi j,vi p]),(41,vi s41),(54,vs f lN_2 lC_2),(57,.agg #[vi e,vi s41])]<|l1 (some 58) (λR=>vs (pa R) 1 1) (.cells #[vi e,vi s41] 134) ?_;intro ai H8 e30 e31;replace h:=h ai H8 e30 e31;refine im [57] [(58,vs (pa ai) 1 1)]<|xl (some 59) (eM #[123,123] 123 #[vs f lN_2 lC_2,vs (pa ai) 1 1]) _ Et (cT (T:=134) (sz:=2) (bytes:=16) (zero:=(.agg #[vi 0,vi 0]:Value)) F8 F8 rfl (show prog.info? 134=some t134 from GE) GE GE GG GE (by first | exact h | (simpa only[Value.cells,EI]using h))) ?_;clear h;rintro _ H9 ⟨ap,ae,rfl,h⟩;exact im [54,58] [(59,vs ap (lN_2+1) ae)]<|fd 1 [59] [(5,vs ap (lN_2+1) ae)]<|zq<|aD<|aE<|k4 13<|gi 2 [41] [(41,vi (zY (s41+1)))]<|aQ ((ap,(lN_2+1),ae,(zY (s41+1))):zW×Nat×Nat×Int) sk h
    exact aG 53 (zZ c28)<|Bn<|aD<|aE<|k4 13<|nx 2 [(0,Vq cA),(1,vi d),(5,vs f lN_2 lC_2),(7,vi e),(8,vp (pa R)),(21,vs (some g) xN xC),(22,vi xN),(23,vi s23),(40,.agg #[vi m,vi o,vi j,vi p]),(41,vi (zY (s41+1)))]<|aQ ((f,lN_2,lC_2,(zY (s41+1))):zW×Nat×Nat×Int) sk h
   refine λhk=>BM [(0,Vq cA),(1,vi d),(5,vs f lN_2 lC_2),(7,vi e),(8,vp (pa R)),(10,vi s41),(11,vi z),(21,vs (some g) xN xC),(22,vi xN),(23,vi s23),(40,.agg #[vi m,vi o,vi j,vi p]),(41,vi s41),(49,.bool (decide (aa>d)))] ?_;by_cases c26:aa>d
   ·have b27:(decide (aa>d))=true:=zX c26;exact bW [(0,Vq cA),(1,vi d),(5,vs f lN_2 lC_2),(7,vi e),(8,vp (pa R)),(10,vi s41),(11,vi z),(21,vs (some g) xN xC),(22,vi xN),(23,vi s23),(40,.agg #[vi m,vi o,vi j,vi p]),(41,vi s41),(49,VT)] (by rw[b27])<|fd 4 [11,49] [(53,.bool (decide (z<=d)))]<|zq<|n7 53 (b:=(decide (z<=d))) (v:=((decide (aa>d)) && (decide (z<=d)))) (by simp only[b27,BL])<|hk
   have b27:(decide (aa>d))=false:=zQ c26;exact bW [(0,Vq cA),(1,vi d),(5,vs f lN_2 lC_2),(7,vi e),(8,vp (pa R)),(10,vi s41),(11,vi z),(21,vs (some g) xN xC),(22,vi xN),(23,vi s23),(40,.agg #[vi m,vi o,vi j,vi p]),(41,vi s41),(49,VF)] (by rw[b27])<|fd 4 [11,49] [(53,VF)]<|zq<|n7 53 (b:=false) (v:=((decide (aa>d)) && (decide (z<=d)))) (by simp only[b27,BL])<|hk
  exact aG 42 (zQ c22)<|zj 2<|aA<|aA<|aJ<|aD<|aE<|k4 14<|gi 2 [7,8,23,40,41,42] [(23,vi (zY (s23+1)))]<|aQ ((f,lN_2,lC_2,(zY (s23+1))):zW×Nat×Nat×Int) sk h
 exact aG 24 (zQ c8)<|zj 0<|aA<|aA<|aJ<|aE<|ar 15<|hH 2 [4] [vs lB lN lC] hQ h
namespace fp
def K0:=GC f74
def K2:=cb K0
def K4:=cb K2
def Bj:=cb K4
def Bt:=cb Bj
def B8:=cb Bt
def CJ:=ca B8
def CN:=cb B8
def Cc:=cb CJ
def Cx:=ca Cc
def Cg:=ca Cx
def C7:=cb Cx
def CY:=ca CN
end fp
def fp.pt(c:zW)(d a:Int):GJ:=λH R=>
 ∀b H1,b=H.size->H1=H.push (.cells #[vp c] 50)->
 ∃x,hat H1 (ad b)=some (vp x)/\
 eK.C x H1 (λv H2=> ∃ap,v=.bool ap/\
 if ap=true then(
 R (vi 19) H2)
 else
 ∃aw,hat H2 (ad b)=some (vp aw)/\
 ∃au,aw=some au/\
 ∃ax,hat H2 au=some (vp ax)/\
 ∃av,ax=some av/\
 ∃am,hat H2 av=some (vp am)/\
 bX.C am d H2 (λa6 H3=> ∃y u ai m j k i rb,a6=.tuple #[.agg #[vi y,vi u,vi ai,vi m,vi j,vi k,vi i],.bool rb]/\
 ∀f H4,f=H3.size->H4=H3.push (.cells GL 127)->
 (aF H4 (ad f) 0 7)/\ ∀H5,H5=aL H4 (ad f) [vi y,vi u,vi ai,vi m,vi j,vi k,vi i] 0->
 if rb=true then(
 if((decide (a<0)) || (decide (a>=4)))=true then(
 R (vi 1) H5)
 else
 ∀e H6,e=H5.size->H6=H5.push (.cells #[vi 0] 3)->
 (aF H6 (ad e) 0 1)/\ ∀H7,H7=aL H6 (ad e) [vi 5] 0->
 ∃ao,hat H7 (ad b)=some (vp ao)/\
 fL.C ao d a H7 (λan H8=>an=an/\
 ∀(rc:LoopState->Option Code->Obj) (lp:Nat) (H9:zV),lp=H8.size+1->H9=(H8.push (.deferred (some []))).push (rc .ready none)->
 ∀vY,(∀(ae:Int) (H10:zV) (vRy:zk),H10[lp]?=some (rc .ready none)->
 (H10[lp]?=some (rc .ready none)/\ ∀al,al=bR H10 lp (rc .busy none)->
 ∃ah,hat al (ad b)=some (vp ah)/\
 ∃ac z xN r o q p,aI al (ad f) 0 [vi ac,vi z,vi xN,vi r,vi o,vi q,vi p]/\
 ∃aj,hat al (ad e)=some (vi aj)/\
 eE.C ah ac z xN r o q p ae aj al (λa4 a0=> ∃af,a4=vi af/\
 (aF a0 (ad e) 0 1)/\ ∀aq,aq=aL a0 (ad e) [vi af] 0->
 aq[lp]?=some (rc .busy none)/\
 vRy VT (bR aq lp (rc .ready none))))->
 FC prog vY #[vu ae] H10 vRy)->
 FE prog an #[vY] H9 (λ_ a1=>
 (a1[lp]?=some (rc .ready none)/\ ∀ak,ak=bR a1 lp (rc .exhausted none)->
 ∃az,hat ak (ad b)=some (vp az)/\
 ∃s,az=some s/\
 ∃ay,hat ak s=some (vp ay)/\
 ∃t,ay=some t/\
 ∃aa,hat ak t=some (vp aa)/\
 ∃ag,hat ak (ad e)=some (vi ag)/\
 ia.C aa d a ag ak (λa2 a5=> ∃ab,a2=vi ab/\
 Shut (H8.size::[]) a5 (λa3=>
 R (vi ab) a3))))))
 else
 R (vi 19) H5))
theorem fp.link{R:Int}(h:pt a d R H b):C a d R H b:=by
 refine l2 K0 56 func74 ?_;intro w0 Q hQ;unfold pt at h;refine ki [(0,vp a),(1,vi d),(2,vi R)]<|ar 0<|l1 (some 3) (λc=>vp (pa c)) (.cells #[vp a] 50)<|λc H1 e1 e2=>have h:=h c H1 e1 e2;im [0] [(3,vp (pa c))]<|gi 1 [] []<|gv<|ar 1<|have⟨x,q3,h⟩:=h;hV 11 50 q3 []<|l5 12 [11] h λap H2 h=>ue<|jn h (λc4 h=>?_) (λc4 h=>?_)
 ·exact aH 12 c4<|ar 2<|hH 1 [6] [vi 19] hQ h
 refine aG 12 (zZ c4)<|kT<|ar 3<|p0 [12] []<|have⟨aw,q6,h⟩:=h;hV 14 50 q6 [] ?_;obtain⟨au,rfl,ha⟩:=h;refine fd 2 [14] [(16,Vq au)]<|have⟨ax,q7,h⟩:=ha;hV 17 79 q7 [16] ?_;obtain⟨av,rfl,hb⟩:=h;refine fd 2 [17] [(19,Vq av)]<|have⟨am,q8,h⟩:=hb;hV 20 115 q8 [19]<|fd 1 [] [(21,vi d)]<|B7 22 [20,21] h λy u ai m j k i rb H3 h=>fd 3 [22] [(23,.agg #[vi y,vi u,vi ai,vi m,vi j,vi k,vi i]),(24,.bool rb)]<|l1 (some 7) (λc=>vp (pa c)) (.cells GL 127)<|λf H4 e9 e10=>have h:=h f H4 e9 e10;im [] [(7,vp (pa f))]<|have⟨q12,h⟩:=h;bF 127 [vi y,vi u,vi ai,vi m,vi j,vi k,vi i] q12<|λH5 e11=>have h:=h H5 e11;im [23] []<|gi 1 [24] [(8,.bool rb)]<|gv<|k5 0<|ar 4<|gi 3 [8] [(25,.bool (!rb))]<|jn h (λc13 h=>?_) (λc13 h=>?_)
 ·refine aG 25 (Eg Bool.not (c13))<|ar 6<|gU [(1,vi d),(2,vi R),(3,vp (pa c)),(7,vp (pa f)),(28,.bool ((decide (R<0)) || (decide (R>=4))))] ?_ ?_
  ·refine aE<|jn h (λc17 h=>?_) (λc17 h=>?_)
   ·exact aH 28 c17<|ar 7<|hH 1 [6] [vi 1] hQ h
   refine aG 28 (zZ c17)<|Bn<|aD<|aE<|ar 8<|BM [(1,vi d),(2,vi R),(3,vp (pa c)),(7,vp (pa f))]<|l1 (some 9) (λc=>vp (pa c)) (.cells #[vi 0] 3)<|λe H6 e19 e20=>have h:=h e H6 e19 e20;im [] [(9,vp (pa e))]<|have⟨q22,h⟩:=h;fj 3 (vi 5) q22<|λH7 e21=>have h:=h H7 e21;im [] []<|ue<|gv<|ar 9 ?_;obtain⟨ao,q23,h⟩:=h;refine hV 35 50 q23 []<|fd 2 [] [(36,vi d),(37,vi R)]<|Bs (some 38) h ?_;clear h;rintro an H8 ⟨-,h⟩;refine im [35,36,37] [(38,an)]<|ue<|k5 1<|wx (g:=.tmp 38) (ps:= #[39]) (assign:=Cg) (body:=C7) (an) GE GE GE<|λrc lp H9 r24 e25 e26 y27=>FE.mono (h rc lp H9 e25 e26 (.func (.yield lp) #[] #[]) ?_) ?_
   ·clear h;refine λae H10 vRy q28 h=>y27 #[vu ae] H10 vRy GE q28 (λw1x=>?_);refine CP [] [(39,vu ae)]<|k4 10<|fd 1 [1,2,38,39] [(10,vu ae)]<|zq<|have⟨q30,h⟩:=h;aE<|wu r24 q30<|λal e29=>have h:=h al e29;k5 2<|k4 11<|have⟨ah,q31,h⟩:=h;hV 40 50 q31 [3]<|have⟨ac,z,xN,r,o,q,p,q32,h⟩:=h;na 41 127 q32 [7]<|fd 1 [10] [(42,vu ae)] ?_;obtain⟨aj,q33,h⟩:=h;refine hV 43 3 q33 []<|Bs (some 44) h ?_;clear h;rintro a4 a0 ⟨af,rfl,h⟩;refine⟨[(9,vp (pa e)),(44,vi af)],pk,?_⟩;refine have⟨q35,h⟩:=h;fj 3 (vi af) q35<|λaq e34=>have h:=h aq e34;⟨[],pk,?_⟩;exact zq<|aD<|have⟨q36,h⟩:=h;rW r24 q36 h
   clear h y27;rintro _ a1 (⟨q37,h⟩);refine .inl ⟨q37,λak e42=>?_⟩;refine have h:=h ak e42;td (H8.size::[]) rfl<|CP [7,38] []<|aD<|aE<|gv ?_;obtain⟨az,q38,s,rfl,ay,q39,t,rfl,aa,q40,ag,q41,hc⟩:=h;refine yY 12 (Code.ops CY) [(10,(ad c),[Vq s]),(10,s,[Vq t]),(10,t,[vp aa]),(10,(ad e),[vi ag])] 12 (bv 12 0) (show aP _ _ _ from⟨⟨q38,GB⟩,⟨q39,GB⟩,⟨q40,GB⟩,⟨q41,GB⟩,GB⟩)<|BS 0 (some 45) (Vq s) (bv 12 1) [(1,vi d),(2,vi R),(9,vp (pa e)),(45,Vq s)] (aZ 50 (vp (pa c))) (yW 10 yZ)<|aM 1 46 (Vq s) (bv 12 3) [45]<|aM 2 47 (Vq s) (bv 12 7) [46]<|lb 3 48 (Vq t) (bv 12 15) [47] (aZ 79 (Vq s)) (yW 10 yX)<|aM 4 49 (Vq t) (bv 12 31) [48]<|aM 5 50 (Vq t) (bv 12 63) [49]<|lb 6 51 (vp aa) (bv 12 127) [50] (aZ 115 (Vq t)) (yW 10 yQ)<|aM 7 52 (vi d) (bv 12 255) [1]<|aM 8 53 (vi R) (bv 12 511) [2]<|lb 9 54 (vi ag) (bv 12 1023) [9] (aZ 3 (vp (pa e))) (yW 10 yJ)<|yq 10 (some 55) (bv 12 2047) 128 #[vp aa,vi d,vi R,vi ag] hc ?_;clear hc;rintro a2 a5 ⟨ab,rfl,h⟩;refine⟨[(55,vi ab)],pk,(show aP _ _ _ from⟨GB,GB,GB,GB,GB⟩),?_⟩;refine BS 11 (some 6) (vi ab) (bv 12 4095) [(6,vi ab)] (pure (.value (vi ab)):Sem Next) (λ_ _ _ _ _=>rfl)<|gm [(6,vi ab)] sk<|yx<|aE<|zx ?_;show At _ _ _ _ _ (Q .ret);refine pM (fn:=f74) (H8.size::[]) hQ (Shut.mono (λa3 h=>?_) h);exact⟨[vi ab],(show bG _ _ _ [.tmp 6] _ from .tmp GE (.nil)),h⟩
  refine λhk=>nb 3 [(1,vi d),(2,vi R),(3,vp (pa c)),(7,vp (pa f)),(31,.bool (decide (R<0)))] ?_;by_cases c15:R<0
  ·have b16:(decide (R<0))=true:=zX c15;exact bW [(1,vi d),(2,vi R),(3,vp (pa c)),(7,vp (pa f)),(31,VT)] (by rw[b16])<|fd 4 [31] [(28,VT)]<|zq<|n7 28 (b:=true) (v:=((decide (R<0)) || (decide (R>=4)))) (by simp only[b16,BL])<|hk
  have b16:(decide (R<0))=false:=zQ c15;exact bW [(1,vi d),(2,vi R),(3,vp (pa c)),(7,vp (pa f)),(31,VF)] (by rw[b16])<|fd 4 [31] [(28,.bool (decide (R>=4)))]<|zq<|n7 28 (b:=(decide (R>=4))) (v:=((decide (R<0)) || (decide (R>=4)))) (by simp only[b16,BL])<|hk
 exact aH 25 (Eg Bool.not (zZ c13))<|ar 5<|hH 1 [6] [vi 19] hQ h
def fL.K0:=GC f126
def fL.pt(c:zW)(f a:Int):GJ:=λH R=>
 ∀b H1,b=H.size->H1=H.push (.cells #[vp c] 50)->
 ∀d H2,d=H1.size->H2=H1.push (.cells #[vi f] 3)->
 ∀e H3,e=H2.size->H3=H2.push (.cells #[vi a] 3)->
 R (.func (.func 155) #[] #[Vq (ad b),Vq (ad d),Vq (ad e)]) H3
theorem fL.link{R:Int}(h:pt a d R H b):C a d R H b:=by
 refine l2 K0 8 func126 ?_;intro w0 Q hQ;unfold pt at h;exact ki [(0,vp a),(1,vi d),(2,vi R)]<|ar 0<|l1 (some 3) (λf=>vp (pa f)) (.cells #[vp a] 50)<|λf H1 e1 e2=>have h:=h f H1 e1 e2;im [0] [(3,vp (pa f))]<|l1 (some 4) (λf=>vp (pa f)) (.cells #[vi d] 3)<|λc H2 e3 e4=>have h:=h c H2 e3 e4;im [1] [(4,vp (pa c))]<|l1 (some 5) (λf=>vp (pa f)) (.cells #[vi R] 3)<|λe H3 e5 e6=>have h:=h e H3 e5 e6;im [2] [(5,vp (pa e))]<|gi 1 [] []<|ar 1<|hH 2 [6] [.func (.func 155) #[] #[vp (pa f),vp (pa c),vp (pa e)]] hQ h
namespace fh
def K0:=GC f155
def K2:=cb K0
def K3:=ca K2
def K4:=ca K3
def K6:=cb K4
def K8:=cb K6
def Cq:=ca K8
def BK:=ca Cq
def B1:=cb BK
def BF:=ca B1
end fh
def fh.pt(a:Value)(i k j:zW):GJ:=λH R=>
 ∃(I5:zv) (m5:Int->zV->Nat),I5 0 H/\ ∀s8 H1,I5 s8 H1->
 if s8<16 then(
 ∃e,i=some e/\
 ∃x,hat H1 e=some (vp x)/\
 ∃xA,x=some xA/\
 ∃q,hat H1 xA=some (vp q)/\
 ∃o,q=some o/\
 ∃m,hat H1 o=some (vp m)/\
 ∃b,k=some b/\
 ∃f,hat H1 b=some (vi f)/\
 ∃d,j=some d/\
 ∃g,hat H1 d=some (vi g)/\
 cS.C m (zY ((zY ((zY (f*64))+(zY (g*16))))+s8)) H1 (λv H2=> ∃ra rb,v=.tuple #[vu ra,vi rb]/\
 if rb=0 then(
 FC prog a #[vu ra] H2 (λr H3=> ∃p,r=.bool p/\
 if p=true then(
 (I5 (zY (s8+1)) H3/\m5 (zY (s8+1)) H3<m5 s8 H1))
 else
 R (.tuple #[]) H3))
 else
 R (.tuple #[]) H2))
 else
 R (.tuple #[]) H1
theorem fh.link{R:Value}{k j:zW}(h:pt R a k j H b):C R a k j H b:=by
 refine l2 K0 38 func155 ?_;intro w0 Q hQ;unfold pt zY at h;refine ki [(0,R),(1,vp a),(2,vp k),(3,vp j)]<|ar 0<|gi 1 [] [(8,vi 0)]<|k5 0<|have⟨I5,m5,i1,i2⟩:=h;bI (x:=K4) (σ:=Int) (λs_=> [(0,R),(1,vp a),(2,vp k),(3,vp j),(8,vi s_)]) (λs_ H=>I5 s_ H) (λs_ H=>m5 s_ H) (0:Int) GE i1 sk ?_;rintro s8 H1 i3;have h:=i2 s8 H1 i3;refine ki [(0,R),(1,vp a),(2,vp k),(3,vp j),(8,vi s8)]<|ar 1<|gi 1 [] [(9,.bool (decide (s8<16)))]<|gv<|jn h (λc4 h=>?_) (λc4 h=>?_)
 ·refine aH 9 (zX c4)<|kT<|gv<|k5 1<|ar 2<|gi 2 [9] [(5,vi s8)]<|gv ?_;obtain⟨e,rfl,x,q6,xA,rfl,q,q7,o,rfl,m,q8,i,rfl,f,q9,d,rfl,g,q10,ha⟩:=h;refine yY 3 (Code.ops BF) [(14,e,[Vq xA]),(14,xA,[Vq o]),(14,o,[vp m]),(14,i,[vi f]),(14,d,[vi g])] 20 (bv 20 0) (show aP _ _ _ from⟨⟨q6,GB⟩,⟨q7,GB⟩,⟨q8,GB⟩,⟨q9,GB⟩,⟨q10,GB⟩,GB⟩)<|BS 0 (some 12) (Vq xA) (bv 20 1) [(0,R),(1,Vq e),(2,Vq i),(3,Vq d),(5,vi s8),(8,vi s8),(12,Vq xA)] (aZ 50 (Vq e)) (yW 14 yZ)<|aM 1 13 (Vq xA) (bv 20 3) [12]<|aM 2 14 (Vq xA) (bv 20 7) [13]<|lb 3 15 (Vq o) (bv 20 15) [14] (aZ 79 (Vq xA)) (yW 14 yX)<|aM 4 16 (Vq o) (bv 20 31) [15]<|aM 5 17 (Vq o) (bv 20 63) [16]<|lb 6 18 (vp m) (bv 20 127) [17] (aZ 115 (Vq o)) (yW 14 yQ)<|lb 7 19 (vi f) (bv 20 255) [] (aZ 3 (Vq i)) (yW 14 yJ)<|aM 8 20 (vi (zY (f*64))) (bv 20 511) [19]<|lb 9 21 (vi g) (bv 20 1023) [] (aZ 3 (Vq d)) (yW 14 yK)<|aM 10 22 (vi (zY (g*16))) (bv 20 2047) [21]<|aM 11 23 (vi (zY ((zY (f*64))+(zY (g*16))))) (bv 20 4095) [20,22]<|aM 12 24 (vi s8) (bv 20 8191) [5]<|aM 13 25 (vi (zY ((zY ((zY (f*64))+(zY (g*16))))+s8))) (bv 20 16383) [23,24]<|yq 14 (some 26) (bv 20 32767) 81 #[vp m,vi (zY ((zY ((zY (f*64))+(zY (g*16))))+s8))] ha ?_;clear ha;rintro v H2 ⟨ra,rb,rfl,h⟩;refine⟨[(0,R),(1,Vq e),(2,Vq i),(3,Vq d),(8,vi s8),(26,.tuple #[vu ra,vi rb])],pk,(show aP _ _ _ from⟨GB,GB,GB,GB,GB,GB⟩),?_⟩;refine BS 15 (some 11) (.tuple #[vu ra,vi rb]) (bv 20 65535) [(0,R),(1,Vq e),(2,Vq i),(3,Vq d),(8,vi s8),(11,.tuple #[vu ra,vi rb])] (pure (.value (.tuple #[vu ra,vi rb])):Sem Next) (λ_ _ _ _ _=>rfl)<|lb 16 27 (vu ra) (bv 20 131071) [] (pure (.value (vu ra)):Sem Next) (λ_ _ _ _ _=>rfl)<|lb 17 28 (vi rb) (bv 20 262143) [11] (pure (.value (vi rb)):Sem Next) (λ_ _ _ _ _=>rfl)<|lb 18 6 (vu ra) (bv 20 524287) [27] (pure (.value (vu ra)):Sem Next) (λ_ _ _ _ _=>rfl)<|lb 19 7 (vi rb) (bv 20 1048575) [28] (pure (.value (vi rb)):Sem Next) (λ_ _ _ _ _=>rfl)<|gm [(0,R),(1,Vq e),(2,Vq i),(3,Vq d),(6,vu ra),(7,vi rb),(8,vi s8)] sk<|yx<|aE<|ar 4<|nb 3 [(0,R),(1,Vq e),(2,Vq i),(3,Vq d),(6,vu ra),(8,vi s8),(31,.bool (rb !=0))]<|jn h (λc11 h=>?_) (λc11 h=>?_)
  ·have b12:(rb !=0)=false:=Em.mpr c11;refine bW [(0,R),(1,Vq e),(2,Vq i),(3,Vq d),(6,vu ra),(8,vi s8),(31,VF)] (by rw[b12]) ?_;clear b12;refine fd 2 [6] [(32,R),(33,vu ra)]<|ng (some 34) R #[vu ra] Et h ?_;clear h;rintro r H3 ⟨p,rfl,h⟩;refine im [32,33] [(34,.bool p)]<|gi 2 [31,34] [(36,.bool (!p))]<|jn h (λc13 h=>?_) (λc13 h=>?_)
   ·exact aG 36 (Eg Bool.not (c13))<|Bn<|aD<|aE<|k4 5<|gi 2 [8,36] [(8,vi (zY (s8+1)))]<|aQ ((zY (s8+1)):Int) sk h
   exact aH 36 (Eg Bool.not (zZ c13))<|ix [] [] hQ h
  have b12:(rb !=0)=true:=En.mpr c11;refine bW [(0,R),(1,Vq e),(2,Vq i),(3,Vq d),(6,vu ra),(8,vi s8),(31,VT)] (by rw[b12]) ?_;clear b12;exact gi 5 [6,31] [(36,VT)]<|l7 36<|ix [] [] hQ h
 exact aG 9 (zQ c4)<|zj 0<|aA<|aA<|aJ<|jD (fn:=f155) [] hQ (show bG _ _ _ [] _ from .nil) h
end Go.Proofs.YtillhdiiglamhaaGreatDoor
namespace Go.Proofs.YtillhdiiglamhaaGreatDoor
open Go Go.Proofs.Tryz
open Int(toNat)
variable{H:zV}{a:zW}{b:zk}{d g:Int}
def gg.K0:=GC f8
def gg.pt(hv:zW)(t dC:Int)(s:Bool)(k:zW)(m o:Nat)(dT:ByteArray)(ai:zW)(aj ah:Nat):GJ:=λH R=>
 ∀b H1,b=H.size->H1=H.push (.cells #[vp hv] 31)->
 ∀a H2,a=H1.size->H2=H1.push (.cells (DR t dC s k m o dT ai aj ah).toArray 27)->
 ∃x,hat H2 (ad b)=some (vp x)/\
 fY x (
 R (.tuple #[vu 0,vi 1]) H2) (λxA=>
 ∃z xC ab p q r xT ak al am,aI H2 (ad a) 0 (DR z xC ab p q r xT ak al am)/\
 iS.C z xC ab p q r xT ak al am H2 (λv H3=> ∃ac,v=.bool ac/\
 if ac=true then(
 ∀g H4,g=H3.size->H4=H3.push (.cells #[.nilFunc] 57)->
 (aF H4 (ad g) 0 1)/\ ∀H5,H5=aL H4 (ad g) [.func (.func 19) #[] #[Vq (ad b),Vq (ad g)]] 0->
 ∃ag,hat H5 (ad g)=some (ag)/\
 ∃j ae i d f e af aa y u,aI H5 (ad a) 0 (DR j ae i d f e af aa y u)/\
 FC prog ag #[.agg (DR j ae i d f e af aa y u).toArray] H5 (λan H6=> ∃xa xb,an=.tuple #[vu xa,vi xb]/\
 R (.tuple #[vu xa,vi xb]) H6))
 else
 R (.tuple #[vu 0,vi 1]) H3))
theorem gg.link{s:Bool}{k:zW}{m o:Nat}{dT:ByteArray}{ai:zW}{aj ah:Nat}(h:pt a d g s k m o dT ai aj ah H b):C a d g s k m o dT ai aj ah H b:=by
 refine l2 K0 20 func8 ?_;intro w0 Q hQ;unfold pt at h;refine ki [(0,vp a),(1,.agg (DR d g s k m o dT ai aj ah).toArray)]<|ar 0<|l1 (some 2) (λdC=>vp (pa dC)) (.cells #[vp a] 31)<|λdC H1 e1 e2=>have h:=h dC H1 e1 e2;im [0] [(2,vp (pa dC))]<|l1 (some 3) (λdC=>vp (pa dC)) (.cells (DR d g s k m o dT ai aj ah).toArray 27)<|λR H2 e3 e4=>have h:=h R H2 e3 e4;im [1] [(3,vp (pa R))]<|gi 2 [] []<|gv<|ar 1<|have⟨x,q5,h⟩:=h;hV 7 31 q5 [] ?_;rcases x with _ | xA
 ·rw[Ev]at h;exact gi 6 [7] [(13,VT)]<|l7 13<|ar 2<|hH 2 [4,5] [vu 0,vi 1] hQ h
 rw[El]at h;refine fd 2 [7] [(9,VF)]<|have⟨z,xC,ab,p,q,r,xT,ak,al,am,q6,h⟩:=h;na 10 27 q6 []<|l5 11 [10] h λac H3 h=>gi 2 [9,11] [(13,.bool (!ac))]<|jn h (λc7 h=>?_) (λc7 h=>?_)
 ·refine aG 13 (Eg Bool.not (c7))<|kT<|ar 3<|p0 [13] []<|l1 (some 6) (λdC=>vp (pa dC)) (.cells #[.nilFunc] 57)<|λhv H4 e9 e10=>have h:=h hv H4 e9 e10;im [] [(6,vp (pa hv))]<|ue<|ar 4<|fd 1 [2] [(14,.func (.func 19) #[] #[vp (pa dC),vp (pa hv)])]<|have⟨q12,h⟩:=h;fj 57 (.func (.func 19) #[] #[vp (pa dC),vp (pa hv)]) q12<|λH5 e11=>have h:=h H5 e11;im [14] []<|ue<|ar 5<|have⟨ag,q13,h⟩:=h;hV 15 57 q13 [6] ?_;obtain⟨j,ae,i,t,f,e,af,aa,y,u,q14,h⟩:=h;refine na 16 27 q14 [3]<|ng (some 17) ag #[.agg (DR j ae i t f e af aa y u).toArray] Et h ?_;clear h;rintro an H6 ⟨xa,xb,rfl,h⟩;refine⟨[(17,.tuple #[vu xa,vi xb])],pk,?_⟩;exact hH 4 [4,5] [vu xa,vi xb] hQ h
 exact aH 13 (Eg Bool.not (zZ c7))<|ar 2<|hH 2 [4,5] [vu 0,vi 1] hQ h
def ig.K0:=GC f11
def ig.pt(hv:zW)(wv:Int):GJ:=λH R=>
 ∀b H1,b=H.size->H1=H.push (.cells GK.toArray 27)->
 fY hv (
 (aF H1 (ad b) 0 6)/\ ∀H2,H2=aL H1 (ad b) GK 0->
 ∃av rC ap ai ah aj rT a6 a5 a7,aI H2 (ad b) 0 (DR av rC ap ai ah aj rT a6 a5 a7)/\
 R (.tuple #[.agg (DR av rC ap ai ah aj rT a6 a5 a7).toArray,vi 3]) H2) (λa4=>
 ∀ao H3,ao=H1.size->H3=H1.push (.cells #[Vq a4,vi 0] 67)->
 cM.C (some (ad ao)) wv 0 H3 (λv H4=> ∃f ag g a e d ak x r t rb,v=.tuple #[.agg (DR f ag g a e d ak x r t).toArray,vi rb]/\
 ∀m H5,m=H4.size->H5=H4.push (.cells GK.toArray 27)->
 (aF H5 (ad m) 0 6)/\ ∀H6,H6=aL H5 (ad m) (DR f ag g a e d ak x r t) 0->
 if rb=0 then(
 ∃o xC p i j k xT al am an,aI H6 (ad m) 0 (DR o xC p i j k xT al am an)/\
 (aF H6 (ad b) 0 6)/\ ∀H7,H7=aL H6 (ad b) (DR o xC p i j k xT al am an) 0->
 ∃ae a1 ab q aa u a3 au az ay,aI H7 (ad b) 0 (DR ae a1 ab q aa u a3 au az ay)/\
 R (.tuple #[.agg (DR ae a1 ab q aa u a3 au az ay).toArray,vi 0]) H7)
 else
 (aF H6 (ad b) 0 6)/\ ∀H8,H8=aL H6 (ad b) GK 0->
 ∃ac a2 af y z s a0 ax aq aw,aI H8 (ad b) 0 (DR ac a2 af y z s a0 ax aq aw)/\
 R (.tuple #[.agg (DR ac a2 af y z s a0 ax aq aw).toArray,vi rb]) H8))
theorem ig.link(h:pt a d H b):C a d H b:=by
 refine l2 K0 26 func11 ?_;intro w0 Q hQ;unfold pt at h;refine ki [(0,vp a),(1,vu d)]<|ar 0<|l1 (some 4) (λwv=>vp (pa wv)) (.cells GK.toArray 27)<|λwv H1 e1 e2=>have h:=h wv H1 e1 e2;im [] [(4,vp (pa wv))]<|gi 1 [] []<|gv<|ar 1<|fd 1 [] [(9,vp a)] ?_;rcases a with _ | a4
 ·rw[Ev]at h;refine gi 1 [0,9] [(0,vp none),(10,VT)]<|l7 10<|ar 2<|fd 1 [0,1,10] [(11,.agg GK.toArray)]<|have⟨q4,h⟩:=h;bF 27 GK q4<|λH2 e3=>have h:=h H2 e3;im [11] []<|gi 1 [] [(5,vi 3)]<|zx ?_;show At _ _ _ _ _ (Q .ret);exact have⟨av,rC,ap,ai,ah,aj,rT,a6,a5,a7,q5,h⟩:=h;bY (fn:=f11) [.agg (DR av rC ap ai ah aj rT a6 a5 a7).toArray,vi 3] hQ (show bG _ _ _ [.cell 4 27,.tmp 5] _ from .cell GE (aR Et Et q5) (.tmp GE (.nil))) h
 rw[El]at h;refine gi 1 [0,9] [(0,Vq a4),(10,VF)]<|pN 10<|kT<|ar 3<|fd 2 [0,10] [(13,.agg #[Vq a4,vi 0])]<|l1 (some 14) (λwv=>vp (pa wv)) (.cells #[Vq a4,vi 0] 67) ?_;intro ao H3 e6 e7;replace h:=h ao H3 e6 e7;refine im [13] [(14,vp (pa ao))]<|gi 1 [14] [(6,vp (pa ao))]<|ar 4<|fd 2 [1,6] [(16,vp (pa ao)),(17,vu d)]<|Bs (some 18) h ?_;clear h;rintro v H4 ⟨f,ag,g,R,e,hv,ak,x,r,t,rb,rfl,h⟩;refine im [16,17] [(18,.tuple #[.agg (DR f ag g R e hv ak x r t).toArray,vi rb])]<|fd 3 [18] [(19,.agg (DR f ag g R e hv ak x r t).toArray),(20,vi rb)]<|l1 (some 7) (λwv=>vp (pa wv)) (.cells GK.toArray 27)<|λm H5 e8 e9=>have h:=h m H5 e8 e9;im [] [(7,vp (pa m))]<|have⟨q11,h⟩:=h;bF 27 (DR f ag g R e hv ak x r t) q11<|λH6 e10=>have h:=h H6 e10;im [19] []<|gi 1 [20] [(8,vi rb)]<|gv<|ar 5<|gi 2 [] [(22,.bool (rb !=0))]<|jn h (λc12 h=>?_) (λc12 h=>?_)
 ·refine aG 22 (Em.mpr c12)<|kT<|ar 7<|p0 [8,22] []<|have⟨o,xC,p,i,j,k,xT,al,am,an,q14,h⟩:=h;na 25 27 q14 [7]<|have⟨q16,h⟩:=h;bF 27 (DR o xC p i j k xT al am an) q16<|λH7 e15=>have h:=h H7 e15;im [25] []<|gi 1 [] [(5,vi 0)]<|zx ?_;show At _ _ _ _ _ (Q .ret);exact have⟨ae,a1,ab,q,aa,u,a3,au,az,ay,q17,h⟩:=h;bY (fn:=f11) [.agg (DR ae a1 ab q aa u a3 au az ay).toArray,vi 0] hQ (show bG _ _ _ [.cell 4 27,.tmp 5] _ from .cell GE (aR Et Et q17) (.tmp GE (.nil))) h
 refine aH 22 (En.mpr c12)<|ar 6<|fd 2 [7,8,22] [(23,.agg GK.toArray),(24,vi rb)]<|have⟨q19,h⟩:=h;bF 27 GK q19<|λH8 e18=>have h:=h H8 e18;im [23] []<|gi 1 [24] [(5,vi rb)]<|zx ?_;show At _ _ _ _ _ (Q .ret);exact have⟨ac,a2,af,y,z,s,a0,ax,aq,aw,q20,h⟩:=h;bY (fn:=f11) [.agg (DR ac a2 af y z s a0 ax aq aw).toArray,vi rb] hQ (show bG _ _ _ [.cell 4 27,.tmp 5] _ from .cell GE (aR Et Et q20) (.tmp GE (.nil))) h
namespace gx
def K0:=GC f19
def K2:=cb K0
def K3:=ca K2
def K6:=cb K3
def K7:=ca K6
def K9:=cb K7
def Cq:=cb K9
def B1:=cb Cq
def Bu:=cb B1
def B4:=cb Bu
def Ch:=cb B4
def B8:=cb Ch
def CN:=cb B8
def Cg:=cb CN
def CG:=cb Cg
def CW:=cb CG
def CT:=cb CW
def CS:=cb CT
def C8:=cb CS
def DD:=cb C8
def K53:=cb DD
def K57:=cb K53
def DP:=ca K57
def DI:=cb K57
def DW:=cb DP
def Dq:=ca DW
def K65:=cb Dq
def DZ:=ca K65
def K67:=ca DZ
def K92:=cb DI
def K93:=ca K92
def K96:=cb K93
def K97:=ca K96
def K98:=cb K96
def K99:=ca K97
def DL:=ca K99
def DM:=cb K98
def Eb:=ca DM
def Ed:=cb Eb
def DK:=ca Ed
def Dr:=ca DK
def DS:=cb Dr
def DH:=ca DS
def DG:=ca DH
def Ef:=cb DG
def Ee:=ca Ef
end gx
def gx.pt(cd dC:Int)(cc:Bool)(bb:zW)(bc bd:Nat)(dT:ByteArray)(du:zW)(dv dt:Nat)(d f:zW):GJ:=λH R=>
 ∀b H1,b=H.size->H1=H.push (.cells (DR cd dC cc bb bc bd dT du dv dt).toArray 27)->
 ∃x,hat H1 (ad b)=some (vi x)/\
 if x=1 then(
 R (.tuple #[vu 12,vi 0]) H1)
 else
 if x=2 then(
 R (.tuple #[vu 4,vi 0]) H1)
 else
 if x=9 then(
 R (.tuple #[vu 36,vi 0]) H1)
 else
 if x=10 then(
 R (.tuple #[vu 28,vi 0]) H1)
 else
 if x=3 then(
 ∃dn,hat H1 ((ad b).add 1)=some (.int .i32 dn)/\
 jF.C dn H1 (λv H2=> ∃ra rb,v=.tuple #[vu ra,vi rb]/\
 R (.tuple #[vu ra,vi rb]) H2))
 else
 if x=4 then(
 ∃de,d=some de/\
 ∃dd,hat H1 de=some (vp dd)/\
 ∃cv bw br b2,aI H1 ((ad b).add 2) 0 [.bool cv,vs bw br b2]/\
 gX.C dd cv bw br b2 H1 (λd6 H3=> ∃cu cw,d6=.tuple #[vu cu,vi cw]/\
 R (.tuple #[vu cu,vi cw]) H3))
 else
 if x=5 then(
 ∃b8,d=some b8/\
 ∃db,hat H1 b8=some (vp db)/\
 ∃dq,hat H1 ((ad b).add 4)=some (.string dq)/\
 fi.C db dq H1 (λd5 H4=> ∃cz da,d5=.tuple #[vu cz,vi da]/\
 R (.tuple #[vu cz,vi da]) H4))
 else
 if x=6 then(
 ∃bq,d=some bq/\
 ∃dc,hat H1 bq=some (vp dc)/\
 ∃dr,hat H1 ((ad b).add 4)=some (.string dr)/\
 iA.C dc dr H1 (λd1 H5=> ∃cr c1,d1=.tuple #[vu cr,vi c1]/\
 R (.tuple #[vu cr,vi c1]) H5))
 else
 if x=8 then(
 ∃xB xN xC,hat H1 ((ad b).add 5)=some (vs xB xN xC)/\
 ∃(dy:zW->Nat->Nat->zv) (m68:zW->Nat->Nat->Int->zV->Nat),dy none 0 0 0 H1/\ ∀lB lN lC s62 H6,dy lB lN lC s62 H6->
 if s62< (xN:Int)then(
 ∃q,xB=some q/\
 zw s62 xN/\
 ∃ay bh az af ah ai xT co cp cn,aI H6 (q.add (toNat s62*6)) 0 (DR ay bh az af ah ai xT co cp cn)/\
 ∀bj H7,bj=H6.size->H7=H6.push (.cells GK.toArray 27)->
 (aF H7 (ad bj) 0 6)/\ ∀H8,H8=aL H7 (ad bj) (DR ay bh az af ah ai xT co cp cn) 0->
 ∃p,f=some p/\
 ∃dj,hat H8 p=some (dj)/\
 ∃a3 c2 a5 au am av cy bt b6 b1,aI H8 (ad bj) 0 (DR a3 c2 a5 au am av cy bt b6 b1)/\
 FC prog dj #[.agg (DR a3 c2 a5 au am av cy bt b6 b1).toArray] H8 (λd8 H9=> ∃xa xb,d8=.tuple #[vu xa,vi xb]/\
 if xb=0 then(
 ∀dm H10,dm=H9.size->H10=H9.push (.cells #[vu xa] 37)->
 dY 1 37 8 [vu 0] lB lN lC (some (ad dm)) 1 H10 (λap dg d0=>
 (dy ap (lN+1) dg (zY (s62+1)) d0/\m68 ap (lN+1) dg (zY (s62+1)) d0<m68 lB lN lC s62 H6)))
 else
 R (.tuple #[vu 0,vi xb]) H9))
 else
 ∃bx,d=some bx/\
 ∃dk,hat H6 bx=some (vp dk)/\
 dO.C dk 1 0 lB lN lC H6 (λd4 d9=> ∃c5 ct,d4=.tuple #[vu c5,vi ct]/\
 R (.tuple #[vu c5,vi ct]) d9))
 else
 if x=7 then(
 ∃(di:zW->Nat->Nat->zV->Prop) (m101:zW->Nat->Nat->zV->Nat),di none 0 0 H1/\ ∀j carsN carsC H13,di j carsN carsC H13->
 ∃bf,hat H13 (ad b)=some (vi bf)/\
 if bf=7 then(
 ∃df ce c3,hat H13 ((ad b).add 5)=some (vs df ce c3)/\
 ∃bp,df=some bp/\
 zw 0 ce/\
 ∃a4 c0 a1 ax ak aq c7 bu bz b3,aI H13 (bp.add (toNat 0*6)) 0 (DR a4 c0 a1 ax ak aq c7 bu bz b3)/\
 ∀dp H14,dp=H13.size->H14=H13.push (.cells (DR a4 c0 a1 ax ak aq c7 bu bz b3).toArray 27)->
 dY 6 27 88 GK j carsN carsC (some (ad dp)) 1 H14 (λa7 ag dl=>
 ∃dh ck c9,hat dl ((ad b).add 5)=some (vs dh ck c9)/\
 ∃bm,dh=some bm/\
 zw 1 ck/\
 ∃ae bn ac u r s bl a8 ba a9,aI dl (bm.add (toNat 1*6)) 0 (DR ae bn ac u r s bl a8 ba a9)/\
 (aF dl (ad b) 0 6)/\ ∀dx,dx=aL dl (ad b) (DR ae bn ac u r s bl a8 ba a9) 0->
 (di a7 (carsN+1) ag dx/\m101 a7 (carsN+1) ag dx<m101 j carsN carsC H13)))
 else
 ∃e,f=some e/\
 ∃cg,hat H13 e=some (cg)/\
 ∃a2 cs a0 ao an aw cq b4 b0 bs,aI H13 (ad b) 0 (DR a2 cs a0 ao an aw cq b4 b0 bs)/\
 FC prog cg #[.agg (DR a2 cs a0 ao an aw cq b4 b0 bs).toArray] H13 (λea d3=> ∃cl cj,ea=.tuple #[vu cl,vi cj]/\
 ∃(cx:Int->Int->zv) (m118:Int->Int->Int->zV->Nat),cx cl cj (zY ((carsN:Int)-1)) d3/\ ∀wv ev i H18,cx wv ev i H18->
 if((decide (i>=0)) && (ev==0))=true then(
 ∃a6,hat H18 e=some (a6)/\
 ∃g,j=some g/\
 zw i carsN/\
 ∃al cm aj z aa ab ci bi be bg,aI H18 (g.add (toNat i*6)) 0 (DR al cm aj z aa ab ci bi be bg)/\
 FC prog a6 #[.agg (DR al cm aj z aa ab ci bi be bg).toArray] H18 (λd2 dw=> ∃o m,d2=.tuple #[vu o,vi m]/\
 if m=0 then(
 ∃y,d=some y/\
 ∃ch,hat dw y=some (vp ch)/\
 gy.C ch o wv dw (λd7 dz=> ∃bo bk,d7=.tuple #[vu bo,vi bk]/\
 (cx bo bk (zY (i-1)) dz/\m118 bo bk (zY (i-1)) dz<m118 wv ev i H18)))
 else
 (cx wv m (zY (i-1)) dw/\m118 wv m (zY (i-1)) dw<m118 wv ev i H18)))
 else
 if ev=0 then(
 R (.tuple #[vu wv,vi 0]) H18)
 else
 R (.tuple #[vu 0,vi ev]) H18))
 else
 R (.tuple #[vu 20,vi 0]) H1
theorem gx.link{cc:Bool}{bc bd:Nat}{dT:ByteArray}{du:zW}{dv dt:Nat}{dC f:zW}(h:pt d g cc a bc bd dT du dv dt dC f H b):C d g cc a bc bd dT du dv dt dC f H b:=by
 refine l2 K0 140 func19 ?_;intro w0 Q hQ;unfold pt zY at h;refine ki [(0,.agg (DR d g cc a bc bd dT du dv dt).toArray),(1,vp dC),(2,vp f)]<|ar 0<|l1 (some 3) (λbb=>vp (pa bb)) (.cells (DR d g cc a bc bd dT du dv dt).toArray 27)<|λbb H1 e1 e2=>have h:=h bb H1 e1 e2;im [0] [(3,vp (pa bb))]<|gi 2 [] []<|gv<|ar 1<|fd 1 [] [(16,vp (pa bb))]<|have⟨x,q3,h⟩:=h;hV 17 3 q3 [16]<|ue<|k5 0<|ar 2<|gi 2 [] [(18,.bool (x==1))]<|jn h (λc4 h=>?_) (λc4 h=>?_)
 ·exact aH 18 (zK c4)<|ar 3<|hH 2 [4,5] [vu 12,vi 0] hQ h
 refine aG 18 (zJ c4)<|ar 4<|gi 2 [18] [(20,.bool (x==2))]<|jn h (λc6 h=>?_) (λc6 h=>?_)
 ·exact aH 20 (zK c6)<|ar 5<|hH 2 [4,5] [vu 4,vi 0] hQ h
 refine aG 20 (zJ c6)<|ar 6<|gi 2 [20] [(22,.bool (x==9))]<|jn h (λc8 h=>?_) (λc8 h=>?_)
 ·exact aH 22 (zK c8)<|ar 7<|hH 2 [4,5] [vu 36,vi 0] hQ h
 refine aG 22 (zJ c8)<|ar 8<|gi 2 [22] [(24,.bool (x==10))]<|jn h (λc10 h=>?_) (λc10 h=>?_)
 ·exact aH 24 (zK c10)<|ar 9<|hH 2 [4,5] [vu 28,vi 0] hQ h
 refine aG 24 (zJ c10)<|ar 10<|gi 2 [24] [(26,.bool (x==3))]<|jn h (λc12 h=>?_) (λc12 h=>?_)
 ·exact aH 26 (zK c12)<|ar 11<|nb 1 [(28,Vq ((ad bb).add 1))]<|have⟨dn,q14,h⟩:=h;hV 29 21 q14 [28]<|Bh 30 (λra rb=>[(30,.tuple #[vu ra,vi rb])]) h λra rb H2 h=>hH 4 [4,5] [vu ra,vi rb] hQ h
 refine aG 26 (zJ c12)<|ar 12<|gi 2 [26] [(33,.bool (x==4))]<|jn h (λc15 h=>?_) (λc15 h=>?_)
 ·refine aH 33 (zK c15)<|ar 13<|p0 [2,17,33] [] ?_;obtain⟨de,rfl,dd,q17,ha⟩:=h;exact hV 35 31 q17 [1]<|fd 1 [3] [(36,Vq ((ad bb).add 2))]<|have⟨cv,bw,br,b2,q18,h⟩:=ha;na 37 24 q18 [36]<|Bh 38 (λcu cw=>[(38,.tuple #[vu cu,vi cw])]) h λcu cw H3 h=>hH 4 [4,5] [vu cu,vi cw] hQ h
 refine aG 33 (zJ c15)<|ar 14<|gi 2 [33] [(41,.bool (x==5))]<|jn h (λc19 h=>?_) (λc19 h=>?_)
 ·refine aH 41 (zK c19)<|ar 15<|p0 [2,17,41] [] ?_;obtain⟨b8,rfl,db,q21,hb⟩:=h;exact hV 43 31 q21 [1]<|fd 1 [3] [(44,Vq ((ad bb).add 4))]<|have⟨dq,q22,h⟩:=hb;hV 45 9 q22 [44]<|Bh 46 (λcz da=>[(46,.tuple #[vu cz,vi da])]) h λcz da H4 h=>hH 4 [4,5] [vu cz,vi da] hQ h
 refine aG 41 (zJ c19)<|ar 16<|gi 2 [41] [(49,.bool (x==6))]<|jn h (λc23 h=>?_) (λc23 h=>?_)
 ·refine aH 49 (zK c23)<|ar 17<|p0 [2,17,49] [] ?_;obtain⟨bq,rfl,dc,q25,hc⟩:=h;exact hV 51 31 q25 [1]<|fd 1 [3] [(52,Vq ((ad bb).add 4))]<|have⟨dr,q26,h⟩:=hc;hV 53 9 q26 [52]<|Bh 54 (λcr c1=>[(54,.tuple #[vu cr,vi c1])]) h λcr c1 H5 h=>hH 4 [4,5] [vu cr,vi c1] hQ h
 refine aG 49 (zJ c23)<|ar 18<|gi 2 [49] [(57,.bool (x==8))]<|jn h (λc27 h=>?_) (λc27 h=>?_)
 ·refine aH 57 (zK c27)<|ar 19<|gi 1 [17,57] [(6,VN)]<|gv<|ar 20<|fd 1 [3] [(59,Vq ((ad bb).add 5))]<|have⟨xB,xN,xC,q29,h⟩:=h;hV 60 25 q29 [59]<|gi 2 [] [(61,vi xN),(62,vi 0)]<|k5 1<|have⟨dy,m68,i30,i31⟩:=h;bI (x:=K67) (σ:=zW×Nat×Nat×Int) (λs_=> [(1,vp dC),(2,vp f),(6,vs s_.1 s_.2.1 s_.2.2.1),(60,vs xB xN xC),(61,vi xN),(62,vi s_.2.2.2)]) (λs_ H=>dy s_.1 s_.2.1 s_.2.2.1 s_.2.2.2 H) (λs_ H=>m68 s_.1 s_.2.1 s_.2.2.1 s_.2.2.2 H) ((none,0,0,0):zW×Nat×Nat×Int) GE i30 sk ?_;rintro⟨lB,lN,lC,s62⟩ H6 i32;have h:=i31 lB lN lC s62 H6 i32;refine ki [(1,vp dC),(2,vp f),(6,vs lB lN lC),(60,vs xB xN xC),(61,vi xN),(62,vi s62)]<|ar 21<|gi 1 [] [(63,.bool (decide (s62< (xN:Int))))]<|gv<|jn h (λc33 h=>?_) (λc33 h=>?_)
  ·refine aH 63 (zX c33)<|kT<|gv<|k5 2<|ar 22<|p0 [63] [] ?_;obtain⟨q,rfl,q35,hd⟩:=h;refine ww (some 64) 25 27 6 q xN xC .i64 s62 EK q35.1 q35.2 [60] [(60,vs (some q) xN xC),(64,Vq (q.add (toNat s62*6)))]<|have⟨ay,bh,az,af,ah,ai,xT,co,cp,cn,q36,h⟩:=hd;na 65 27 q36 [64]<|l1 (some 8) (λbb=>vp (pa bb)) (.cells GK.toArray 27)<|λbj H7 e37 e38=>have h:=h bj H7 e37 e38;im [] [(8,vp (pa bj))]<|have⟨q40,h⟩:=h;bF 27 (DR ay bh az af ah ai xT co cp cn) q40<|λH8 e39=>have h:=h H8 e39;im [65] []<|ue<|ar 23 ?_;obtain⟨p,rfl,dj,q41,he⟩:=h;refine Cp (some 67) 57 q41 [2] [(2,Vq p),(67,dj)] ?_;obtain⟨a3,c2,a5,au,am,av,cy,bt,b6,b1,q42,h⟩:=he;refine na 68 27 q42 [8]<|ng (some 69) dj #[.agg (DR a3 c2 a5 au am av cy bt b6 b1).toArray] Et h ?_;clear h;rintro d8 H9 ⟨xa,xb,rfl,h⟩;refine im [67,68] [(69,.tuple #[vu xa,vi xb])]<|gi 5 [69] [(9,vu xa),(10,vi xb)]<|gv<|ar 24<|gi 2 [] [(73,.bool (xb !=0))]<|jn h (λc43 h=>?_) (λc43 h=>?_)
   ·refine aG 73 (Em.mpr c43)<|kT<|k4 26<|fd 2 [6,9,10,73] [(75,vs lB lN lC),(76,vu xa)]<|l1 (some 77) (λbb=>vs (pa bb) 1 1) (.cells #[vu xa] 37) ?_;intro dm H10 e45 e46;replace h:=h dm H10 e45 e46;refine im [76] [(77,vs (pa dm) 1 1)]<|xl (some 78) (eM #[53,53] 53 #[vs lB lN lC,vs (pa dm) 1 1]) _ Et (cT (T:=37) (sz:=1) (bytes:=8) (zero:=(vu 0:Value)) EY EY rfl (show prog.info? 37=some t37 from GE) GE GE GG GE (by first | exact h | (simpa only[Value.cells,EI]using h))) ?_;clear h;rintro _ d0 ⟨ap,dg,rfl,h⟩;exact im [75,77] [(78,vs ap (lN+1) dg)]<|fd 1 [78] [(6,vs ap (lN+1) dg)]<|zq<|aD<|aE<|k4 27<|gi 2 [62] [(62,vi (zY (s62+1)))]<|aQ ((ap,(lN+1),dg,(zY (s62+1))):zW×Nat×Nat×Int) sk h
   exact aH 73 (En.mpr c43)<|ar 25<|hH 3 [4,5] [vu 0,vi xb] hQ h
  refine aG 63 (zQ c33)<|zj 1<|aA<|aA<|aJ<|aE<|ar 28<|p0 [2,60,61,62,63] [] ?_;obtain⟨bx,rfl,dk,q47,hf⟩:=h;have h:=hf;exact hV 80 31 q47 [1]<|fd 1 [6] [(81,vs lB lN lC)]<|Bh 82 (λc5 ct=>[(82,.tuple #[vu c5,vi ct])]) h λc5 ct d9 h=>hH 4 [4,5] [vu c5,vi ct] hQ h
 refine aG 57 (zJ c27)<|ar 29<|gi 2 [17,57] [(85,.bool (x==7))]<|jn h (λc48 h=>?_) (λc48 h=>?_)
 ·refine aH 85 (zK c48)<|ar 30<|gi 1 [85] [(11,VN)]<|gv<|k5 3<|have⟨di,m101,i50,i51⟩:=h;bI (x:=DL) (σ:=zW×Nat×Nat) (λs_=> [(1,vp dC),(2,vp f),(3,vp (pa bb)),(11,vs s_.1 s_.2.1 s_.2.2)]) (λs_ H=>di s_.1 s_.2.1 s_.2.2 H) (λs_ H=>m101 s_.1 s_.2.1 s_.2.2 H) ((none,0,0):zW×Nat×Nat) GE i50 sk ?_;rintro⟨j,carsN,carsC⟩ H13 i52;have h:=i51 j carsN carsC H13 i52;refine ki [(1,vp dC),(2,vp f),(3,vp (pa bb)),(11,vs j carsN carsC)]<|gv<|ar 31<|fd 1 [] [(87,vp (pa bb))]<|have⟨bf,q53,h⟩:=h;hV 88 3 q53 [87]<|gi 1 [88] [(89,.bool (bf==7))]<|jn h (λc54 h=>?_) (λc54 h=>?_)
  ·refine aH 89 (zK c54)<|kT<|k5 4<|ar 32<|fd 2 [11,89] [(90,vs j carsN carsC),(91,Vq ((ad bb).add 5))]<|have⟨df,ce,c3,q56,h⟩:=h;hV 92 25 q56 [91] ?_;obtain⟨bp,rfl,q57,hg⟩:=h;refine ww (some 93) 25 27 6 bp ce c3 .i64 0 EK q57.1 q57.2 [92] [(93,Vq (bp.add (toNat 0*6)))]<|have⟨a4,c0,a1,ax,ak,aq,c7,bu,bz,b3,q58,h⟩:=hg;na 94 27 q58 [93]<|l1 (some 95) (λbb=>vs (pa bb) 1 1) (.cells (DR a4 c0 a1 ax ak aq c7 bu bz b3).toArray 27) ?_;intro dp H14 e59 e60;replace h:=h dp H14 e59 e60;refine im [94] [(95,vs (pa dp) 1 1)]<|xl (some 96) (eM #[25,25] 25 #[vs j carsN carsC,vs (pa dp) 1 1]) _ Et (cT (T:=27) (sz:=6) (bytes:=88) (zero:=(.agg GK.toArray:Value)) EK EK rfl (show prog.info? 27=some t27 from GE) GE GE GG GE (by first | exact h | (simpa only[Value.cells,EI]using h))) ?_;clear h;rintro _ dl ⟨a7,ag,rfl,h⟩;refine im [90,95] [(96,vs a7 (carsN+1) ag)]<|gi 1 [96] [(11,vs a7 (carsN+1) ag)]<|k4 33<|fd 1 [] [(97,Vq ((ad bb).add 5))]<|have⟨dh,ck,c9,q61,h⟩:=h;hV 98 25 q61 [97] ?_;obtain⟨bm,rfl,q62,hh⟩:=h;exact ww (some 99) 25 27 6 bm ck c9 .i64 1 EK q62.1 q62.2 [98] [(99,Vq (bm.add (toNat 1*6)))]<|have⟨ae,bn,ac,u,r,s,bl,a8,ba,a9,q63,h⟩:=hh;na 100 27 q63 [99]<|have⟨q65,h⟩:=h;bF 27 (DR ae bn ac u r s bl a8 ba a9) q65<|λdx e64=>have h:=h dx e64;im [100] []<|zq<|aD<|aE<|aQ ((a7,(carsN+1),ag):zW×Nat×Nat) sk h
  refine aG 89 (zJ c54)<|zj 3<|aA<|aA<|aJ<|aE<|ar 34<|p0 [89] [] ?_;obtain⟨e,rfl,cg,q66,hi⟩:=h;refine Cp (some 102) 57 q66 [2] [(2,Vq e),(102,cg)] ?_;obtain⟨a2,cs,a0,ao,an,aw,cq,b4,b0,bs,q67,h⟩:=hi;refine na 103 27 q67 [3]<|ng (some 104) cg #[.agg (DR a2 cs a0 ao an aw cq b4 b0 bs).toArray] Et h ?_;clear h;rintro ea d3 ⟨cl,cj,rfl,h⟩;refine im [102,103] [(104,.tuple #[vu cl,vi cj])]<|gi 5 [104] [(12,vu cl),(13,vi cj)]<|gv<|ar 35<|gi 4 [] [(14,vi (zY ((carsN:Int)-1)))]<|k5 5<|have⟨cx,m118,i68,i69⟩:=h;bI (x:=Dr) (σ:=Int×Int×Int) (λs_=> [(1,vp dC),(2,Vq e),(11,vs j carsN carsC),(12,vu s_.1),(13,vi s_.2.1),(14,vi s_.2.2)]) (λs_ H=>cx s_.1 s_.2.1 s_.2.2 H) (λs_ H=>m118 s_.1 s_.2.1 s_.2.2 H) ((cl,cj,(zY ((carsN:Int)-1))):Int×Int×Int) GE i68 sk ?_;rintro⟨wv,ev,i⟩ H18 i70;have h:=i69 wv ev i H18 i70;refine ki [(1,vp dC),(2,Vq e),(11,vs j carsN carsC),(12,vu wv),(13,vi ev),(14,vi i)]<|gv<|ar 36<|gU [(1,vp dC),(2,Vq e),(11,vs j carsN carsC),(12,vu wv),(13,vi ev),(14,vi i),(115,.bool ((decide (i>=0)) && (ev==0)))] ?_ ?_
  ·refine aE<|jn h (λc73 h=>?_) (λc73 h=>?_)
   ·refine aH 115 c73<|kT<|gv<|k5 6<|ar 38<|nx 1 [(1,vp dC),(2,Vq e),(11,vs j carsN carsC),(12,vu wv),(14,vi i)]<|gv ?_;obtain⟨a6,q75,cd,rfl,q76,al,cm,aj,z,aa,ab,ci,bi,be,bg,q77,hj⟩:=h;have h:=hj;refine yY 39 (Code.ops Ee) [(5,e,[a6]),(5,(cd.add (toNat i*6)),(DR al cm aj z aa ab ci bi be bg))] 11 (bv 11 0) (show aP _ _ _ from⟨⟨q75,GB⟩,q77,GB⟩)<|BS 0 (some 119) (a6) (bv 11 1) [(1,vp dC),(2,vp (some e)),(11,vs (some cd) carsN carsC),(12,vu wv),(14,vi i),(119,a6)] (aZ 57 (vp (some e))) (yW 5 yZ)<|aM 1 120 (vs (some cd) carsN carsC) (bv 11 3) []<|aM 2 121 (vi i) (bv 11 7) []<|lb 3 122 (vp (some (cd.add (toNat i*6)))) (bv 11 15) [120,121] (bJ 25 (vs (some cd) carsN carsC) (vi i)) (λ_ w _ _ _=>dV (P:=prog) (t:=25) (elem:=27) (sz:=6) (a:=cd) (len:=carsN) (cap:=carsC) (k:=.i64) (i:=i) EK Et q76.1 q76.2 w)<|lb 4 123 (.agg (DR al cm aj z aa ab ci bi be bg).toArray) (bv 11 31) [122] (aZ 27 (vp (some (cd.add (toNat i*6))))) (kq 5 Et Et yX (.inl GE))<|zi 5 (some 124) (bv 11 63) a6 #[.agg (DR al cm aj z aa ab ci bi be bg).toArray] GE Et h GE ?_;clear h;rintro d2 dw ⟨o,m,rfl,h⟩;refine⟨[(1,vp dC),(2,Vq e),(11,vs (some cd) carsN carsC),(12,vu wv),(14,vi i),(124,.tuple #[vu o,vi m])],pk,(show aP _ _ _ from⟨GB,GB,GB⟩),?_⟩;refine BS 6 (some 118) (.tuple #[vu o,vi m]) (bv 11 127) [(1,vp dC),(2,Vq e),(11,vs (some cd) carsN carsC),(12,vu wv),(14,vi i),(118,.tuple #[vu o,vi m])] (pure (.value (.tuple #[vu o,vi m])):Sem Next) (λ_ _ _ _ _=>rfl)<|lb 7 125 (vu o) (bv 11 255) [] (pure (.value (vu o)):Sem Next) (λ_ _ _ _ _=>rfl)<|lb 8 126 (vi m) (bv 11 511) [118] (pure (.value (vi m)):Sem Next) (λ_ _ _ _ _=>rfl)<|lb 9 15 (vu o) (bv 11 1023) [125] (pure (.value (vu o)):Sem Next) (λ_ _ _ _ _=>rfl)<|lb 10 13 (vi m) (bv 11 2047) [126] (pure (.value (vi m)):Sem Next) (λ_ _ _ _ _=>rfl)<|gm [(1,vp dC),(2,Vq e),(11,vs (some cd) carsN carsC),(12,vu wv),(13,vi m),(14,vi i),(15,vu o)] sk<|yx<|aE<|ar 40<|nx 2 [(1,vp dC),(2,Vq e),(11,vs (some cd) carsN carsC),(12,vu wv),(13,vi m),(14,vi i),(15,vu o),(128,.bool (m==0))]<|jn h (λc78 h=>?_) (λc78 h=>?_)
    ·refine aH 128 (zK c78)<|k4 41<|p0 [13,128] [] ?_;obtain⟨y,rfl,ch,q80,hl⟩:=h;exact Cp (some 130) 31 q80 [1] [(1,Vq y),(130,vp ch)]<|fd 2 [12,15] [(131,vu o),(132,vu wv)]<|vr 133 [130,131,132] hl λbo bk dz h=>fd 5 [133] [(12,vu bo),(13,vi bk)]<|zq<|aD<|aE<|k4 37<|gi 3 [14] [(14,vi (zY (i-1)))]<|aQ ((bo,bk,(zY (i-1))):Int×Int×Int) sk h
    exact aG 128 (zJ c78)<|Bn<|aD<|aE<|k4 37<|gi 3 [14,15,128] [(14,vi (zY (i-1)))]<|aQ ((wv,m,(zY (i-1))):Int×Int×Int) sk h
   refine aG 115 (zZ c73)<|zj 5<|aA<|aA<|aJ<|aE<|gv<|ar 42<|nx 2 [(12,vu wv),(13,vi ev),(137,.bool (ev !=0))]<|jn h (λc81 h=>?_) (λc81 h=>?_)
   ·exact aG 137 (Em.mpr c81)<|kT<|ar 44<|hH 3 [4,5] [vu wv,vi 0] hQ h
   exact aH 137 (En.mpr c81)<|ar 43<|hH 3 [4,5] [vu 0,vi ev] hQ h
  refine λhk=>nb 3 [(1,vp dC),(2,Vq e),(11,vs j carsN carsC),(12,vu wv),(13,vi ev),(14,vi i),(112,.bool (decide (i>=0)))] ?_;by_cases c71:i>=0
  ·have b72:(decide (i>=0))=true:=zX c71;exact bW [(1,vp dC),(2,Vq e),(11,vs j carsN carsC),(12,vu wv),(13,vi ev),(14,vi i),(112,VT)] (by rw[b72])<|fd 3 [112] [(115,.bool (ev==0))]<|zq<|n7 115 (b:=(ev==0)) (v:=((decide (i>=0)) && (ev==0))) (by simp only[b72,BL])<|hk
  have b72:(decide (i>=0))=false:=zQ c71;exact bW [(1,vp dC),(2,Vq e),(11,vs j carsN carsC),(12,vu wv),(13,vi ev),(14,vi i),(112,VF)] (by rw[b72])<|fd 3 [112] [(115,VF)]<|zq<|n7 115 (b:=false) (v:=((decide (i>=0)) && (ev==0))) (by simp only[b72,BL])<|hk
 exact aG 85 (zJ c48)<|Bn<|aD<|aE<|ar 45<|hH 2 [4,5] [vu 20,vi 0] hQ h
def cM.K0:=GC f29
def cM.pt(r:zW)(wv a:Int):GJ:=λH R=>
 ∀b H1,b=H.size->H1=H.push (.cells GK.toArray 27)->
 eO.C r H1 (λv H2=> ∃x,v=vi x/\
 if x=0 then(
 fT.C wv H2 (λe0 H3=> ∃ac cn aa u t s cq bo a4 bl rb,e0=.tuple #[.agg (DR ac cn aa u t s cq bo a4 bl).toArray,.bool rb]/\
 ∀ap H4,ap=H3.size->H4=H3.push (.cells GK.toArray 27)->
 (aF H4 (ad ap) 0 6)/\ ∀H5,H5=aL H4 (ad ap) (DR ac cn aa u t s cq bo a4 bl) 0->
 if rb=true then(
 ∃az xC a2 ah ak am xT ct cu cs,aI H5 (ad ap) 0 (DR az xC a2 ah ak am xT ct cu cs)/\
 (aF H5 (ad b) 0 6)/\ ∀H6,H6=aL H5 (ad b) (DR az xC a2 ah ak am xT ct cu cs) 0->
 ∃cx rC c7 co cr cp rT es ep eu,aI H6 (ad b) 0 (DR cx rC c7 co cr cp rT es ep eu)/\
 R (.tuple #[.agg (DR cx rC c7 co cr cp rT es ep eu).toArray,vi 0]) H6)
 else
 ∃rA,r=some rA/\
 ∃dr,hat H5 rA=some (vp dr)/\
 gY.C dr wv H5 (λez H7=> ∃aw z ab y an,ez=.tuple #[.agg #[.bool aw,vs z ab y],vi an]/\
 ∀ao H8,ao=H7.size->H8=H7.push (.cells #[VF,VN] 24)->
 (aF H8 (ad ao) 0 2)/\ ∀H9,H9=aL H8 (ad ao) [.bool aw,vs z ab y] 0->
 if an=0 then(
 ∃a8 au aq av,aI H9 (ad ao) 0 [.bool a8,vs au aq av]/\
 (aF H9 (ad b) 0 6)/\ ∀em,em=aL H9 (ad b) (DR 4 0 a8 au aq av (ByteArray.mk #[]) none 0 0) 0->
 ∃b7 d1 ck bc bh bm dz dh dg dd,aI em (ad b) 0 (DR b7 d1 ck bc bh bm dz dh dg dd)/\
 R (.tuple #[.agg (DR b7 d1 ck bc bh bm dz dh dg dd).toArray,vi 0]) em)
 else
 ∃dt,hat H9 rA=some (vp dt)/\
 gD.C dt wv H9 (λew dp=> ∃k,ew=vi k/\
 if k=2 then(
 ∃du,hat dp rA=some (vp du)/\
 fO.C du wv dp (λe4 et=> ∃ra bt,e4=.tuple #[.string ra,vi bt]/\
 (aF et (ad b) 0 6)/\ ∀el,el=aL et (ad b) (DR 5 0 false none 0 0 ra none 0 0) 0->
 ∃cl d2 cj bp bg bu d4 cz c8 di,aI el (ad b) 0 (DR cl d2 cj bp bg bu d4 cz c8 di)/\
 R (.tuple #[.agg (DR cl d2 cj bp bg bu d4 cz c8 di).toArray,vi bt]) el))
 else
 if k=4 then(
 ∃dq,hat dp rA=some (vp dq)/\
 jk.C dq wv dp (λey en=> ∃a7 bi,ey=.tuple #[.string a7,vi bi]/\
 (aF en (ad b) 0 6)/\ ∀ee,ee=aL en (ad b) (DR 6 0 false none 0 0 a7 none 0 0) 0->
 ∃ch d5 b9 be bd ba d6 c4 dc c6,aI ee (ad b) 0 (DR ch d5 b9 be bd ba d6 c4 dc c6)/\
 R (.tuple #[.agg (DR ch d5 b9 be bd ba d6 c4 dc c6).toArray,vi bi]) ee))
 else
 if k=1 then(
 dJ.C (some rA) wv a dp (λe8 er=> ∃o ay p j d e a1 al af ai b1,e8=.tuple #[.agg (DR o ay p j d e a1 al af ai).toArray,vi b1]/\
 (aF er (ad b) 0 6)/\ ∀eg,eg=aL er (ad b) (DR o ay p j d e a1 al af ai) 0->
 ∃b5 eb b8 bq a5 br ec c5 db da,aI eg (ad b) 0 (DR b5 eb b8 bq a5 br ec c5 db da)/\
 R (.tuple #[.agg (DR b5 eb b8 bq a5 br ec c5 db da).toArray,vi b1]) eg))
 else
 fF.C wv dp (λex dw=> ∃cv,ex=vi cv/\
 if cv=1 then(
 ∃dv,hat dw rA=some (vp dv)/\
 fG.C dv wv dw (λe3 ei=> ∃cm,e3=.bool cm/\
 if cm=true then(
 eC.C (some rA) wv a ei (λev eo=> ∃q a0 m f i g ax ag aj ae b0,ev=.tuple #[.agg (DR q a0 m f i g ax ag aj ae).toArray,vi b0]/\
 (aF eo (ad b) 0 6)/\ ∀ef,ef=aL eo (ad b) (DR q a0 m f i g ax ag aj ae) 0->
 ∃b6 dy cd bf a9 bj ea cy dl dm,aI ef (ad b) 0 (DR b6 dy cd bf a9 bj ea cy dl dm)/\
 R (.tuple #[.agg (DR b6 dy cd bf a9 bj ea cy dl dm).toArray,vi b0]) ef))
 else
 (aF ei (ad b) 0 6)/\ ∀ej,ej=aL ei (ad b) GK 0->
 ∃b2 d8 ci a3 bb bz d0 c1 dj de,aI ej (ad b) 0 (DR b2 d8 ci a3 bb bz d0 c1 dj de)/\
 R (.tuple #[.agg (DR b2 d8 ci a3 bb bz d0 c1 dj de).toArray,vi 3]) ej))
 else
 (aF dw (ad b) 0 6)/\ ∀eh,eh=aL dw (ad b) GK 0->
 ∃cg dx b3 bs bx bk d7 df dk c0,aI eh (ad b) 0 (DR cg dx b3 bs bx bk d7 df dk c0)/\
 R (.tuple #[.agg (DR cg dx b3 bs bx bk d7 df dk c0).toArray,vi 3]) eh)))))
 else
 (aF H2 (ad b) 0 6)/\ ∀ek,ek=aL H2 (ad b) GK 0->
 ∃ce d3 cc a6 bn bw d9 dn c2 cw,aI ek (ad b) 0 (DR ce d3 cc a6 bn bw d9 dn c2 cw)/\
 R (.tuple #[.agg (DR ce d3 cc a6 bn bw d9 dn c2 cw).toArray,vi x]) ek)
theorem cM.link(h:pt a d g H b):C a d g H b:=by
 refine l2 K0 104 func29 ?_;intro w0 Q hQ;unfold pt at h;refine ki [(0,vp a),(1,vu d),(2,vi g)]<|ar 0<|l1 (some 6) (λR=>vp (pa R)) (.cells GK.toArray 27)<|λR H1 e1 e2=>have h:=h R H1 e1 e2;im [] [(6,vp (pa R))]<|gi 1 [] []<|gv<|ar 1<|fd 1 [] [(17,vp a)]<|l5 18 [17] h λx H2 h=>gi 1 [18] [(8,vi x)]<|ar 2<|gi 2 [] [(20,.bool (x !=0))]<|jn h (λc3 h=>?_) (λc3 h=>?_)
 ·refine aG 20 (Em.mpr c3)<|kT<|gv<|ar 4<|fd 1 [8,20] [(24,vu d)]<|Bs (some 25) h ?_;clear h;rintro e0 H3 ⟨ac,cn,aa,u,t,s,cq,bo,a4,bl,rb,rfl,h⟩;refine im [24] [(25,.tuple #[.agg (DR ac cn aa u t s cq bo a4 bl).toArray,.bool rb])]<|fd 3 [25] [(26,.agg (DR ac cn aa u t s cq bo a4 bl).toArray),(27,.bool rb)]<|l1 (some 9) (λR=>vp (pa R)) (.cells GK.toArray 27)<|λap H4 e5 e6=>have h:=h ap H4 e5 e6;im [] [(9,vp (pa ap))]<|have⟨q8,h⟩:=h;bF 27 (DR ac cn aa u t s cq bo a4 bl) q8<|λH5 e7=>have h:=h H5 e7;im [26] []<|gi 1 [27] [(10,.bool rb)]<|ar 5<|gi 1 [10] [(28,.bool rb)]<|jn h (λc9 h=>?_) (λc9 h=>?_)
  ·refine aH 28 c9<|ar 6<|p0 [0,1,2,28] []<|have⟨az,xC,a2,ah,ak,am,xT,ct,cu,cs,q11,h⟩:=h;na 29 27 q11 [9]<|have⟨q13,h⟩:=h;bF 27 (DR az xC a2 ah ak am xT ct cu cs) q13<|λH6 e12=>have h:=h H6 e12;im [29] []<|gi 1 [] [(7,vi 0)]<|zx ?_;show At _ _ _ _ _ (Q .ret);exact have⟨cx,rC,c7,co,cr,cp,rT,es,ep,eu,q14,h⟩:=h;bY (fn:=f29) [.agg (DR cx rC c7 co cr cp rT es ep eu).toArray,vi 0] hQ (show bG _ _ _ [.cell 6 27,.tmp 7] _ from .cell GE (aR Et Et q14) (.tmp GE (.nil))) h
  refine aG 28 (zZ c9)<|kT<|gv<|ar 7<|fd 1 [9,28] [(31,vp a)] ?_;obtain⟨rA,rfl,ha⟩:=h;refine fd 2 [0,31] [(0,Vq rA),(33,Vq rA)]<|have⟨dr,q15,h⟩:=ha;hV 34 31 q15 [33]<|fd 1 [] [(35,vu d)]<|Cm 36 [34,35] h λaw z ab y an H7 h=>fd 3 [36] [(37,.agg #[.bool aw,vs z ab y]),(38,vi an)]<|l1 (some 11) (λR=>vp (pa R)) (.cells #[VF,VN] 24)<|λao H8 e16 e17=>have h:=h ao H8 e16 e17;im [] [(11,vp (pa ao))]<|have⟨q19,h⟩:=h;bF 24 [.bool aw,vs z ab y] q19<|λH9 e18=>have h:=h H9 e18;im [37] []<|gi 1 [38] [(12,vi an)]<|ar 8<|gi 2 [12] [(40,.bool (an==0))]<|jn h (λc20 h=>?_) (λc20 h=>?_)
  ·refine aH 40 (zK c20)<|ar 9<|p0 [0,1,2,40] []<|have⟨a8,au,aq,av,q22,h⟩:=h;na 41 24 q22 [11]<|fd 1 [41] [(42,.agg (DR 4 0 a8 au aq av (ByteArray.mk #[]) none 0 0).toArray)]<|have⟨q24,h⟩:=h;bF 27 (DR 4 0 a8 au aq av (ByteArray.mk #[]) none 0 0) q24<|λem e23=>have h:=h em e23;im [42] []<|gi 1 [] [(7,vi 0)]<|zx ?_;show At _ _ _ _ _ (Q .ret);exact have⟨b7,d1,ck,bc,bh,bm,dz,dh,dg,dd,q25,h⟩:=h;bY (fn:=f29) [.agg (DR b7 d1 ck bc bh bm dz dh dg dd).toArray,vi 0] hQ (show bG _ _ _ [.cell 6 27,.tmp 7] _ from .cell GE (aR Et Et q25) (.tmp GE (.nil))) h
  refine aG 40 (zJ c20)<|kT<|gv<|ar 10<|fd 3 [11,40] [(45,Vq rA)]<|have⟨dt,q26,h⟩:=h;hV 46 31 q26 [45]<|fd 1 [] [(47,vu d)]<|l5 48 [46,47] h λk dp h=>ue<|k5 0<|ar 11<|gi 2 [] [(49,.bool (k==2))]<|jn h (λc27 h=>?_) (λc27 h=>?_)
  ·refine aH 49 (zK c27)<|ar 12<|fd 3 [0,2,48,49] [(54,Vq rA)]<|have⟨du,q29,h⟩:=h;hV 55 31 q29 [54]<|fd 1 [1] [(56,vu d)]<|vr 57 [55,56] h λra bt et h=>gi 5 [57] [(13,.string ra),(14,vi bt)]<|ar 13<|fd 3 [13,14] [(61,.agg (DR 5 0 false none 0 0 ra none 0 0).toArray),(62,vi bt)]<|have⟨q31,h⟩:=h;bF 27 (DR 5 0 false none 0 0 ra none 0 0) q31<|λel e30=>have h:=h el e30;im [61] []<|gi 1 [62] [(7,vi bt)]<|zx ?_;show At _ _ _ _ _ (Q .ret);exact have⟨cl,d2,cj,bp,bg,bu,d4,cz,c8,di,q32,h⟩:=h;bY (fn:=f29) [.agg (DR cl d2 cj bp bg bu d4 cz c8 di).toArray,vi bt] hQ (show bG _ _ _ [.cell 6 27,.tmp 7] _ from .cell GE (aR Et Et q32) (.tmp GE (.nil))) h
  refine aG 49 (zJ c27)<|ar 14<|gi 2 [49] [(63,.bool (k==4))]<|jn h (λc33 h=>?_) (λc33 h=>?_)
  ·refine aH 63 (zK c33)<|ar 15<|fd 3 [0,2,48,63] [(68,Vq rA)]<|have⟨dq,q35,h⟩:=h;hV 69 31 q35 [68]<|fd 1 [1] [(70,vu d)]<|vr 71 [69,70] h λa7 bi en h=>gi 5 [71] [(15,.string a7),(16,vi bi)]<|ar 16<|fd 3 [15,16] [(75,.agg (DR 6 0 false none 0 0 a7 none 0 0).toArray),(76,vi bi)]<|have⟨q37,h⟩:=h;bF 27 (DR 6 0 false none 0 0 a7 none 0 0) q37<|λee e36=>have h:=h ee e36;im [75] []<|gi 1 [76] [(7,vi bi)]<|zx ?_;show At _ _ _ _ _ (Q .ret);exact have⟨ch,d5,b9,be,bd,ba,d6,c4,dc,c6,q38,h⟩:=h;bY (fn:=f29) [.agg (DR ch d5 b9 be bd ba d6 c4 dc c6).toArray,vi bi] hQ (show bG _ _ _ [.cell 6 27,.tmp 7] _ from .cell GE (aR Et Et q38) (.tmp GE (.nil))) h
  refine aG 63 (zJ c33)<|ar 17<|gi 2 [48,63] [(77,.bool (k==1))]<|jn h (λc39 h=>?_) (λc39 h=>?_)
  ·refine aH 77 (zK c39)<|ar 18<|nb 3 [(6,vp (pa R)),(79,Vq rA),(80,vu d),(81,vi g)]<|Bs (some 82) h ?_;clear h;rintro e8 er ⟨o,ay,p,j,wv,e,a1,al,af,ai,b1,rfl,h⟩;refine im [79,80,81] [(82,.tuple #[.agg (DR o ay p j wv e a1 al af ai).toArray,vi b1])]<|fd 2 [82] [(83,.agg (DR o ay p j wv e a1 al af ai).toArray),(84,vi b1)]<|have⟨q42,h⟩:=h;bF 27 (DR o ay p j wv e a1 al af ai) q42<|λeg e41=>have h:=h eg e41;im [83] []<|gi 1 [84] [(7,vi b1)]<|zx ?_;show At _ _ _ _ _ (Q .ret);exact have⟨b5,eb,b8,bq,a5,br,ec,c5,db,da,q43,h⟩:=h;bY (fn:=f29) [.agg (DR b5 eb b8 bq a5 br ec c5 db da).toArray,vi b1] hQ (show bG _ _ _ [.cell 6 27,.tmp 7] _ from .cell GE (aR Et Et q43) (.tmp GE (.nil))) h
  refine aG 77 (zJ c39)<|Bn<|aD<|aE<|gv<|ar 19<|fd 1 [77] [(85,vu d)]<|l5 86 [85] h λcv dw h=>fd 2 [86] [(88,.bool (cv !=1))]<|jn h (λc44 h=>?_) (λc44 h=>?_)
  ·refine kc 88 (Em.mpr c44)<|fd 3 [] [(91,Vq rA)]<|have⟨dv,q46,h⟩:=h;hV 92 31 q46 [91]<|fd 1 [] [(93,vu d)]<|l5 94 [92,93] h λcm ei h=>gi 2 [88,94] [(96,.bool (!cm))]<|jn h (λc47 h=>?_) (λc47 h=>?_)
   ·refine aG 96 (Eg Bool.not (c47))<|kT<|ar 21<|nb 3 [(6,vp (pa R)),(98,Vq rA),(99,vu d),(100,vi g)]<|Bs (some 101) h ?_;clear h;rintro ev eo ⟨q,a0,m,f,i,r,ax,ag,aj,ae,b0,rfl,h⟩;refine⟨[(6,vp (pa R)),(101,.tuple #[.agg (DR q a0 m f i r ax ag aj ae).toArray,vi b0])],pk,?_⟩;refine fd 2 [101] [(102,.agg (DR q a0 m f i r ax ag aj ae).toArray),(103,vi b0)]<|have⟨q50,h⟩:=h;bF 27 (DR q a0 m f i r ax ag aj ae) q50<|λef e49=>have h:=h ef e49;im [102] []<|gi 1 [103] [(7,vi b0)]<|zx ?_;show At _ _ _ _ _ (Q .ret);exact have⟨b6,dy,cd,bf,a9,bj,ea,cy,dl,dm,q51,h⟩:=h;bY (fn:=f29) [.agg (DR b6 dy cd bf a9 bj ea cy dl dm).toArray,vi b0] hQ (show bG _ _ _ [.cell 6 27,.tmp 7] _ from .cell GE (aR Et Et q51) (.tmp GE (.nil))) h
   refine aH 96 (Eg Bool.not (zZ c47))<|ar 20<|nb 1 [(6,vp (pa R)),(97,.agg GK.toArray)]<|have⟨q53,h⟩:=h;bF 27 GK q53<|λej e52=>have h:=h ej e52;im [97] []<|gi 1 [] [(7,vi 3)]<|zx ?_;show At _ _ _ _ _ (Q .ret);exact have⟨b2,d8,ci,a3,bb,bz,d0,c1,dj,de,q54,h⟩:=h;bY (fn:=f29) [.agg (DR b2 d8 ci a3 bb bz d0 c1 dj de).toArray,vi 3] hQ (show bG _ _ _ [.cell 6 27,.tmp 7] _ from .cell GE (aR Et Et q54) (.tmp GE (.nil))) h
  refine kc 88 (En.mpr c44)<|gi 8 [88] [(96,VT)]<|l7 96<|ar 20<|nb 1 [(6,vp (pa R)),(97,.agg GK.toArray)]<|have⟨q56,h⟩:=h;bF 27 GK q56<|λeh e55=>have h:=h eh e55;im [97] []<|gi 1 [] [(7,vi 3)]<|zx ?_;show At _ _ _ _ _ (Q .ret);exact have⟨cg,dx,b3,bs,bx,bk,d7,df,dk,c0,q57,h⟩:=h;bY (fn:=f29) [.agg (DR cg dx b3 bs bx bk d7 df dk c0).toArray,vi 3] hQ (show bG _ _ _ [.cell 6 27,.tmp 7] _ from .cell GE (aR Et Et q57) (.tmp GE (.nil))) h
 refine aH 20 (En.mpr c3)<|ar 3<|nb 2 [(6,vp (pa R)),(21,.agg GK.toArray),(22,vi x)]<|have⟨q59,h⟩:=h;bF 27 GK q59<|λek e58=>have h:=h ek e58;im [21] []<|gi 1 [22] [(7,vi x)]<|zx ?_;show At _ _ _ _ _ (Q .ret);exact have⟨ce,d3,cc,a6,bn,bw,d9,dn,c2,cw,q60,h⟩:=h;bY (fn:=f29) [.agg (DR ce d3 cc a6 bn bw d9 dn c2 cw).toArray,vi x] hQ (show bG _ _ _ [.cell 6 27,.tmp 7] _ from .cell GE (aR Et Et q60) (.tmp GE (.nil))) h
def eO.K0:=GC f57
def eO.pt(r:zW):GJ:=λH R=>
 ∃rA,r=some rA/\
 ∃x,hat H (rA.add 1)=some (vi x)/\
 (aF H (rA.add 1) 0 1)/\ ∀H1,H1=aL H (rA.add 1) [vi (zY (x+1))] 0->
 ∃a,hat H1 (rA.add 1)=some (vi a)/\
 if a>4096 then(
 R (vi 6) H1)
 else
 R (vi 0) H1
theorem eO.link(h:pt a H b):C a H b:=by
 refine l2 K0 15 func57 ?_;intro w0 Q hQ;unfold pt zY at h;refine ki [(0,vp a)]<|ar 0<|gi 1 [] []<|ar 1<|fd 1 [] [(3,vp a)] ?_;obtain⟨rA,rfl,ha⟩:=h;refine nb 2 [(0,Vq rA),(3,Vq rA),(5,Vq (rA.add 1))]<|have⟨x,q1,h⟩:=ha;hV 6 3 q1 [5]<|fd 3 [3,6] [(7,vi (zY (x+1))),(9,Vq (rA.add 1))]<|have⟨q3,h⟩:=h;fj 3 (vi (zY (x+1))) q3<|λH1 e2=>have h:=h H1 e2;im [7,9] []<|ue<|gv<|ar 2<|nb 3 [(12,Vq (rA.add 1))]<|have⟨R,q4,h⟩:=h;hV 13 3 q4 [12]<|nx 1 [(14,.bool (decide (R>4096)))]<|jn h (λc5 h=>?_) (λc5 h=>?_)
 ·exact aH 14 (zX c5)<|ar 3<|hH 1 [2] [vi 6] hQ h
 exact aG 14 (zQ c5)<|kT<|ar 4<|hH 1 [2] [vi 0] hQ h
end Go.Proofs.YtillhdiiglamhaaGreatDoor
namespace Go.Proofs.YtillhdiiglamhaaGreatDoor
open Go Go.Proofs.Tryz
variable{a:Int}{H:zV}{b:zk}
def fT.K0:=GC f58
def fT.pt(wv:Int):GJ:=λH R=>
 ∀b H1,b=H.size->H1=H.push (.cells GK.toArray 27)->
 ∀a H2,a=H1.size->H2=H1.push (.cells GK.toArray 27)->
 (aF H2 (ad a) 0 6)/\ ∀H3,H3=aL H2 (ad a) GK 0->
 if wv=12 then(
 (aF H3 (ad a) 0 1)/\ ∀H4,H4=aL H3 (ad a) [vi 1] 0->
 ∃aw xC bc an ao ap xT ct cu cs,aI H4 (ad a) 0 (DR aw xC bc an ao ap xT ct cu cs)/\
 (aF H4 (ad b) 0 6)/\ ∀H5,H5=aL H4 (ad b) (DR aw xC bc an ao ap xT ct cu cs) 0->
 ∃cw rC c3 cp cr cq rT d3 d2 d4,aI H5 (ad b) 0 (DR cw rC c3 cp cr cq rT d3 d2 d4)/\
 R (.tuple #[.agg (DR cw rC c3 cp cr cq rT d3 d2 d4).toArray,VT]) H5)
 else
 if wv=4 then(
 (aF H3 (ad a) 0 1)/\ ∀H6,H6=aL H3 (ad a) [vi 2] 0->
 ∃aj b9 al q g r bz az ba a7,aI H6 (ad a) 0 (DR aj b9 al q g r bz az ba a7)/\
 (aF H6 (ad b) 0 6)/\ ∀H7,H7=aL H6 (ad b) (DR aj b9 al q g r bz az ba a7) 0->
 ∃cg dn cn bi bn bp dl dc db c9,aI H7 (ad b) 0 (DR cg dn cn bi bn bp dl dc db c9)/\
 R (.tuple #[.agg (DR cg dn cn bi bn bp dl dc db c9).toArray,VT]) H7)
 else
 if wv=36 then(
 (aF H3 (ad a) 0 1)/\ ∀H8,H8=aL H3 (ad a) [vi 9] 0->
 ∃ak b4 af u e p b6 a1 a5 a8,aI H8 (ad a) 0 (DR ak b4 af u e p b6 a1 a5 a8)/\
 (aF H8 (ad b) 0 6)/\ ∀H9,H9=aL H8 (ad b) (DR ak b4 af u e p b6 a1 a5 a8) 0->
 ∃co dp cm bq bm bt dq cy c4 dd,aI H9 (ad b) 0 (DR co dp cm bq bm bt dq cy c4 dd)/\
 R (.tuple #[.agg (DR co dp cm bq bm bt dq cy c4 dd).toArray,VT]) H9)
 else
 if wv=28 then(
 (aF H3 (ad a) 0 1)/\ ∀di,di=aL H3 (ad a) [vi 10] 0->
 ∃am b5 ah x d f bx av a4 a2,aI di (ad a) 0 (DR am b5 ah x d f bx av a4 a2)/\
 (aF di (ad b) 0 6)/\ ∀dy,dy=aL di (ad b) (DR am b5 ah x d f bx av a4 a2) 0->
 ∃ck dr ci bk bj bg dt c0 c8 c2,aI dy (ad b) 0 (DR ck dr ci bk bj bg dt c0 c8 c2)/\
 R (.tuple #[.agg (DR ck dr ci bk bj bg dt c0 c8 c2).toArray,VT]) dy)
 else
 if wv=20 then(
 ∃ag b1 ae o j s bw a9 a6 ay,aI H3 (ad a) 0 (DR ag b1 ae o j s bw a9 a6 ay)/\
 (aF H3 (ad b) 0 6)/\ ∀d1,d1=aL H3 (ad b) (DR ag b1 ae o j s bw a9 a6 ay) 0->
 ∃cd dw ch br be bs dx c1 c6 c5,aI d1 (ad b) 0 (DR cd dw ch br be bs dx c1 c6 c5)/\
 R (.tuple #[.agg (DR cd dw ch br be bs dx c1 c6 c5).toArray,VT]) d1)
 else
 jJ.C wv H3 (λv cv=> ∃ra rb,v=.tuple #[.int .i32 ra,.bool rb]/\
 if rb=true then(
 (aF cv (ad a) 0 1)/\ ∀dj,dj=aL cv (ad a) [vi 3] 0->
 (aF dj ((ad a).add 1) 0 1)/\ ∀dh,dh=aL dj ((ad a).add 1) [.int .i32 ra] 0->
 ∃ac b7 ab i y z b0 bb au a3,aI dh (ad a) 0 (DR ac b7 ab i y z b0 bb au a3)/\
 (aF dh (ad b) 0 6)/\ ∀d0,d0=aL dh (ad b) (DR ac b7 ab i y z b0 bb au a3) 0->
 ∃ce dk cj bl bf bo dv cx df dg,aI d0 (ad b) 0 (DR ce dk cj bl bf bo dv cx df dg)/\
 R (.tuple #[.agg (DR ce dk cj bl bf bo dv cx df dg).toArray,VT]) d0)
 else
 ∃ai b2 aa m t k b3 a0 ax aq,aI cv (ad a) 0 (DR ai b2 aa m t k b3 a0 ax aq)/\
 (aF cv (ad b) 0 6)/\ ∀dz,dz=aL cv (ad b) (DR ai b2 aa m t k b3 a0 ax aq) 0->
 ∃cc du cl bd bh bu dm cz de da,aI dz (ad b) 0 (DR cc du cl bd bh bu dm cz de da)/\
 R (.tuple #[.agg (DR cc du cl bd bh bu dm cz de da).toArray,VF]) dz)
theorem fT.link(h:pt a H b):C a H b:=by
 refine l2 K0 35 func58 ?_;intro w0 Q hQ;unfold pt at h;refine ki [(0,vu a)]<|ar 0<|l1 (some 2) (λwv=>vp (pa wv)) (.cells GK.toArray 27)<|λwv H1 e1 e2=>have h:=h wv H1 e1 e2;im [] [(2,vp (pa wv))]<|gi 1 [] []<|ar 1<|fd 1 [] [(7,.agg GK.toArray)]<|l1 (some 4) (λwv=>vp (pa wv)) (.cells GK.toArray 27)<|λR H2 e3 e4=>have h:=h R H2 e3 e4;im [] [(4,vp (pa R))]<|have⟨q6,h⟩:=h;bF 27 GK q6<|λH3 e5=>have h:=h H3 e5;im [7] []<|ue<|gv<|ar 2<|gi 1 [] [(8,vu a)]<|k5 0<|ar 7<|gi 2 [] [(20,.bool (a==12))]<|jn h (λc7 h=>?_) (λc7 h=>?_)
 ·refine aH 20 (zK c7)<|k4 8<|fd 1 [0,8,20] [(22,vp (pa R))]<|have⟨q10,h⟩:=h;fj 3 (vi 1) q10<|λH4 e9=>have h:=h H4 e9;im [22] []<|zq<|aD<|aE<|ar 16<|have⟨aw,xC,bc,an,ao,ap,xT,ct,cu,cs,q11,h⟩:=h;na 34 27 q11 [4]<|have⟨q13,h⟩:=h;bF 27 (DR aw xC bc an ao ap xT ct cu cs) q13<|λH5 e12=>have h:=h H5 e12;im [34] []<|gi 1 [] [(3,VT)]<|zx ?_;show At _ _ _ _ _ (Q .ret);exact have⟨cw,rC,c3,cp,cr,cq,rT,d3,d2,d4,q14,h⟩:=h;bY (fn:=f58) [.agg (DR cw rC c3 cp cr cq rT d3 d2 d4).toArray,VT] hQ (show bG _ _ _ [.cell 2 27,.tmp 3] _ from .cell GE (aR Et Et q14) (.tmp GE (.nil))) h
 refine aG 20 (zJ c7)<|ar 9<|gi 2 [20] [(23,.bool (a==4))]<|jn h (λc15 h=>?_) (λc15 h=>?_)
 ·refine aH 23 (zK c15)<|k4 10<|fd 1 [0,8,23] [(25,vp (pa R))]<|have⟨q18,h⟩:=h;fj 3 (vi 2) q18<|λH6 e17=>have h:=h H6 e17;im [25] []<|zq<|aD<|aE<|ar 16<|have⟨aj,b9,al,q,g,r,bz,az,ba,a7,q19,h⟩:=h;na 34 27 q19 [4]<|have⟨q21,h⟩:=h;bF 27 (DR aj b9 al q g r bz az ba a7) q21<|λH7 e20=>have h:=h H7 e20;im [34] []<|gi 1 [] [(3,VT)]<|zx ?_;show At _ _ _ _ _ (Q .ret);exact have⟨cg,dn,cn,bi,bn,bp,dl,dc,db,c9,q22,h⟩:=h;bY (fn:=f58) [.agg (DR cg dn cn bi bn bp dl dc db c9).toArray,VT] hQ (show bG _ _ _ [.cell 2 27,.tmp 3] _ from .cell GE (aR Et Et q22) (.tmp GE (.nil))) h
 refine aG 23 (zJ c15)<|ar 11<|gi 2 [23] [(26,.bool (a==36))]<|jn h (λc23 h=>?_) (λc23 h=>?_)
 ·refine aH 26 (zK c23)<|k4 12<|fd 1 [0,8,26] [(28,vp (pa R))]<|have⟨q26,h⟩:=h;fj 3 (vi 9) q26<|λH8 e25=>have h:=h H8 e25;im [28] []<|zq<|aD<|aE<|ar 16<|have⟨ak,b4,af,u,e,p,b6,a1,a5,a8,q27,h⟩:=h;na 34 27 q27 [4]<|have⟨q29,h⟩:=h;bF 27 (DR ak b4 af u e p b6 a1 a5 a8) q29<|λH9 e28=>have h:=h H9 e28;im [34] []<|gi 1 [] [(3,VT)]<|zx ?_;show At _ _ _ _ _ (Q .ret);exact have⟨co,dp,cm,bq,bm,bt,dq,cy,c4,dd,q30,h⟩:=h;bY (fn:=f58) [.agg (DR co dp cm bq bm bt dq cy c4 dd).toArray,VT] hQ (show bG _ _ _ [.cell 2 27,.tmp 3] _ from .cell GE (aR Et Et q30) (.tmp GE (.nil))) h
 refine aG 26 (zJ c23)<|ar 13<|gi 2 [26] [(29,.bool (a==28))]<|jn h (λc31 h=>?_) (λc31 h=>?_)
 ·refine aH 29 (zK c31)<|k4 14<|fd 1 [0,8,29] [(31,vp (pa R))]<|have⟨q34,h⟩:=h;fj 3 (vi 10) q34<|λdi e33=>have h:=h di e33;im [31] []<|zq<|aD<|aE<|ar 16<|have⟨am,b5,ah,x,d,f,bx,av,a4,a2,q35,h⟩:=h;na 34 27 q35 [4]<|have⟨q37,h⟩:=h;bF 27 (DR am b5 ah x d f bx av a4 a2) q37<|λdy e36=>have h:=h dy e36;im [34] []<|gi 1 [] [(3,VT)]<|zx ?_;show At _ _ _ _ _ (Q .ret);exact have⟨ck,dr,ci,bk,bj,bg,dt,c0,c8,c2,q38,h⟩:=h;bY (fn:=f58) [.agg (DR ck dr ci bk bj bg dt c0 c8 c2).toArray,VT] hQ (show bG _ _ _ [.cell 2 27,.tmp 3] _ from .cell GE (aR Et Et q38) (.tmp GE (.nil))) h
 refine aG 29 (zJ c31)<|ar 15<|gi 2 [8,29] [(32,.bool (a==20))]<|jn h (λc39 h=>?_) (λc39 h=>?_)
 ·refine aH 32 (zK c39)<|Bn<|aD<|aE<|ar 16<|p0 [0,32] []<|have⟨ag,b1,ae,o,j,s,bw,a9,a6,ay,q41,h⟩:=h;na 34 27 q41 [4]<|have⟨q43,h⟩:=h;bF 27 (DR ag b1 ae o j s bw a9 a6 ay) q43<|λd1 e42=>have h:=h d1 e42;im [34] []<|gi 1 [] [(3,VT)]<|zx ?_;show At _ _ _ _ _ (Q .ret);exact have⟨cd,dw,ch,br,be,bs,dx,c1,c6,c5,q44,h⟩:=h;bY (fn:=f58) [.agg (DR cd dw ch br be bs dx c1 c6 c5).toArray,VT] hQ (show bG _ _ _ [.cell 2 27,.tmp 3] _ from .cell GE (aR Et Et q44) (.tmp GE (.nil))) h
 refine aG 32 (zJ c39)<|ar 3<|fd 1 [0,32] [(10,vu a)]<|vr 11 [10] h λra rb cv h=>gi 5 [11] [(5,.int .i32 ra),(6,.bool rb)]<|gv<|ar 4<|gi 2 [6] [(15,.bool (!rb))]<|jn h (λc45 h=>?_) (λc45 h=>?_)
 ·refine aG 15 (Eg Bool.not (c45))<|kT<|k4 6<|fd 2 [5,15] [(17,.int .i32 ra),(18,vp (pa R))]<|have⟨q48,h⟩:=h;fj 3 (vi 3) q48<|λdj e47=>have h:=h dj e47;im [18] []<|fd 1 [] [(19,Vq ((ad R).add 1))]<|have⟨q50,h⟩:=h;fj 21 (.int .i32 ra) q50<|λdh e49=>have h:=h dh e49;im [17,19] []<|zq<|aD<|aE<|ar 16<|have⟨ac,b7,ab,i,y,z,b0,bb,au,a3,q51,h⟩:=h;na 34 27 q51 [4]<|have⟨q53,h⟩:=h;bF 27 (DR ac b7 ab i y z b0 bb au a3) q53<|λd0 e52=>have h:=h d0 e52;im [34] []<|gi 1 [] [(3,VT)]<|zx ?_;show At _ _ _ _ _ (Q .ret);exact have⟨ce,dk,cj,bl,bf,bo,dv,cx,df,dg,q54,h⟩:=h;bY (fn:=f58) [.agg (DR ce dk cj bl bf bo dv cx df dg).toArray,VT] hQ (show bG _ _ _ [.cell 2 27,.tmp 3] _ from .cell GE (aR Et Et q54) (.tmp GE (.nil))) h
 refine aH 15 (Eg Bool.not (zZ c45))<|ar 5<|p0 [5,15] []<|have⟨ai,b2,aa,m,t,k,b3,a0,ax,aq,q55,h⟩:=h;na 16 27 q55 [4]<|have⟨q57,h⟩:=h;bF 27 (DR ai b2 aa m t k b3 a0 ax aq) q57<|λdz e56=>have h:=h dz e56;im [16] []<|gi 1 [] [(3,VF)]<|zx ?_;show At _ _ _ _ _ (Q .ret);exact have⟨cc,du,cl,bd,bh,bu,dm,cz,de,da,q58,h⟩:=h;bY (fn:=f58) [.agg (DR cc du cl bd bh bu dm cz de da).toArray,VF] hQ (show bG _ _ _ [.cell 2 27,.tmp 3] _ from .cell GE (aR Et Et q58) (.tmp GE (.nil))) h
namespace dJ
def K0:=GC f63
def K2:=cb K0
def K4:=cb K2
def K6:=cb K4
def BK:=ca K6
def BF:=cb BK
def Bu:=ca BF
def BZ:=ca Bu
end dJ
def dJ.pt(r:zW)(wv a:Int):GJ:=λH R=>
 ∀b H1,b=H.size->H1=H.push (.cells GK.toArray 27)->
 ∀d H2,d=H1.size->H2=H1.push (.cells GK.toArray 27)->
 (aF H2 (ad d) 0 6)/\ ∀H3,H3=aL H2 (ad d) (DR 8 0 false none 0 0 (ByteArray.mk #[]) none 0 0) 0->
 if a=64 then(
 ∃av xC ay ai aj ak xT bt bu bs,aI H3 (ad d) 0 (DR av xC ay ai aj ak xT bt bu bs)/\
 (aF H3 (ad b) 0 6)/\ ∀H4,H4=aL H3 (ad b) (DR av xC ay ai aj ak xT bt bu bs) 0->
 ∃bw rC bz bm bp bn rT cl ck cn,aI H4 (ad b) 0 (DR bw rC bz bm bp bn rT cl ck cn)/\
 R (.tuple #[.agg (DR bw rC bz bm bp bn rT cl ck cn).toArray,vi 10]) H4)
 else
 ∃rA,r=some rA/\
 ∃x,hat H3 rA=some (vp x)/\
 hU.C x wv H3 (λv H5=> ∃f,v=vi f/\
 ∃(cj:zv) (m19:Int->zV->Nat),cj 0 H5/\ ∀e H6,cj e H6->
 if e<f then(
 ∃b6,hat H6 rA=some (vp b6)/\
 gG.C b6 wv 1 e H6 (λcp H7=> ∃ra rb,cp=.tuple #[vu ra,vi rb]/\
 cM.C (some rA) ra (zY (a+1)) H7 (λco H8=> ∃ac bl ab y t s bo a9 az a3 g,co=.tuple #[.agg (DR ac bl ab y t s bo a9 az a3).toArray,vi g]/\
 ∀ah H9,ah=H8.size->H9=H8.push (.cells GK.toArray 27)->
 (aF H9 (ad ah) 0 6)/\ ∀bd,bd=aL H9 (ad ah) (DR ac bl ab y t s bo a9 az a3) 0->
 if g=0 then(
 ∃xB xN bc,hat bd ((ad d).add 5)=some (vs xB xN bc)/\
 ∃ao br aq af ae ag bq bf bi bh,aI bd (ad ah) 0 (DR ao br aq af ae ag bq bf bi bh)/\
 ∀b7 H11,b7=bd.size->H11=bd.push (.cells (DR ao br aq af ae ag bq bf bi bh).toArray 27)->
 dY 6 27 88 GK xB xN bc (some (ad b7)) 1 H11 (λap b5 cm=>
 (aF cm ((ad d).add 5) 0 1)/\ ∀ci,ci=aL cm ((ad d).add 5) [vs ap (xN+1) b5] 0->
 (cj (zY (e+1)) ci/\m19 (zY (e+1)) ci<m19 e H6)))
 else
 ∃u a5 q k i j a7 al am an,aI bd (ad d) 0 (DR u a5 q k i j a7 al am an)/\
 (aF bd (ad b) 0 6)/\ ∀cg,cg=aL bd (ad b) (DR u a5 q k i j a7 al am an) 0->
 ∃be cc bj a0 a2 a4 b9 b3 b2 b1,aI cg (ad b) 0 (DR be cc bj a0 a2 a4 b9 b3 b2 b1)/\
 R (.tuple #[.agg (DR be cc bj a0 a2 a4 b9 b3 b2 b1).toArray,vi g]) cg)))
 else
 ∃aa bb z p m o ba au ax aw,aI H6 (ad d) 0 (DR aa bb z p m o ba au ax aw)/\
 (aF H6 (ad b) 0 6)/\ ∀ch,ch=aL H6 (ad b) (DR aa bb z p m o ba au ax aw) 0->
 ∃bk cd bg a6 a1 a8 ce bx b0 b4,aI ch (ad b) 0 (DR bk cd bg a6 a1 a8 ce bx b0 b4)/\
 R (.tuple #[.agg (DR bk cd bg a6 a1 a8 ce bx b0 b4).toArray,vi 0]) ch)
theorem dJ.link{r:zW}{R:Int}(h:pt r a R H b):C r a R H b:=by
 refine l2 K0 57 func63 ?_;intro w0 Q hQ;unfold pt zY at h;refine ki [(0,vp r),(1,vu a),(2,vi R)]<|ar 0<|l1 (some 6) (λwv=>vp (pa wv)) (.cells GK.toArray 27)<|λwv H1 e1 e2=>have h:=h wv H1 e1 e2;im [] [(6,vp (pa wv))]<|gi 1 [] []<|ar 1<|fd 1 [] [(14,.agg (DR 8 0 false none 0 0 (ByteArray.mk #[]) none 0 0).toArray)]<|l1 (some 8) (λwv=>vp (pa wv)) (.cells GK.toArray 27)<|λd H2 e3 e4=>have h:=h d H2 e3 e4;im [] [(8,vp (pa d))]<|have⟨q6,h⟩:=h;bF 27 (DR 8 0 false none 0 0 (ByteArray.mk #[]) none 0 0) q6<|λH3 e5=>have h:=h H3 e5;im [14] []<|ue<|gv<|ar 2<|gi 2 [] [(16,.bool (R==64))]<|jn h (λc7 h=>?_) (λc7 h=>?_)
 ·refine aH 16 (zK c7)<|ar 3<|p0 [0,1,2,16] []<|have⟨av,xC,ay,ai,aj,ak,xT,bt,bu,bs,q9,h⟩:=h;na 17 27 q9 [8]<|have⟨q11,h⟩:=h;bF 27 (DR av xC ay ai aj ak xT bt bu bs) q11<|λH4 e10=>have h:=h H4 e10;im [17] []<|gi 1 [] [(7,vi 10)]<|zx ?_;show At _ _ _ _ _ (Q .ret);exact have⟨bw,rC,bz,bm,bp,bn,rT,cl,ck,cn,q12,h⟩:=h;bY (fn:=f63) [.agg (DR bw rC bz bm bp bn rT cl ck cn).toArray,vi 10] hQ (show bG _ _ _ [.cell 6 27,.tmp 7] _ from .cell GE (aR Et Et q12) (.tmp GE (.nil))) h
 refine aG 16 (zJ c7)<|kT<|gv<|ar 4<|fd 1 [16] [(18,vp r)] ?_;obtain⟨rA,rfl,ha⟩:=h;refine fd 2 [0,18] [(0,Vq rA),(20,Vq rA)]<|have⟨x,q13,h⟩:=ha;hV 21 31 q13 [20]<|fd 1 [] [(22,vu a)]<|l5 23 [21,22] h λf H5 h=>gi 1 [] [(24,vi 0)]<|k5 0<|have⟨cj,m19,i14,i15⟩:=h;bI (x:=BZ) (σ:=Int) (λs_=> [(0,Vq rA),(1,vu a),(2,vi R),(6,vp (pa wv)),(8,vp (pa d)),(23,vi f),(24,vi s_)]) (λs_ H=>cj s_ H) (λs_ H=>m19 s_ H) (0:Int) GE i14 sk ?_;rintro e H6 i16;have h:=i15 e H6 i16;refine ki [(0,Vq rA),(1,vu a),(2,vi R),(6,vp (pa wv)),(8,vp (pa d)),(23,vi f),(24,vi e)]<|ar 5<|gi 1 [] [(25,.bool (decide (e<f)))]<|gv<|jn h (λc17 h=>?_) (λc17 h=>?_)
 ·refine aH 25 (zX c17)<|kT<|gv<|k5 1<|ar 6<|gi 2 [25] [(9,vi e)]<|ar 7<|fd 3 [] [(30,Vq rA)] ?_;obtain⟨b6,q19,h⟩:=h;refine hV 31 31 q19 [30]<|fd 2 [9] [(32,vu a),(33,vi e)]<|vr 34 [31,32,33] h λra rb H7 h=>gi 5 [34] [(10,vu ra)]<|ar 8<|fd 4 [10] [(38,Vq rA),(39,vu ra),(41,vi (zY (R+1)))]<|Bs (some 42) h ?_;clear h;rintro co H8 ⟨ac,bl,ab,y,t,s,bo,a9,az,a3,g,rfl,h⟩;refine im [38,39,41] [(42,.tuple #[.agg (DR ac bl ab y t s bo a9 az a3).toArray,vi g])]<|fd 3 [42] [(43,.agg (DR ac bl ab y t s bo a9 az a3).toArray),(44,vi g)]<|l1 (some 12) (λwv=>vp (pa wv)) (.cells GK.toArray 27)<|λah H9 e20 e21=>have h:=h ah H9 e20 e21;im [] [(12,vp (pa ah))]<|have⟨q23,h⟩:=h;bF 27 (DR ac bl ab y t s bo a9 az a3) q23<|λbd e22=>have h:=h bd e22;im [43] []<|gi 1 [44] [(13,vi g)]<|gv<|ar 9<|gi 2 [] [(46,.bool (g !=0))]<|jn h (λc24 h=>?_) (λc24 h=>?_)
  ·refine aG 46 (Em.mpr c24)<|kT<|k4 11<|fd 1 [13,46] [(49,Vq ((ad d).add 5))]<|have⟨xB,xN,bc,q26,h⟩:=h;hV 50 25 q26 [49]<|have⟨ao,br,aq,af,ae,ag,bq,bf,bi,bh,q27,h⟩:=h;na 51 27 q27 [12]<|l1 (some 52) (λwv=>vs (pa wv) 1 1) (.cells (DR ao br aq af ae ag bq bf bi bh).toArray 27) ?_;intro b7 H11 e28 e29;replace h:=h b7 H11 e28 e29;refine im [51] [(52,vs (pa b7) 1 1)]<|xl (some 53) (eM #[25,25] 25 #[vs xB xN bc,vs (pa b7) 1 1]) _ Et (cT (T:=27) (sz:=6) (bytes:=88) (zero:=(.agg GK.toArray:Value)) EK EK rfl (show prog.info? 27=some t27 from GE) GE GE GG GE (by first | exact h | (simpa only[Value.cells,EI]using h))) ?_;clear h;rintro _ cm ⟨ap,b5,rfl,h⟩;exact im [50,52] [(53,vs ap (xN+1) b5)]<|fd 1 [] [(54,Vq ((ad d).add 5))]<|have⟨q31,h⟩:=h;fj 25 (vs ap (xN+1) b5) q31<|λci e30=>have h:=h ci e30;im [53,54] []<|zq<|aD<|aE<|k4 12<|gi 2 [24] [(24,vi (zY (e+1)))]<|aQ ((zY (e+1)):Int) sk h
  refine aH 46 (En.mpr c24)<|ar 10<|p0 [0,1,2,12,23,24,46] []<|have⟨u,a5,q,k,i,j,a7,al,am,an,q32,h⟩:=h;na 47 27 q32 [8]<|fd 1 [13] [(48,vi g)]<|have⟨q34,h⟩:=h;bF 27 (DR u a5 q k i j a7 al am an) q34<|λcg e33=>have h:=h cg e33;im [47] []<|gi 1 [48] [(7,vi g)]<|zx ?_;show At _ _ _ _ _ (Q .ret);exact have⟨be,cc,bj,a0,a2,a4,b9,b3,b2,b1,q35,h⟩:=h;bY (fn:=f63) [.agg (DR be cc bj a0 a2 a4 b9 b3 b2 b1).toArray,vi g] hQ (show bG _ _ _ [.cell 6 27,.tmp 7] _ from .cell GE (aR Et Et q35) (.tmp GE (.nil))) h
 refine aG 25 (zQ c17)<|zj 0<|aA<|aA<|aJ<|aE<|ar 13<|p0 [0,1,2,23,24,25] []<|have⟨aa,bb,z,p,m,o,ba,au,ax,aw,q36,h⟩:=h;na 56 27 q36 [8]<|have⟨q38,h⟩:=h;bF 27 (DR aa bb z p m o ba au ax aw) q38<|λch e37=>have h:=h ch e37;im [56] []<|gi 1 [] [(7,vi 0)]<|zx ?_;show At _ _ _ _ _ (Q .ret);exact have⟨bk,cd,bg,a6,a1,a8,ce,bx,b0,b4,q39,h⟩:=h;bY (fn:=f63) [.agg (DR bk cd bg a6 a1 a8 ce bx b0 b4).toArray,vi 0] hQ (show bG _ _ _ [.cell 6 27,.tmp 7] _ from .cell GE (aR Et Et q39) (.tmp GE (.nil))) h
namespace eC
def K0:=GC f66
def K2:=cb K0
def K4:=cb K2
def Bj:=cb K4
def BK:=ca Bj
def Bt:=cb Bj
def B1:=ca BK
def BF:=ca B1
def CW:=cb Bt
def C6:=ca CW
def Cy:=cb C6
def Dl:=ca Cy
def CS:=ca Dl
def C8:=cb CS
def D9:=ca C8
def DJ:=ca D9
end eC
def eC.pt(r:zW)(wv d:Int):GJ:=λH R=>
 ∀b H1,b=H.size->H1=H.push (.cells GK.toArray 27)->
 if d=64 then(
 (aF H1 (ad b) 0 6)/\ ∀H2,H2=aL H1 (ad b) GK 0->
 ∃cm rC cq cg cj ch rT dm dl dn,aI H2 (ad b) 0 (DR cm rC cq cg cj ch rT dm dl dn)/\
 R (.tuple #[.agg (DR cm rC cq cg cj ch rT dm dl dn).toArray,vi 10]) H2)
 else
 ∃(dc:Int->zW->Nat->Nat->zV->Prop) (m17:Int->zW->Nat->Nat->zV->Nat),dc wv none 0 0 H1/\ ∀g carsB carsN carsC H3,dc g carsB carsN carsC H3->
 ∃rA,r=some rA/\
 ∃x,hat H3 rA=some (vp x)/\
 gu.C x g H3 (λv H4=> ∃ra rb,v=.tuple #[vu ra,vi rb]/\
 cM.C (some rA) ra (zY (d+1)) H4 (λdv H5=> ∃ay ce ax ak aj ah ci bw bf bo s,dv=.tuple #[.agg (DR ay ce ax ak aj ah ci bw bf bo).toArray,vi s]/\
 ∀a3 H6,a3=H5.size->H6=H5.push (.cells GK.toArray 27)->
 (aF H6 (ad a3) 0 6)/\ ∀H7,H7=aL H6 (ad a3) (DR ay ce ax ak aj ah ci bw bf bo) 0->
 if s=0 then(
 ∃b3 xC b9 bc bd be xT c0 c5 cz,aI H7 (ad a3) 0 (DR b3 xC b9 bc bd be xT c0 c5 cz)/\
 ∀c2 H8,c2=H7.size->H8=H7.push (.cells (DR b3 xC b9 bc bd be xT c0 c5 cz).toArray 27)->
 dY 6 27 88 GK carsB carsN carsC (some (ad c2)) 1 H8 (λap e H9=>
 ∃cx,hat H9 rA=some (vp cx)/\
 hZ.C cx g H9 (λdt dy=> ∃f di,dt=.tuple #[vu f,vi di]/\
 ∃J:Bool->zV->Prop,(
 fF.C f dy (λdr dk=> ∃ck,dr=vi ck/\
 if ck=1 then(
 ∃cy,hat dk rA=some (vp cy)/\
 fG.C cy f dk (λdx du=> ∃c1,dx=.bool c1/\
 J (!c1) du))
 else
 J true dk))/\ ∀cl H11,J cl H11->
 if cl=true then(
 cM.C (some rA) f (zY (d+1)) H11 (λdq dp=> ∃z a4 aa q o p a8 az av aw j,dq=.tuple #[.agg (DR z a4 aa q o p a8 az av aw).toArray,vi j]/\
 ∀m H13,m=dp.size->H13=dp.push (.cells GK.toArray 27)->
 (aF H13 (ad m) 0 6)/\ ∀dj,dj=aL H13 (ad m) (DR z a4 aa q o p a8 az av aw) 0->
 ∃(dh:zv) (m46:Int->zV->Nat),dh (zY (((carsN+1):Int)-1)) dj/\ ∀i H15,dh i H15->
 if i>=0 then(
 ∃ag,ap=some ag/\
 ((0:Int)<=i/\i< ((carsN+1):Int))/\
 ∃aq bz au ae ac af bx a9 bb ba,aI H15 (ag.add (Int.toNat i*6)) 0 (DR aq bz au ae ac af bx a9 bb ba)/\
 ∃a1 cc a0 ao am an cd bn bq bt,aI H15 (ad m) 0 (DR a1 cc a0 ao am an cd bn bq bt)/\
 ∀b0 H16,b0=H15.size->H16=H15.push (.cells #[vi aq,.int .i32 bz,.bool au,vs ae ac af,.string bx,vs a9 bb ba,vi a1,.int .i32 cc,.bool a0,vs ao am an,.string cd,vs bn bq bt] 27)->
 (aF H16 (ad m) 0 6)/\ ∀de,de=aL H16 (ad m) (DR 7 0 false none 0 0 (ByteArray.mk #[]) (some (ad b0)) 2 2) 0->
 (dh (zY (i-1)) de/\m46 (zY (i-1)) de<m46 i H15))
 else
 ∃al br ai ab u y bg a5 a7 a6,aI H15 (ad m) 0 (DR al br ai ab u y bg a5 a7 a6)/\
 (aF H15 (ad b) 0 6)/\ ∀dg,dg=aL H15 (ad b) (DR al br ai ab u y bg a5 a7 a6) 0->
 ∃b1 c7 b7 bi bm bp c6 cv cu ct,aI dg (ad b) 0 (DR b1 c7 b7 bi bm bp c6 cv cu ct)/\
 R (.tuple #[.agg (DR b1 c7 b7 bi bm bp c6 cv cu ct).toArray,vi j]) dg))
 else
 eO.C (some rA) H11 (λdw c4=> ∃a2,dw=vi a2/\
 if a2=0 then(
 (dc f ap (carsN+1) e c4/\m17 f ap (carsN+1) e c4<m17 g carsB carsN carsC H3))
 else
 (aF c4 (ad b) 0 6)/\ ∀dd,dd=aL c4 (ad b) GK 0->
 ∃b8 c8 b6 bs bl bu c9 cn cr cw,aI dd (ad b) 0 (DR b8 c8 b6 bs bl bu c9 cn cr cw)/\
 R (.tuple #[.agg (DR b8 c8 b6 bs bl bu c9 cn cr cw).toArray,vi a2]) dd))))
 else
 (aF H7 (ad b) 0 6)/\ ∀df,df=aL H7 (ad b) GK 0->
 ∃b5 da b2 bk bj bh db co cs cp,aI df (ad b) 0 (DR b5 da b2 bk bj bh db co cs cp)/\
 R (.tuple #[.agg (DR b5 da b2 bk bj bh db co cs cp).toArray,vi s]) df))
theorem eC.link{r:zW}{d:Int}(h:pt r a d H b):C r a d H b:=by
 refine l2 K0 96 func66 ?_;intro w0 Q hQ;unfold pt zY at h;refine ki [(0,vp r),(1,vu a),(2,vi d)]<|ar 0<|l1 (some 6) (λwv=>vp (pa wv)) (.cells GK.toArray 27)<|λwv H1 e1 e2=>have h:=h wv H1 e1 e2;im [] [(6,vp (pa wv))]<|gi 1 [] []<|gv<|ar 1<|gi 2 [] [(18,.bool (d==64))]<|jn h (λc3 h=>?_) (λc3 h=>?_)
 ·refine aH 18 (zK c3)<|ar 2<|nb 1 [(6,vp (pa wv)),(19,.agg GK.toArray)]<|have⟨q6,h⟩:=h;bF 27 GK q6<|λH2 e5=>have h:=h H2 e5;im [19] []<|gi 1 [] [(7,vi 10)]<|zx ?_;show At _ _ _ _ _ (Q .ret);exact have⟨cm,rC,cq,cg,cj,ch,rT,dm,dl,dn,q7,h⟩:=h;bY (fn:=f66) [.agg (DR cm rC cq cg cj ch rT dm dl dn).toArray,vi 10] hQ (show bG _ _ _ [.cell 6 27,.tmp 7] _ from .cell GE (aR Et Et q7) (.tmp GE (.nil))) h
 refine aG 18 (zJ c3)<|kT<|ar 3<|gi 1 [18] [(8,VN)]<|gv<|k5 0<|have⟨dc,m17,i8,i9⟩:=h;bI (x:=BF) (σ:=Int×zW×Nat×Nat) (λs_=> [(0,vp r),(1,vu s_.1),(2,vi d),(6,vp (pa wv)),(8,vs s_.2.1 s_.2.2.1 s_.2.2.2)]) (λs_ H=>dc s_.1 s_.2.1 s_.2.2.1 s_.2.2.2 H) (λs_ H=>m17 s_.1 s_.2.1 s_.2.2.1 s_.2.2.2 H) ((a,none,0,0):Int×zW×Nat×Nat) GE i8 sk ?_;rintro⟨g,carsB,carsN,carsC⟩ H3 i10;have h:=i9 g carsB carsN carsC H3 i10;refine ki [(0,vp r),(1,vu g),(2,vi d),(6,vp (pa wv)),(8,vs carsB carsN carsC)]<|k5 1<|ar 4<|fd 1 [] [(21,vp r)] ?_;obtain⟨rA,rfl,ha⟩:=h;refine fd 2 [0,21] [(0,Vq rA),(23,Vq rA)] ?_;obtain⟨x,q11,h⟩:=ha;refine hV 24 31 q11 [23]<|fd 1 [] [(25,vu g)]<|vr 26 [24,25] h λra rb H4 h=>gi 5 [26] [(9,vu ra)]<|ar 5<|fd 4 [9] [(30,Vq rA),(31,vu ra),(33,vi (zY (d+1)))]<|Bs (some 34) h ?_;clear h;rintro dv H5 ⟨ay,ce,ax,ak,aj,ah,ci,bw,bf,bo,s,rfl,h⟩;refine im [30,31,33] [(34,.tuple #[.agg (DR ay ce ax ak aj ah ci bw bf bo).toArray,vi s])]<|fd 3 [34] [(35,.agg (DR ay ce ax ak aj ah ci bw bf bo).toArray),(36,vi s)]<|l1 (some 11) (λwv=>vp (pa wv)) (.cells GK.toArray 27)<|λa3 H6 e12 e13=>have h:=h a3 H6 e12 e13;im [] [(11,vp (pa a3))]<|have⟨q15,h⟩:=h;bF 27 (DR ay ce ax ak aj ah ci bw bf bo) q15<|λH7 e14=>have h:=h H7 e14;im [35] []<|gi 1 [36] [(12,vi s)]<|gv<|ar 6<|gi 2 [] [(38,.bool (s !=0))]<|jn h (λc16 h=>?_) (λc16 h=>?_)
 ·refine aG 38 (Em.mpr c16)<|kT<|ar 8<|fd 1 [8,12,38] [(41,vs carsB carsN carsC)]<|have⟨b3,xC,b9,bc,bd,be,xT,c0,c5,cz,q18,h⟩:=h;na 42 27 q18 [11]<|l1 (some 43) (λwv=>vs (pa wv) 1 1) (.cells (DR b3 xC b9 bc bd be xT c0 c5 cz).toArray 27) ?_;intro c2 H8 e19 e20;replace h:=h c2 H8 e19 e20;refine im [42] [(43,vs (pa c2) 1 1)]<|xl (some 44) (eM #[25,25] 25 #[vs carsB carsN carsC,vs (pa c2) 1 1]) _ Et (cT (T:=27) (sz:=6) (bytes:=88) (zero:=(.agg GK.toArray:Value)) EK EK rfl (show prog.info? 27=some t27 from GE) GE GE GG GE (by first | exact h | (simpa only[Value.cells,EI]using h))) ?_;clear h;rintro _ H9 ⟨ap,e,rfl,h⟩;refine im [41,43] [(44,vs ap (carsN+1) e)]<|gi 1 [44] [(8,vs ap (carsN+1) e)]<|ar 9<|fd 3 [] [(48,Vq rA)]<|have⟨cx,q21,h⟩:=h;hV 49 31 q21 [48]<|fd 1 [1] [(50,vu g)]<|vr 51 [49,50] h λf di dy h=>nx 4 [(0,Vq rA),(1,vu f),(2,vi d),(6,vp (pa wv)),(8,vs ap (carsN+1) e)]<|gv<|gv<|have⟨J,h,j23⟩:=h;j2 (σ:=Bool) (λs_=> [(0,Vq rA),(1,vu f),(2,vi d),(6,vp (pa wv)),(8,vs ap (carsN+1) e),(65,.bool s_)]) (λs_ H=>J s_ H) ?_ ?_
  ·refine λcl H11 j24=>have h:=j23 cl H11 j24;ki [(0,Vq rA),(1,vu f),(2,vi d),(6,vp (pa wv)),(8,vs ap (carsN+1) e),(65,.bool cl)]<|aE<|jn h (λc25 h=>?_) (λc25 h=>?_)
   ·have b26:cl=true:=c25;refine cW [(0,Vq rA),(1,vu f),(2,vi d),(6,vp (pa wv)),(8,vs ap (carsN+1) e),(65,VT)] (by rw[b26]) ?_;clear b26;refine l7 65<|zj 0<|aA<|zz<|aA<|aJ<|aE<|ar 14<|fd 4 [0,1,2,65] [(73,Vq rA),(74,vu f),(76,vi (zY (d+1)))]<|Bs (some 77) h ?_;clear h;rintro dq dp ⟨z,a4,aa,q,o,p,a8,az,av,aw,j,rfl,h⟩;refine im [73,74,76] [(77,.tuple #[.agg (DR z a4 aa q o p a8 az av aw).toArray,vi j])]<|fd 3 [77] [(78,.agg (DR z a4 aa q o p a8 az av aw).toArray),(79,vi j)]<|l1 (some 14) (λwv=>vp (pa wv)) (.cells GK.toArray 27)<|λm H13 e27 e28=>have h:=h m H13 e27 e28;im [] [(14,vp (pa m))]<|have⟨q30,h⟩:=h;bF 27 (DR z a4 aa q o p a8 az av aw) q30<|λdj e29=>have h:=h dj e29;im [78] []<|gi 1 [79] [(15,vi j)]<|gv<|ar 15<|gi 4 [] [(16,vi (zY (((carsN+1):Int)-1)))]<|k5 2<|have⟨dh,m46,i31,i32⟩:=h;bI (x:=CS) (σ:=Int) (λs_=> [(6,vp (pa wv)),(8,vs ap (carsN+1) e),(14,vp (pa m)),(15,vi j),(16,vi s_)]) (λs_ H=>dh s_ H) (λs_ H=>m46 s_ H) ((zY (((carsN+1):Int)-1)):Int) GE i31 sk ?_;rintro i H15 i33;have h:=i32 i H15 i33;refine ki [(6,vp (pa wv)),(8,vs ap (carsN+1) e),(14,vp (pa m)),(15,vi j),(16,vi i)]<|gv<|ar 16<|gi 2 [] [(84,.bool (decide (i>=0)))]<|jn h (λc34 h=>?_) (λc34 h=>?_)
    ·refine aH 84 (zX c34)<|kT<|gv<|k5 3 ?_;obtain⟨ag,rfl,q36,aq,bz,au,ae,ac,af,bx,a9,bb,ba,q37,a1,cc,a0,ao,am,an,cd,bn,bq,bt,q38,hb⟩:=h;refine yY 18 (Code.ops DJ) [(5,(ag.add (Int.toNat i*6)),(DR aq bz au ae ac af bx a9 bb ba)),(5,(ad m),(DR a1 cc a0 ao am an cd bn bq bt))] 8 (bv 8 0) (show aP _ _ _ from⟨q37,q38,GB⟩)<|Bp 0 (some 87) (vs (some ag) (carsN+1) e) (bv 8 1) [(6,vp (pa wv)),(8,vs (some ag) (carsN+1) e),(14,vp (pa m)),(15,vi j),(16,vi i),(87,vs (some ag) (carsN+1) e)]<|aM 1 88 (vi i) (bv 8 3) []<|lb 2 89 (vp (some (ag.add (Int.toNat i*6)))) (bv 8 7) [87,88] (bJ 25 (vs (some ag) (carsN+1) e) (vi i)) (λ_ w _ _ _=>dV (P:=prog) (t:=25) (elem:=27) (sz:=6) (a:=ag) (len:=(carsN+1)) (cap:=e) (k:=.i64) (i:=i) EK Et q36.1 q36.2 w)<|lb 3 90 (.agg (DR aq bz au ae ac af bx a9 bb ba).toArray) (bv 8 15) [89] (aZ 27 (vp (some (ag.add (Int.toNat i*6))))) (kq 5 Et Et yZ (.inl GE))<|lb 4 91 (.agg (DR a1 cc a0 ao am an cd bn bq bt).toArray) (bv 8 31) [] (aZ 27 (vp (pa m))) (kq 5 Et Et yX (.inl GE))<|rQ 5 (some 92) (bv 8 63) (λwv=>vs (pa wv) 2 2) (.cells #[vi aq,.int .i32 bz,.bool au,vs ae ac af,.string bx,vs a9 bb ba,vi a1,.int .i32 cc,.bool a0,vs ao am an,.string cd,vs bn bq bt] 27) GE Et GE<|λb0 H16 e39 e40=>have h:=hb b0 H16 e39 e40;⟨[(6,vp (pa wv)),(8,vs (some ag) (carsN+1) e),(14,vp (pa m)),(15,vi j),(16,vi i),(92,vs (pa b0) 2 2)],pk,(show aP _ _ _ from⟨GB,GB,GB⟩),?_⟩;refine BS 6 (some 93) (.agg (DR 7 0 false none 0 0 (ByteArray.mk #[]) (pa b0) 2 2).toArray) (bv 8 127) [(6,vp (pa wv)),(8,vs (some ag) (carsN+1) e),(14,vp (pa m)),(15,vi j),(16,vi i),(93,.agg (DR 7 0 false none 0 0 (ByteArray.mk #[]) (pa b0) 2 2).toArray)] (pure (.value (.agg (DR 7 0 false none 0 0 (ByteArray.mk #[]) (pa b0) 2 2).toArray)):Sem Next) (λ_ _ _ _ _=>rfl)<|have⟨q42,h⟩:=h;gR 7 none (bv 8 255) (jR 27 (vp (pa m)) (.agg (DR 7 0 false none 0 0 (ByteArray.mk #[]) (pa b0) 2 2).toArray)) (λHz=>Hz=aL H16 (ad m) (DR 7 0 false none 0 0 (ByteArray.mk #[]) (pa b0) 2 2) 0) GE Et (ji (DR 7 0 false none 0 0 (ByteArray.mk #[]) (pa b0) 2 2) 6 GE GE Et GE q42) GE<|λde e41=>have h:=h de e41;⟨[(6,vp (pa wv)),(8,vs (some ag) (carsN+1) e),(14,vp (pa m)),(15,vi j),(16,vi i)],pk,(show aP _ _ _ from⟨GB,GB,GB⟩),?_⟩;exact gm [(6,vp (pa wv)),(8,vs (some ag) (carsN+1) e),(14,vp (pa m)),(15,vi j),(16,vi i)] sk<|yx<|aD<|aE<|k4 17<|nx 3 [(6,vp (pa wv)),(8,vs (some ag) (carsN+1) e),(14,vp (pa m)),(15,vi j),(16,vi (zY (i-1)))]<|aQ ((zY (i-1)):Int) sk h
    refine aG 84 (zQ c34)<|zj 2<|aA<|aA<|aJ<|aE<|ar 19<|p0 [8,16,84] []<|have⟨al,br,ai,ab,u,y,bg,a5,a7,a6,q43,h⟩:=h;na 94 27 q43 [14]<|fd 1 [15] [(95,vi j)]<|have⟨q45,h⟩:=h;bF 27 (DR al br ai ab u y bg a5 a7 a6) q45<|λdg e44=>have h:=h dg e44;im [94] []<|gi 1 [95] [(7,vi j)]<|zx ?_;show At _ _ _ _ _ (Q .ret);exact have⟨b1,c7,b7,bi,bm,bp,c6,cv,cu,ct,q46,h⟩:=h;bY (fn:=f66) [.agg (DR b1 c7 b7 bi bm bp c6 cv cu ct).toArray,vi j] hQ (show bG _ _ _ [.cell 6 27,.tmp 7] _ from .cell GE (aR Et Et q46) (.tmp GE (.nil))) h
   have b26:cl=false:=zZ c25;refine cW [(0,Vq rA),(1,vu f),(2,vi d),(6,vp (pa wv)),(8,vs ap (carsN+1) e),(65,VF)] (by rw[b26]) ?_;clear b26;refine pN 65<|kT<|ar 11<|fd 1 [65] [(66,Vq rA)]<|l5 67 [66] h λa2 c4 h=>gi 1 [67] [(13,vi a2)]<|ar 12<|gi 2 [] [(69,.bool (a2 !=0))]<|jn h (λc47 h=>?_) (λc47 h=>?_)
   ·exact aG 69 (Em.mpr c47)<|Bn<|aD<|aE<|aQ ((f,ap,(carsN+1),e):Int×zW×Nat×Nat) sk h
   refine aH 69 (En.mpr c47)<|ar 13<|nb 2 [(6,vp (pa wv)),(70,.agg GK.toArray),(71,vi a2)]<|have⟨q50,h⟩:=h;bF 27 GK q50<|λdd e49=>have h:=h dd e49;im [70] []<|gi 1 [71] [(7,vi a2)]<|zx ?_;show At _ _ _ _ _ (Q .ret);exact have⟨b8,c8,b6,bs,bl,bu,c9,cn,cr,cw,q51,h⟩:=h;bY (fn:=f66) [.agg (DR b8 c8 b6 bs bl bu c9 cn cr cw).toArray,vi a2] hQ (show bG _ _ _ [.cell 6 27,.tmp 7] _ from .cell GE (aR Et Et q51) (.tmp GE (.nil))) h
  refine k4 10<|nb 1 [(0,Vq rA),(1,vu f),(2,vi d),(6,vp (pa wv)),(8,vs ap (carsN+1) e),(54,vu f)]<|l5 55 [54] h λck dk h=>fd 2 [55] [(57,.bool (ck !=1))]<|jn h (λc52 h=>?_) (λc52 h=>?_)
  ·exact kc 57 (Em.mpr c52)<|fd 3 [] [(60,Vq rA)]<|have⟨cy,q54,h⟩:=h;hV 61 31 q54 [60]<|fd 1 [] [(62,vu f)]<|l5 63 [61,62] h λc1 du h=>gi 2 [57,63] [(65,.bool (!c1))]<|dL ((!c1):Bool) sk h
  exact kc 57 (En.mpr c52)<|gi 8 [57] [(65,VT)]<|dL (true:Bool) sk h
 refine aH 38 (En.mpr c16)<|ar 7<|nb 2 [(6,vp (pa wv)),(39,.agg GK.toArray),(40,vi s)]<|have⟨q56,h⟩:=h;bF 27 GK q56<|λdf e55=>have h:=h df e55;im [39] []<|gi 1 [40] [(7,vi s)]<|zx ?_;show At _ _ _ _ _ (Q .ret);exact have⟨b5,da,b2,bk,bj,bh,db,co,cs,cp,q57,h⟩:=h;bY (fn:=f66) [.agg (DR b5 da b2 bk bj bh db co cs cp).toArray,vi s] hQ (show bG _ _ _ [.cell 6 27,.tmp 7] _ from .cell GE (aR Et Et q57) (.tmp GE (.nil))) h
end Go.Proofs.YtillhdiiglamhaaGreatDoor
namespace Go.Proofs.YtillhdiiglamhaaGreatDoor
open Go Go.Proofs.Tryz
open Int(toNat)
variable{H:zV}{a:zW}{b:zk}
namespace iC
def K0:=GC f36
def K2:=cb K0
def K3:=ca K2
def K5:=cb K3
def BK:=cb K5
def Bt:=ca BK
def B1:=cb BK
def Bu:=cb Bt
def BZ:=ca Bu
def BR:=ca BZ
def CY:=cb B1
def C3:=cb CY
def CR:=ca C3
def CW:=cb C3
def CT:=cb CR
def CL:=ca CT
def Cy:=ca CL
def DV:=cb CW
def K69:=ca DV
def K72:=cb K69
def DB:=ca K72
def K74:=ca DB
end iC
def iC.pt(tv lB:zW)(lN lC:Nat):GJ:=λH R=>
 ∀b H1,b=H.size->H1=H.push (.cells #[vp tv] 70)->
 ∀a H2,a=H1.size->H2=H1.push (.cells #[vs lB lN lC] 54)->
 ∃x,hat H2 (ad b)=some (vp x)/\
 ip.C x H2 (λv H3=> ∃ab,v=.bool ab/\
 if ab=true then(
 ∃xB xN xC,hat H3 (ad a)=some (vs xB xN xC)/\
 ky.C xB xN xC H3 (λak H4=> ∃y z aa,ak=vs y z aa/\
 R (vs y z aa) H4))
 else
 ∃ae e ac,hat H3 (ad a)=some (vs ae e ac)/\
 0<=(e:Int)/\(e:Int)<=(e:Int)/\8*(e:Int)<=2 ^ 48/\(e:Int)<=9223372036854775807/\
 ∀u H5,u=H3.size->H5=H3.push (.cells (Builtin.zeroCells #[vi 0] (toNat (e:Int))) 3)->
 ∀d H6,d=H5.size->H6=H5.push (.cells #[VN] 28)->
 (aF H6 (ad d) 0 1)/\ ∀H7,H7=aL H6 (ad d) [vs (some (ad u)) (toNat (e:Int)) (toNat (e:Int))] 0->
 ∃j i q,hat H7 (ad a)=some (vs j i q)/\
 ∃(aj:zv) (m20:Int->zV->Nat),aj 0 H7/\ ∀s H8,aj s H8->
 if s< (i:Int)then(
 False)
 else
 ∃(ah:zV->Prop) (m38:zV->Nat),ah H8/\ ∀af,ah af->
 ∃k g m,hat af (ad a)=some (vs k g m)/\
 ∃(ai:zv) (m44:Int->zV->Nat),ai 0 af/\ ∀t H14,ai t H14->
 if t< (g:Int)then(
 False)
 else
 ∃p f o,hat H14 (ad a)=some (vs p f o)/\
 ∃(ag:zW->Nat->Nat->zv) (m75:zW->Nat->Nat->Int->zV->Nat),ag none 0 0 0 H14/\ ∀r outN outC s68 H23,ag r outN outC s68 H23->
 if s68< (f:Int)then(
 False)
 else
 R (vs r outN outC) H23)
theorem iC.link{lB:zW}{lN lC:Nat}(h:pt a lB lN lC H b):C a lB lN lC H b:=by
 refine l2 K0 98 func36 ?_;intro w0 Q hQ;unfold pt at h;refine ki [(0,vp a),(1,vs lB lN lC)]<|ar 0<|l1 (some 2) (λtv=>vp (pa tv)) (.cells #[vp a] 70)<|λtv H1 e1 e2=>have h:=h tv H1 e1 e2;im [0] [(2,vp (pa tv))]<|l1 (some 3) (λtv=>vp (pa tv)) (.cells #[vs lB lN lC] 54)<|λR H2 e3 e4=>have h:=h R H2 e3 e4;im [1] [(3,vp (pa R))]<|gi 1 [] []<|yh K3 0 GE GE<|gv<|ar 1<|have⟨x,q5,h⟩:=h;hV 15 70 q5 []<|l5 16 [15] h λab H3 h=>ue<|jn h (λc6 h=>?_) (λc6 h=>?_)
 ·exact aH 16 c6<|ar 2<|p0 [2,16] []<|have⟨xB,xN,xC,q8,h⟩:=h;hV 17 54 q8 [3]<|Dc 18 (λy z aa=>[(18,vs y z aa)]) h λy z aa H4 h=>hH 1 [4] [vs y z aa] hQ h
 refine aG 16 (zZ c6)<|kT<|ar 3<|p0 [16] []<|have⟨ae,e,ac,q9,h⟩:=h;hV 19 54 q9 []<|fd 1 [19] [(20,vi e)]<|have⟨q10,q11,q12,q13,h⟩:=h;xl (some 21) (lr 28 (vi e) (vi e)) (λv Hz=>v=Value.slice (some (Addr.mk H3.size 0 none)) (toNat (e:Int)) (toNat (e:Int))/\Hz=H3.push (.cells (Builtin.zeroCells #[vi 0] (toNat (e:Int))) 3)) Et (te (T:=3) (zero:=vi 0) EW (show prog.info? 3=some t3 from GE) GE q10 q11 q12 q13 GE GG) ?_;rintro _ H5 ⟨rfl,e15⟩;obtain⟨u,e14⟩: ∃tv,tv=H3.size:=⟨_,rfl⟩;replace h:=h u H5 e14 e15;rw[<-e14];refine im [20] [(21,vs (pa u) (toNat (e:Int)) (toNat (e:Int)))]<|l1 (some 5) (λtv=>vp (pa tv)) (.cells #[VN] 28)<|λd H6 e16 e17=>have h:=h d H6 e16 e17;im [] [(5,vp (pa d))]<|have⟨q19,h⟩:=h;fj 28 (vs (pa u) (toNat (e:Int)) (toNat (e:Int))) q19<|λH7 e18=>have h:=h H7 e18;im [21] []<|ue<|gv<|ar 4<|have⟨j,i,q,q20,h⟩:=h;hV 22 54 q20 []<|gi 2 [] [(23,vi i),(24,vi 0)]<|k5 0<|have⟨aj,m20,i21,i22⟩:=h;bI (x:=BR) (σ:=Int) (λs_=> [(2,vp (pa tv)),(3,vp (pa R)),(5,vp (pa d)),(22,vs j i q),(23,vi i),(24,vi s_)]) (λs_ H=>aj s_ H) (λs_ H=>m20 s_ H) (0:Int) GE i21 sk ?_;rintro s H8 i23;have h:=i22 s H8 i23;refine ki [(2,vp (pa tv)),(3,vp (pa R)),(5,vp (pa d)),(22,vs j i q),(23,vi i),(24,vi s)]<|ar 5<|gi 1 [] [(25,.bool (decide (s< (i:Int))))]<|gv ?_;by_cases c24:s< (i:Int)
 ·rw[ka c24]at h;exact h.elim
 rw[kb c24]at h;refine aG 25 (zQ c24)<|zj 0<|aA<|aA<|aJ<|aE<|ar 10<|gi 2 [22,23,24,25] [(8,.func (.func 89) #[] #[vp (pa d),vp (pa tv),vp (pa R)])]<|have⟨ah,m38,i40,i41⟩:=h;yi 0 C3 [(2,vp (pa tv)),(3,vp (pa R)),(5,vp (pa d)),(8,.func (.func 89) #[] #[vp (pa d),vp (pa tv),vp (pa R)])] ah m38 GE GE i40 sk ?_;rintro af i42;have h:=i41 af i42;refine gv<|ar 11<|have⟨k,g,m,q43,h⟩:=h;T_l (some 39) 54 q43 [(2,vp (pa tv)),(3,vp (pa R)),(5,vp (pa d)),(8,.func (.func 89) #[] #[vp (pa d),vp (pa tv),vp (pa R)]),(39,vs k g m)]<|gi 2 [] [(40,vi g),(41,vi 0)]<|k5 2<|have⟨ai,m44,i44,i45⟩:=h;bI (x:=Cy) (σ:=Int) (λs_=> [(2,vp (pa tv)),(3,vp (pa R)),(5,vp (pa d)),(8,.func (.func 89) #[] #[vp (pa d),vp (pa tv),vp (pa R)]),(39,vs k g m),(40,vi g),(41,vi s_)]) (λs_ H=>ai s_ H) (λs_ H=>m44 s_ H) (0:Int) GE i44 sk ?_;rintro t H14 i46;have h:=i45 t H14 i46;refine ki [(2,vp (pa tv)),(3,vp (pa R)),(5,vp (pa d)),(8,.func (.func 89) #[] #[vp (pa d),vp (pa tv),vp (pa R)]),(39,vs k g m),(40,vi g),(41,vi t)]<|ar 12<|gi 1 [] [(42,.bool (decide (t< (g:Int))))]<|gv ?_;by_cases c47:t< (g:Int)
 ·rw[ka c47]at h;exact h.elim
 rw[kb c47]at h;refine aG 42 (zQ c47)<|zj 2<|aA<|aA<|aJ<|aE<|ar 20<|gi 1 [8,39,40,41,42] [(12,VN)]<|gv<|ar 21<|have⟨p,f,o,q68,h⟩:=h;hV 66 54 q68 [3]<|gi 2 [] [(67,vi f),(68,vi 0)]<|k5 4<|have⟨ag,m75,i69,i70⟩:=h;bI (x:=K74) (σ:=zW×Nat×Nat×Int) (λs_=> [(2,vp (pa tv)),(5,vp (pa d)),(12,vs s_.1 s_.2.1 s_.2.2.1),(66,vs p f o),(67,vi f),(68,vi s_.2.2.2)]) (λs_ H=>ag s_.1 s_.2.1 s_.2.2.1 s_.2.2.2 H) (λs_ H=>m75 s_.1 s_.2.1 s_.2.2.1 s_.2.2.2 H) ((none,0,0,0):zW×Nat×Nat×Int) GE i69 sk ?_;rintro⟨r,outN,outC,s68⟩ H23 i71;have h:=i70 r outN outC s68 H23 i71;refine ki [(2,vp (pa tv)),(5,vp (pa d)),(12,vs r outN outC),(66,vs p f o),(67,vi f),(68,vi s68)]<|ar 22<|gi 1 [] [(69,.bool (decide (s68< (f:Int))))]<|gv ?_;by_cases c72:s68< (f:Int)
 ·rw[ka c72]at h;exact h.elim
 rw[kb c72]at h;exact aG 69 (zQ c72)<|zj 4<|aA<|aA<|aJ<|aE<|ar 27<|hH 2 [4] [vs r outN outC] hQ h
namespace iD
def K0:=GC f37
def K2:=cb K0
def K8:=cb K2
def K9:=ca K8
def BE:=ca K9
def Bj:=cb BE
def Bt:=cb Bj
def Bu:=ca Bt
def BR:=ca Bu
def B4:=cb BR
def Ch:=cb B4
def CH:=ca Ch
def CO:=cb CH
def CJ:=cb CO
def Do:=cb CJ
def Cc:=ca Do
end iD
def iD.pt(tv:zW):GJ:=λH R=>
 ip.C tv H (λv H1=> ∃x,v=.bool x/\
 if x=true then(
 R (.tuple #[]) H1)
 else
 eY.C tv H1 (λay H2=> ∃xB xN xC,ay=vs xB xN xC/\
 ∃(ac:zv) (m11:Int->zV->Nat),ac 0 H2/\ ∀b H3,ac b H3->
 if b< (xN:Int)then(
 ∃e,xB=some e/\
 zw b xN/\
 ∃f,hat H3 (e.add (toNat b*1))=some (vi f)/\
 ∃d,tv=some d/\
 ∃ak,hat H3 d=some (vp ak)/\
 ∃ai,ak=some ai/\
 ∃al,hat H3 ai=some (vp al)/\
 ∃aj,al=some aj/\
 ∃ah,hat H3 aj=some (vp ah)/\
 ∃ag,ah=some ag/\
 ∃z,hat H3 ag=some (vp z)/\
 cS.C z f H3 (λaz H4=> ∃ra rb,az=.tuple #[vu ra,vi rb]/\
 eJ.C (some d) ra H4 (λaw H5=> ∃p,aw=.bool p/\
 if p=true then(
 cU.C (some d) ra H5 (λau H6=> ∃r,au=.bool r/\
 if r=true then(
 ∃aq,hat H6 d=some (vp aq)/\
 ∃o,aq=some o/\
 ∃an,hat H6 o=some (vp an)/\
 ∃g,an=some g/\
 ∃am,hat H6 g=some (vp am)/\
 ∃j,am=some j/\
 ∃m,hat H6 j=some (vp m)/\
 cH.C (some d) ra H6 (λav H7=> ∃y,av=vu y/\aI H7 d 0 [Vq o]/\aI H7 o 0 [Vq g]/\aI H7 g 0 [Vq j]/\aI H7 j 0 [vp m]/\
 dS.C m f y H7 (λa0 H8=> ∃ap,a0=vi ap/\
 (ac (zY (b+1)) H8/\m11 (zY (b+1)) H8<m11 b H3))))
 else
 ∃af,hat H6 d=some (vp af)/\
 ∃s,af=some s/\
 ∃aa,hat H6 s=some (vp aa)/\
 ∃ab,aa=some ab/\
 ∃u,hat H6 ab=some (vp u)/\
 ∃ae,u=some ae/\
 ∃q,hat H6 ae=some (vp q)/\
 dS.C q f 44 H6 (λax H9=> ∃ao,ax=vi ao/\
 (ac (zY (b+1)) H9/\m11 (zY (b+1)) H9<m11 b H3))))
 else
 (ac (zY (b+1)) H5/\m11 (zY (b+1)) H5<m11 b H3))))
 else
 R (.tuple #[]) H3))
theorem iD.link(h:pt a H b):C a H b:=by
 refine l2 K0 76 func37 ?_;intro w0 Q hQ;unfold pt zY at h;refine ki [(0,vp a)]<|gv<|ar 0<|fd 1 [] [(6,vp a)]<|l5 7 [6] h λx H1 h=>ue<|jn h (λc1 h=>?_) (λc1 h=>?_)
 ·exact aH 7 c1<|ix [] [] hQ h
 refine aG 7 (zZ c1)<|kT<|ar 1<|fd 1 [7] [(8,vp a)]<|BO 9 [8] h λxB xN xC H2 h=>gi 2 [] [(10,vi xN),(11,vi 0)]<|k5 0<|have⟨ac,m11,i3,i4⟩:=h;bI (x:=BE) (σ:=Int) (λs_=> [(0,vp a),(9,vs xB xN xC),(10,vi xN),(11,vi s_)]) (λs_ H=>ac s_ H) (λs_ H=>m11 s_ H) (0:Int) GE i3 sk ?_;rintro R H3 i5;have h:=i4 R H3 i5;refine ki [(0,vp a),(9,vs xB xN xC),(10,vi xN),(11,vi R)]<|ar 2<|gi 1 [] [(12,.bool (decide (R< (xN:Int))))]<|gv<|jn h (λc6 h=>?_) (λc6 h=>?_)
 ·refine aH 12 (zX c6)<|kT<|gv<|k5 1<|ar 3<|p0 [12] [] ?_;obtain⟨e,rfl,q8,ha⟩:=h;refine ww (some 13) 28 3 1 e xN xC .i64 R EW q8.1 q8.2 [9] [(9,vs (some e) xN xC),(13,Vq (e.add (toNat R*1)))]<|have⟨f,q9,h⟩:=ha;hV 14 3 q9 [13]<|gi 1 [14] [(3,vi f)]<|ar 4<|fd 1 [] [(16,vp a)] ?_;obtain⟨d,rfl,hb⟩:=h;refine fd 2 [0,16] [(0,Vq d),(18,Vq d)]<|have⟨ak,q10,h⟩:=hb;hV 19 31 q10 [18] ?_;obtain⟨ai,rfl,hc⟩:=h;refine fd 2 [19] [(21,Vq ai)]<|have⟨al,q11,h⟩:=hc;hV 22 50 q11 [21] ?_;obtain⟨aj,rfl,hd⟩:=h;refine fd 2 [22] [(24,Vq aj)]<|have⟨ah,q12,h⟩:=hd;hV 25 79 q12 [24] ?_;obtain⟨ag,rfl,he⟩:=h;refine fd 2 [25] [(27,Vq ag)]<|have⟨z,q13,h⟩:=he;hV 28 115 q13 [27]<|fd 1 [] [(29,vi f)]<|vr 30 [28,29] h λra rb H4 h=>gi 5 [30] [(4,vu ra)]<|k5 2<|ar 6<|fd 2 [] [(49,Vq d),(50,vu ra)]<|l5 51 [49,50] h λp H5 h=>gi 2 [51] [(48,.bool (!p))]<|jn h (λc14 h=>?_) (λc14 h=>?_)
  ·refine aG 48 (Eg Bool.not (c14))<|ar 7<|fd 2 [48] [(54,Vq d),(55,vu ra)]<|l5 56 [54,55] h λr H6 h=>gi 1 [56] [(53,.bool r)]<|jn h (λc16 h=>?_) (λc16 h=>?_)
   ·refine aH 53 c16 ?_;obtain⟨aq,q18,o,rfl,an,q19,g,rfl,am,q20,j,rfl,m,q21,hf⟩:=h;refine yY 8 (Code.ops Cc) [(17,d,[Vq o]),(17,o,[Vq g]),(17,g,[Vq j]),(17,j,[vp m])] 18 (bv 18 0) (show aP _ _ _ from⟨⟨q18,GB⟩,⟨q19,GB⟩,⟨q20,GB⟩,⟨q21,GB⟩,GB⟩)<|Bp 0 (some 57) (Vq d) (bv 18 1) [(0,Vq d),(3,vi f),(4,vu ra),(9,vs (some e) xN xC),(10,vi xN),(11,vi R),(57,Vq d)]<|aM 1 58 (Vq d) (bv 18 3) [57]<|aM 2 59 (Vq d) (bv 18 7) [58]<|lb 3 60 (Vq o) (bv 18 15) [59] (aZ 31 (Vq d)) (yW 17 yZ)<|aM 4 61 (Vq o) (bv 18 31) [60]<|aM 5 62 (Vq o) (bv 18 63) [61]<|lb 6 63 (Vq g) (bv 18 127) [62] (aZ 50 (Vq o)) (yW 17 yX)<|aM 7 64 (Vq g) (bv 18 255) [63]<|aM 8 65 (Vq g) (bv 18 511) [64]<|lb 9 66 (Vq j) (bv 18 1023) [65] (aZ 79 (Vq g)) (yW 17 yQ)<|aM 10 67 (Vq j) (bv 18 2047) [66]<|aM 11 68 (Vq j) (bv 18 4095) [67]<|lb 12 69 (vp m) (bv 18 8191) [68] (aZ 115 (Vq j)) (yW 17 yJ)<|aM 13 70 (vi f) (bv 18 16383) [3]<|aM 14 71 (Vq d) (bv 18 32767) []<|aM 15 72 (vu ra) (bv 18 65535) [4]<|yq 16 (some 73) (bv 18 131071) 33 #[Vq d,vu ra] hf ?_;clear hf;rintro av H7 ⟨y,rfl,f22,f23,f24,f25,h⟩;refine⟨[(0,Vq d),(9,vs (some e) xN xC),(10,vi xN),(11,vi R),(69,vp m),(70,vi f),(73,vu y)],pk,(show aP _ _ _ from⟨f22,f23,f24,f25,GB⟩),?_⟩;refine yq 17 (some 74) (bv 18 262143) 82 #[vp m,vi f,vu y] h ?_;clear h;rintro a0 H8 ⟨ap,rfl,h⟩;refine⟨[(0,Vq d),(9,vs (some e) xN xC),(10,vi xN),(11,vi R)],pk,(show aP _ _ _ from⟨GB,GB,GB,GB,GB⟩),?_⟩;exact gm [(0,Vq d),(9,vs (some e) xN xC),(10,vi xN),(11,vi R)] sk<|yx<|aD<|aD<|aE<|k4 9<|nx 2 [(0,Vq d),(9,vs (some e) xN xC),(10,vi xN),(11,vi (zY (R+1)))]<|aQ ((zY (R+1)):Int) sk h
   refine aG 53 (zZ c16)<|k4 5<|fd 3 [4,53] [(35,Vq d)]<|have⟨af,q26,h⟩:=h;hV 36 31 q26 [35] ?_;obtain⟨s,rfl,hg⟩:=h;refine fd 2 [36] [(38,Vq s)]<|have⟨aa,q27,h⟩:=hg;hV 39 50 q27 [38] ?_;obtain⟨ab,rfl,hh⟩:=h;refine fd 2 [39] [(41,Vq ab)]<|have⟨u,q28,h⟩:=hh;hV 42 79 q28 [41] ?_;obtain⟨ae,rfl,hi⟩:=h;refine fd 2 [42] [(44,Vq ae)] ?_;obtain⟨q,q29,h⟩:=hi;refine hV 45 115 q29 [44]<|fd 1 [3] [(46,vi f)]<|Bs (some 47) h ?_;clear h;rintro ax H9 ⟨ao,rfl,h⟩;exact im [45,46] []<|zq<|aD<|aD<|aE<|k4 9<|gi 2 [11] [(11,vi (zY (R+1)))]<|aQ ((zY (R+1)):Int) sk h
  exact aH 48 (Eg Bool.not (zZ c14))<|Bn<|aD<|aD<|aE<|k4 9<|gi 2 [3,4,11,48] [(11,vi (zY (R+1)))]<|aQ ((zY (R+1)):Int) sk h
 exact aG 12 (zQ c6)<|zj 0<|aA<|aA<|aJ<|jD (fn:=f37) [] hQ (show bG _ _ _ [] _ from .nil) h
namespace ja
def K0:=GC f38
def K2:=cb K0
def K4:=cb K2
def Bj:=cb K4
def BK:=ca Bj
def BF:=cb BK
def Bu:=ca BF
def BZ:=ca Bu
end ja
def ja.pt(tv lB:zW)(lN lC:Nat):GJ:=λH R=>
 ip.C tv H (λv H1=> ∃x,v=.bool x/\
 if x=true then(
 kH.C lB lN lC H1 (λq H2=> ∃xB xN xC,q=vs xB xN xC/\
 R (vs xB xN xC) H2))
 else
 ∃(m:zW->Nat->Nat->zv) (m19:zW->Nat->Nat->Int->zV->Nat),m none 0 0 0 H1/\ ∀d outN outC s14 H3,m d outN outC s14 H3->
 if s14< (lN:Int)then(
 ∃e,lB=some e/\
 zw s14 lN/\
 ∃f,hat H3 (e.add (toNat s14*1))=some (vu f)/\
 cU.C tv f H3 (λr H4=> ∃j,r=.bool j/\
 if j=true then(
 cH.C tv f H4 (λp H5=> ∃o,p=vu o/\
 ∀b H6,b=H5.size->H6=H5.push (.cells #[vu o] 37)->
 dY 1 37 8 [vu 0] d outN outC (some (ad b)) 1 H6 (λap g H7=>
 (m ap (outN+1) g (zY (s14+1)) H7/\m19 ap (outN+1) g (zY (s14+1)) H7<m19 d outN outC s14 H3))))
 else
 (m d outN outC (zY (s14+1)) H4/\m19 d outN outC (zY (s14+1)) H4<m19 d outN outC s14 H3)))
 else
 R (vs d outN outC) H3)
theorem ja.link{lB:zW}{lN lC:Nat}(h:pt a lB lN lC H b):C a lB lN lC H b:=by
 refine l2 K0 29 func38 ?_;intro w0 Q hQ;unfold pt zY at h;refine ki [(0,vp a),(1,vs lB lN lC)]<|ar 0<|gi 1 [] []<|gv<|ar 1<|fd 1 [] [(8,vp a)]<|l5 9 [8] h λx H1 h=>ue<|jn h (λc1 h=>?_) (λc1 h=>?_)
 ·exact aH 9 c1<|ar 2<|nb 1 [(10,vs lB lN lC)]<|Dc 11 (λxB xN xC=>[(11,vs xB xN xC)]) h λxB xN xC H2 h=>hH 1 [4] [vs xB xN xC] hQ h
 refine aG 9 (zZ c1)<|kT<|ar 3<|gi 1 [9] [(5,VN)]<|gv<|ar 4<|gi 3 [1] [(12,vs lB lN lC),(13,vi lN),(14,vi 0)]<|k5 0<|have⟨m,m19,i3,i4⟩:=h;bI (x:=BZ) (σ:=zW×Nat×Nat×Int) (λs_=> [(0,vp a),(5,vs s_.1 s_.2.1 s_.2.2.1),(12,vs lB lN lC),(13,vi lN),(14,vi s_.2.2.2)]) (λs_ H=>m s_.1 s_.2.1 s_.2.2.1 s_.2.2.2 H) (λs_ H=>m19 s_.1 s_.2.1 s_.2.2.1 s_.2.2.2 H) ((none,0,0,0):zW×Nat×Nat×Int) GE i3 sk ?_;rintro⟨d,outN,outC,s14⟩ H3 i5;have h:=i4 d outN outC s14 H3 i5;refine ki [(0,vp a),(5,vs d outN outC),(12,vs lB lN lC),(13,vi lN),(14,vi s14)]<|ar 5<|gi 1 [] [(15,.bool (decide (s14< (lN:Int))))]<|gv<|jn h (λc6 h=>?_) (λc6 h=>?_)
 ·refine aH 15 (zX c6)<|kT<|gv<|k5 1<|ar 6<|p0 [15] [] ?_;obtain⟨e,rfl,q8,ha⟩:=h;refine ww (some 16) 53 37 1 e lN lC .i64 s14 EY q8.1 q8.2 [12] [(12,vs (some e) lN lC),(16,Vq (e.add (toNat s14*1)))]<|have⟨f,q9,h⟩:=ha;hV 17 37 q9 [16]<|gi 1 [17] [(7,vu f)]<|ar 7<|fd 2 [] [(18,vp a),(19,vu f)]<|l5 20 [18,19] h λj H4 h=>ue<|jn h (λc10 h=>?_) (λc10 h=>?_)
  ·refine aH 20 c10<|k4 8<|fd 3 [5,7,20] [(21,vs d outN outC),(22,vp a),(23,vu f)]<|l5 24 [22,23] h λo H5 h=>l1 (some 25) (λR=>vs (pa R) 1 1) (.cells #[vu o] 37) ?_;intro R H6 e12 e13;replace h:=h R H6 e12 e13;refine im [24] [(25,vs (pa R) 1 1)]<|xl (some 26) (eM #[53,53] 53 #[vs d outN outC,vs (pa R) 1 1]) _ Et (cT (T:=37) (sz:=1) (bytes:=8) (zero:=(vu 0:Value)) EY EY rfl (show prog.info? 37=some t37 from GE) GE GE GG GE (by first | exact h | (simpa only[Value.cells,EI]using h))) ?_;clear h;rintro _ H7 ⟨ap,g,rfl,h⟩;exact im [21,25] [(26,vs ap (outN+1) g)]<|fd 1 [26] [(5,vs ap (outN+1) g)]<|zq<|aD<|aE<|k4 9<|gi 2 [14] [(14,vi (zY (s14+1)))]<|aQ ((ap,(outN+1),g,(zY (s14+1))):zW×Nat×Nat×Int) sk h
  exact aG 20 (zZ c10)<|Bn<|aD<|aE<|k4 9<|gi 2 [7,14,20] [(14,vi (zY (s14+1)))]<|aQ ((d,outN,outC,(zY (s14+1))):zW×Nat×Nat×Int) sk h
 exact aG 15 (zQ c6)<|zj 0<|aA<|aA<|aJ<|aE<|ar 10<|hH 2 [4] [vs d outN outC] hQ h
def ip.K0:=GC f86
def ip.pt(tv:zW):GJ:=λH R=>
 fY tv (
 R VT H) (λa=>
 eZ.C (some a) H (λv H1=> ∃x,v=.bool x/\
 R (.bool x) H1))
theorem ip.link(h:pt a H b):C a H b:=by
 refine l2 K0 9 func86 ?_;intro w0 Q hQ;unfold pt at h;refine ki [(0,vp a)]<|ar 0<|gi 1 [] []<|ar 1<|fd 1 [] [(3,vp a)] ?_;rcases a with _ | R
 ·rw[Ev]at h;exact hH 6 [2] [VT] hQ h
 rw[El]at h;exact nb 3 [(5,VF),(6,Vq R)]<|l5 7 [6] h λx H1 h=>hH 2 [2] [.bool x] hQ h
