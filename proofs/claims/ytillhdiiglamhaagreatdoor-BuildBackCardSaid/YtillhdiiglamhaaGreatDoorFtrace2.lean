/- Printed: what each function asks, and that it is sound. -/
import Derived.Test.YtillhdiiglamhaaGreatDoorFnsC
set_option linter.unusedSimpArgs false
set_option linter.unusedVariables false
set_option maxRecDepth 100000
set_option maxHeartbeats 1000000
noncomputable section
namespace Go.Proofs.YtillhdiiglamhaaGreatDoor
open Go Go.Proofs.Tryz
variable{a:ByteArray}{b i:Int}{H:zV}{d:zk}{g:Bool}{j k o q:Nat}{r u:zW}
def iS.K0:=GC f18
def iS.pt(z dC:Int)(y:Bool)(m:zW)(o p:Nat)(dT:ByteArray)(ai:zW)(aj ah:Nat):GJ:=λH R=>
 ∀b H1,b=H.size->H1=H.push (.cells (DR z dC y m o p dT ai aj ah).toArray 27)->
 ∃s xC u i j k xT ac ae af,aI H1 (ad b) 0 (DR s xC u i j k xT ac ae af)/\
 ii.C s xC u i j k xT ac ae af H1 (λv H2=> ∃x,v=.bool x/\
 if x=true then(
 ∃g aa f a e d ab t r q,aI H2 (ad b) 0 (DR g aa f a e d ab t r q)/\
 ij.C g aa f a e d ab t r q H2 (λak H3=> ∃ag,ak=vi ag/\
 R (.bool (decide (ag<=64))) H3))
 else
 R VF H2)
theorem iS.link(h:pt b i g r j k a u o q H d):C b i g r j k a u o q H d:=by
 refine l2 K0 10 func18 ?_;intro w0 Q hQ;unfold pt at h;refine ki [(0,.agg (DR b i g r j k a u o q).toArray)]<|ar 0<|l1 (some 1) (λah=>vp (pa ah)) (.cells (DR b i g r j k a u o q).toArray 27)<|λah H1 e1 e2=>have h:=h ah H1 e1 e2;⟨[(1,vp (pa ah))],pk,?_⟩;refine gi 1 [] []<|ar 1<|have⟨s,xC,z,dT,p,m,xT,ac,ae,af,q3,h⟩:=h;na 3 27 q3 []<|l5 4 [3] h λx H2 h=>fd 1 [4] [(5,.bool x)]<|jn h (λc4 h=>?_) (λc4 h=>?_)
 ·exact kc 5 c4<|have⟨ai,aa,f,R,e,aj,ab,t,dC,y,q6,h⟩:=h;na 6 27 q6 [1]<|l5 7 [6] h λag H3 h=>hH 3 [2] [.bool (decide (ag<=64))] hQ h
 exact kc 5 (zZ c4)<|hH 5 [2] [VF] hQ h
def ii.K0:=GC f41
def ii.K2:=cb K0
def ii.K3:=ca K2
def ii.K5:=ca K3
def ii.pt(an dC:Int)(am:Bool)(aa:zW)(ab ac:Nat)(dT:ByteArray)(bi:zW)(bj bh:Nat):GJ:=λH R=>
 ∀b H1,b=H.size->H1=H.push (.cells (DR an dC am aa ab ac dT bi bj bh).toArray 27)->
 ∃x,hat H1 (ad b)=some (vi x)/\
 if x<0 then(
 R VF H1)
 else
 ∃d,hat H1 (ad b)=some (vi d)/\
 if d>10 then(
 R VF H1)
 else
 ∃p xC q e f g xT ap aq ao,aI H1 (ad b) 0 (DR p xC q e f g xT ap aq ao)/\
 ∃m av o j i k au ag ai ah,aI H1 (ad b) 0 (DR m av o j i k au ag ai ah)/\
 jI.C m av o j i k au ag ai ah H1 (λv H2=> ∃z ba y u s t bb aw ax ay,v=.agg (DR z ba y u s t bb aw ax ay).toArray/\aI H2 (ad b) 0 (DR p xC q e f g xT ap aq ao)/\
 jb.C p xC q e f g xT ap aq ao z ba y u s t bb aw ax ay H2 (λbt H3=> ∃r,bt=.bool r/\
 if r=true then(
 ∃a,hat H3 (ad b)=some (vi a)/\
 if a=3 then(
 ∃bd,hat H3 ((ad b).add 1)=some (.int .i32 bd)/\
 cQ.C bd H3 (λbs H4=> ∃bc,bs=.bool bc/\
 R (.bool bc) H4))
 else
 if a=4 then(
 ∃a1 ak aj al,aI H3 ((ad b).add 2) 0 [.bool a1,vs ak aj al]/\
 kP.C a1 ak aj al H3 (λbp H5=> ∃bg,bp=.bool bg/\
 R (.bool bg) H5))
 else
 if a=6 then(
 ∃be,hat H3 ((ad b).add 4)=some (.string be)/\
 iN.C be 1 H3 (λbu H6=> ∃bf,bu=.bool bf/\
 R (.bool bf) H6))
 else
 if a=5 then(
 ∃a5,hat H3 ((ad b).add 4)=some (.string a5)/\
 iN.C a5 0 H3 (λbr H7=> ∃az,br=.bool az/\
 R (.bool az) H7))
 else
 if a=7 then(
 ∃xB xN bo,hat H3 ((ad b).add 5)=some (vs xB xN bo)/\
 if(xN:Int)=2 then(
 ∃bl ae bm,hat H3 ((ad b).add 5)=some (vs bl ae bm)/\
 if(ae:Int)<=62 then(
 ∃a4 a8 a9,hat H3 ((ad b).add 5)=some (vs a4 a8 a9)/\
 aV.C a4 a8 a9 (.func (.func 101) #[] #[]) H3 (λbw H8=> ∃a6,bw=.bool a6/\
 R (.bool (!a6)) H8))
 else
 R VF H3)
 else
 R VF H3)
 else
 if a=8 then(
 ∃bk af bn,hat H3 ((ad b).add 5)=some (vs bk af bn)/\
 if(af:Int)<=62 then(
 ∃a2 a7 a0,hat H3 ((ad b).add 5)=some (vs a2 a7 a0)/\
 aV.C a2 a7 a0 (.func (.func 101) #[] #[]) H3 (λbq H9=> ∃a3,bq=.bool a3/\
 R (.bool (!a3)) H9))
 else
 R VF H3)
 else
 R VT H3)
 else
 R VF H3))
theorem ii.link(h:pt b i g r j k a u o q H d):C b i g r j k a u o q H d:=by
 refine l2 K0 58 func41 ?_;intro w0 Q hQ;unfold pt at h;refine ki [(0,.agg (DR b i g r j k a u o q).toArray)]<|ar 0<|l1 (some 1) (λbh=>vp (pa bh)) (.cells (DR b i g r j k a u o q).toArray 27)<|λbh H1 e1 e2=>have h:=h bh H1 e1 e2;⟨[(1,vp (pa bh))],pk,?_⟩;refine gi 1 [] []<|gv<|gv<|have⟨x,q3,h⟩:=h;jn h (λc4 h=>?_) (λc4 h=>?_)
 ·exact yY 1 (Code.ops K5) [(15,(ad bh),[vi x])] 15 (bv 15 0) (show aP _ _ _ from⟨⟨q3,GB⟩,GB⟩)<|Bp 0 (some 3) (vp (pa bh)) (bv 15 1) [(1,vp (pa bh)),(3,vp (pa bh))]<|lb 1 4 (vi x) (bv 15 3) [3] (aZ 3 (vp (pa bh))) (kR 15 Et yZ (.inr GE))<|aM 2 5 (.bool (decide (x<0))) (bv 15 7) [4]<|aM 3 6 (.bool (decide (x<0))) (bv 15 15) [5]<|BJ 6 (zX c4)<|cP 4 (some 7) (bv 15 31) [] [(7,undef)]<|cP 5 (some 8) (bv 15 63) [7] [(8,undef)]<|cP 6 (some 9) (bv 15 127) [8] [(9,undef)]<|aM 7 10 VT (bv 15 255) [6,9]<|aM 8 11 VT (bv 15 511) [10]<|cP 9 (some 12) (bv 15 1023) [] [(12,undef)]<|cP 10 (some 13) (bv 15 2047) [] [(13,undef)]<|cP 11 (some 14) (bv 15 4095) [13] [(14,undef)]<|cP 12 (some 15) (bv 15 8191) [12,14] [(15,undef)]<|cP 13 (some 16) (bv 15 16383) [15] [(16,undef)]<|aM 14 17 VT (bv 15 32767) [11,16]<|gm [(1,vp (pa bh)),(17,VT)] sk<|yx<|aE<|l7 17<|ar 2<|hH 1 [2] [VF] hQ h
 refine have⟨bj,q6,h⟩:=h;jn h (λc7 h=>?_) (λc7 h=>?_)
 ·exact yY 1 (Code.ops K5) [(15,(ad bh),[vi x]),(15,(ad bh),[vi bj])] 15 (bv 15 0) (show aP _ _ _ from⟨⟨q3,GB⟩,⟨q6,GB⟩,GB⟩)<|Bp 0 (some 3) (vp (pa bh)) (bv 15 1) [(1,vp (pa bh)),(3,vp (pa bh))]<|lb 1 4 (vi x) (bv 15 3) [3] (aZ 3 (vp (pa bh))) (kR 15 Et yZ (.inr GE))<|aM 2 5 (.bool (decide (x<0))) (bv 15 7) [4]<|aM 3 6 (.bool (decide (x<0))) (bv 15 15) [5]<|BJ 6 (zQ c4)<|aM 4 7 (vp (pa bh)) (bv 15 31) []<|lb 5 8 (vi bj) (bv 15 63) [7] (aZ 3 (vp (pa bh))) (kR 15 Et yX (.inr GE))<|aM 6 9 (.bool (decide (bj>10))) (bv 15 127) [8]<|aM 7 10 (.bool (decide (bj>10))) (bv 15 255) [6,9]<|aM 8 11 (.bool (decide (bj>10))) (bv 15 511) [10]<|BJ 11 (zX c7)<|cP 9 (some 12) (bv 15 1023) [] [(12,undef)]<|cP 10 (some 13) (bv 15 2047) [] [(13,undef)]<|cP 11 (some 14) (bv 15 4095) [13] [(14,undef)]<|cP 12 (some 15) (bv 15 8191) [12,14] [(15,undef)]<|cP 13 (some 16) (bv 15 16383) [15] [(16,undef)]<|aM 14 17 VT (bv 15 32767) [11,16]<|gm [(1,vp (pa bh)),(17,VT)] sk<|yx<|aE<|l7 17<|ar 2<|hH 1 [2] [VF] hQ h
 obtain⟨p,xC,am,e,f,bi,xT,ap,aq,ao,q9,m,av,aa,ac,dT,ab,au,ag,ai,ah,q10,h⟩:=h;refine yY 1 (Code.ops K5) [(11,(ad bh),[vi x]),(11,(ad bh),[vi bj]),(12,(ad bh),(DR p xC am e f bi xT ap aq ao)),(11,(ad bh),(DR m av aa ac dT ab au ag ai ah))] 15 (bv 15 0) (show aP _ _ _ from⟨⟨q3,GB⟩,⟨q6,GB⟩,q9,q10,GB⟩)<|Bp 0 (some 3) (vp (pa bh)) (bv 15 1) [(1,vp (pa bh)),(3,vp (pa bh))]<|lb 1 4 (vi x) (bv 15 3) [3] (aZ 3 (vp (pa bh))) (yW 11 yZ)<|aM 2 5 (.bool (decide (x<0))) (bv 15 7) [4]<|aM 3 6 (.bool (decide (x<0))) (bv 15 15) [5]<|BJ 6 (zQ c4)<|aM 4 7 (vp (pa bh)) (bv 15 31) []<|lb 5 8 (vi bj) (bv 15 63) [7] (aZ 3 (vp (pa bh))) (yW 11 yX)<|aM 6 9 (.bool (decide (bj>10))) (bv 15 127) [8]<|aM 7 10 (.bool (decide (bj>10))) (bv 15 255) [6,9]<|aM 8 11 (.bool (decide (bj>10))) (bv 15 511) [10]<|BJ 11 (zQ c7)<|lb 9 12 (.agg (DR p xC am e f bi xT ap aq ao).toArray) (bv 15 1023) [] (aZ 27 (vp (pa bh))) (kq 12 Et Et yQ (.inl GE))<|lb 10 13 (.agg (DR m av aa ac dT ab au ag ai ah).toArray) (bv 15 2047) [] (aZ 27 (vp (pa bh))) (kq 11 Et Et yJ (.inl GE))<|yq 11 (some 14) (bv 15 4095) 96 #[.agg (DR m av aa ac dT ab au ag ai ah).toArray] h ?_;clear h;rintro v H2 ⟨z,ba,y,an,s,t,bb,aw,ax,ay,rfl,f11,h⟩;refine⟨[(1,vp (pa bh)),(11,VF),(12,.agg (DR p xC am e f bi xT ap aq ao).toArray),(14,.agg (DR z ba y an s t bb aw ax ay).toArray)],pk,(show aP _ _ _ from⟨GB,GB,f11,GB,GB⟩),?_⟩;refine yq 12 (some 15) (bv 15 8191) 95 #[.agg (DR p xC am e f bi xT ap aq ao).toArray,.agg (DR z ba y an s t bb aw ax ay).toArray] h ?_;clear h;rintro bt H3 ⟨dC,rfl,h⟩;refine⟨[(1,vp (pa bh)),(11,VF),(15,.bool dC)],pk,(show aP _ _ _ from⟨GB,GB,GB,GB,GB⟩),?_⟩;refine BS 13 (some 16) (.bool (!dC)) (bv 15 16383) [(1,vp (pa bh)),(11,VF),(16,.bool (!dC))] (pure (.value (.bool (!dC))):Sem Next) (λ_ _ _ _ _=>rfl)<|lb 14 17 (.bool (!dC)) (bv 15 32767) [11,16] (pure (.value (.bool (!dC))):Sem Next) (λ_ _ _ _ _=>rfl)<|gm [(1,vp (pa bh)),(17,.bool (!dC))] sk<|yx<|aE<|jn h (λc12 h=>?_) (λc12 h=>?_)
 ·refine aG 17 (Eg Bool.not (c12))<|kT<|gv<|ar 3<|nb 1 [(1,vp (pa bh)),(18,vp (pa bh))]<|have⟨R,q14,h⟩:=h;hV 19 3 q14 [18]<|ue<|k5 0<|gv<|k5 6<|gv<|k5 5<|gv<|k5 4<|gv<|k5 3<|gv<|k5 2<|gv<|k5 1<|gv<|gv<|ar 4<|gi 2 [] [(20,.bool (R==3))]<|jn h (λc15 h=>?_) (λc15 h=>?_)
  ·exact aH 20 (zK c15)<|zj 1<|aA<|aA<|aJ<|aE<|gv<|ar 10<|nb 1 [(32,Vq ((ad bh).add 1))]<|have⟨bd,q17,h⟩:=h;hV 33 21 q17 [32]<|BD 34 (λbc=>[(34,.bool bc)]) h λbc H4 h=>hH 1 [2] [.bool bc] hQ h
  refine aG 20 (zJ c15)<|kT<|gv<|ar 5<|gi 2 [20] [(22,.bool (R==4))]<|jn h (λc18 h=>?_) (λc18 h=>?_)
  ·exact aH 22 (zK c18)<|zj 2<|aA<|aA<|zz<|aA<|aJ<|aE<|gv<|ar 11<|nb 1 [(35,Vq ((ad bh).add 2))]<|have⟨a1,ak,aj,al,q20,h⟩:=h;na 36 24 q20 [35]<|BD 37 (λbg=>[(37,.bool bg)]) h λbg H5 h=>hH 1 [2] [.bool bg] hQ h
  refine aG 22 (zJ c18)<|kT<|gv<|ar 6<|gi 2 [22] [(24,.bool (R==6))]<|jn h (λc21 h=>?_) (λc21 h=>?_)
  ·exact aH 24 (zK c21)<|zj 3<|aA<|aA<|zz<|aA<|zz<|aA<|aJ<|aE<|gv<|ar 12<|nb 1 [(38,Vq ((ad bh).add 4))]<|have⟨be,q23,h⟩:=h;hV 39 9 q23 [38]<|BD 40 (λbf=>[(40,.bool bf)]) h λbf H6 h=>hH 1 [2] [.bool bf] hQ h
  refine aG 24 (zJ c21)<|kT<|gv<|ar 7<|gi 2 [24] [(26,.bool (R==5))]<|jn h (λc24 h=>?_) (λc24 h=>?_)
  ·exact aH 26 (zK c24)<|zj 4<|aA<|aA<|zz<|aA<|zz<|aA<|zz<|aA<|aJ<|aE<|gv<|ar 13<|nb 1 [(41,Vq ((ad bh).add 4))]<|have⟨a5,q26,h⟩:=h;hV 42 9 q26 [41]<|BD 43 (λaz=>[(43,.bool az)]) h λaz H7 h=>hH 1 [2] [.bool az] hQ h
  refine aG 26 (zJ c24)<|kT<|gv<|ar 8<|gi 2 [26] [(28,.bool (R==7))]<|jn h (λc27 h=>?_) (λc27 h=>?_)
  ·refine aH 28 (zK c27)<|zj 5<|aA<|aA<|zz<|aA<|zz<|aA<|zz<|aA<|zz<|aA<|aJ<|aE<|ar 14<|fd 1 [19,28] [(44,Vq ((ad bh).add 5))]<|have⟨xB,xN,bo,q29,h⟩:=h;hV 45 25 q29 [44]<|gi 2 [45] [(47,.bool ((xN:Int) !=2))]<|jn h (λc30 h=>?_) (λc30 h=>?_)
   ·refine aG 47 (Em.mpr c30)<|Bn<|aD<|aE<|gv<|ar 16<|fd 1 [47] [(48,Vq ((ad bh).add 5))]<|have⟨bl,ae,bm,q32,h⟩:=h;hV 49 25 q32 [48]<|fd 3 [49] [(52,.bool (decide ((ae:Int)<=62)))]<|jn h (λc33 h=>?_) (λc33 h=>?_)
    ·exact kc 52 (zX c33)<|fd 1 [1] [(53,Vq ((ad bh).add 5))]<|have⟨a4,a8,a9,q35,h⟩:=h;hV 54 25 q35 [53]<|l5 55 [54] h λa6 H8 h=>hH 3 [2] [.bool (!a6)] hQ h
    exact kc 52 (zQ c33)<|hH 6 [2] [VF] hQ h
   exact aH 47 (En.mpr c30)<|ar 15<|hH 1 [2] [VF] hQ h
  refine aG 28 (zJ c27)<|kT<|ar 9<|gi 2 [19,28] [(30,.bool (R==8))]<|jn h (λc36 h=>?_) (λc36 h=>?_)
  ·refine aH 30 (zK c36)<|zj 6<|aA<|zz<|aA<|zz<|aA<|zz<|aA<|zz<|aA<|zz<|aA<|aJ<|aE<|gv<|ar 16<|fd 1 [30] [(48,Vq ((ad bh).add 5))]<|have⟨bk,af,bn,q38,h⟩:=h;hV 49 25 q38 [48]<|fd 3 [49] [(52,.bool (decide ((af:Int)<=62)))]<|jn h (λc39 h=>?_) (λc39 h=>?_)
   ·exact kc 52 (zX c39)<|fd 1 [1] [(53,Vq ((ad bh).add 5))]<|have⟨a2,a7,a0,q41,h⟩:=h;hV 54 25 q41 [53]<|l5 55 [54] h λa3 H9 h=>hH 3 [2] [.bool (!a3)] hQ h
   exact kc 52 (zQ c39)<|hH 6 [2] [VF] hQ h
  exact aG 30 (zJ c36)<|kT<|zj 0<|zz<|aA<|zz<|aA<|zz<|aA<|zz<|aA<|zz<|aA<|zz<|aA<|aJ<|aE<|ar 17<|hH 1 [2] [VT] hQ h
 exact aH 17 (Eg Bool.not (zZ c12))<|ar 2<|hH 1 [2] [VF] hQ h
namespace ij
def K0:=GC f42
def K2:=cb K0
def K4:=cb K2
def K6:=cb K4
def Cq:=ca K6
def Bt:=cb Cq
def B1:=ca Bt
def BF:=ca B1
end ij
def ij.pt(ak dC:Int)(aj:Bool)(ab:zW)(ac ae:Nat)(dT:ByteArray)(ax:zW)(ay aw:Nat):GJ:=λH R=>
 ∀b H1,b=H.size->H1=H.push (.cells (DR ak dC aj ab ac ae dT ax ay aw).toArray 27)->
 ∃x,hat H1 (ad b)=some (vi x)/\
 ∃J:zv,(
 if x=8 then(
 J 1 H1)
 else
 J 0 H1)/\ ∀nv H2,J nv H2->
 ∃xB xN xC,hat H2 ((ad b).add 5)=some (vs xB xN xC)/\
 ∃(av:Int->zv) (m17:Int->Int->zV->Nat),av nv 0 H2/\ ∀d s13 H3,av d s13 H3->
 if s13< (xN:Int)then(
 ∃f,xB=some f/\
 zw s13 xN/\
 ∃s aa u j m o xT al am an,aI H3 (f.add (Int.toNat s13*6)) 0 (DR s aa u j m o xT al am an)/\
 ∀g H4,g=H3.size->H4=H3.push (.cells GK.toArray 27)->
 (aF H4 (ad g) 0 6)/\ ∀H5,H5=aL H4 (ad g) (DR s aa u j m o xT al am an) 0->
 ∃z aq y p r q au ai ah ag,aI H5 (ad g) 0 (DR z aq y p r q au ai ah ag)/\
 ij.C z aq y p r q au ai ah ag H5 (λv H6=> ∃e,v=vi e/\
 ∃ao,hat H6 (ad b)=some (vi ao)/\
 if ao=7 then(
 ∃az af a0,hat H6 ((ad b).add 5)=some (vs az af a0)/\
 if(zY (s13+1))< (af:Int)then(
 (av (if d< (zY (e+1))then(zY (e+1))else d) (zY (s13+1)) H6/\m17 (if d< (zY (e+1))then(zY (e+1))else d) (zY (s13+1)) H6<m17 d s13 H3))
 else
 ∃ap,hat H6 (ad g)=some (vi ap)/\
 if ap=7 then(
 (av (if d<e then e else d) (zY (s13+1)) H6/\m17 (if d<e then e else d) (zY (s13+1)) H6<m17 d s13 H3))
 else
 (av (if d< (zY (e+1))then(zY (e+1))else d) (zY (s13+1)) H6/\m17 (if d< (zY (e+1))then(zY (e+1))else d) (zY (s13+1)) H6<m17 d s13 H3))
 else
 (av (if d< (zY (e+1))then(zY (e+1))else d) (zY (s13+1)) H6/\m17 (if d< (zY (e+1))then(zY (e+1))else d) (zY (s13+1)) H6<m17 d s13 H3)))
 else
 R (vi d) H3
theorem ij.link(h:pt b i g r j k a u o q H d):C b i g r j k a u o q H d:=by
 refine l2 K0 43 func42 ?_;intro w0 Q hQ;unfold pt zY at h;refine ki [(0,.agg (DR b i g r j k a u o q).toArray)]<|ar 0<|l1 (some 1) (λR=>vp (pa R)) (.cells (DR b i g r j k a u o q).toArray 27)<|λR H1 e1 e2=>have h:=h R H1 e1 e2;⟨[(1,vp (pa R))],pk,?_⟩;refine gi 1 [] []<|ar 1<|gi 1 [] [(3,vi 0)]<|gv<|ar 2<|fd 1 [] [(7,vp (pa R))]<|have⟨x,q3,h⟩:=h;hV 8 3 q3 [7]<|nx 1 [(1,vp (pa R)),(3,vi 0),(9,.bool (x==8))]<|have⟨J,h,j5⟩:=h;j2 (σ:=Int) (λs_=> [(1,vp (pa R)),(3,vi s_)]) (λs_ H=>J s_ H) ?_ ?_
 ·refine λnv H2 j6=>have h:=j5 nv H2 j6;ki [(1,vp (pa R)),(3,vi nv)]<|aE<|gv<|ar 4<|fd 1 [] [(10,Vq ((ad R).add 5))]<|have⟨xB,xN,xC,q7,h⟩:=h;hV 11 25 q7 [10]<|gi 2 [] [(12,vi xN),(13,vi 0)]<|k5 0<|have⟨av,m17,i8,i9⟩:=h;bI (x:=BF) (σ:=Int×Int) (λs_=> [(1,vp (pa R)),(3,vi s_.1),(11,vs xB xN xC),(12,vi xN),(13,vi s_.2)]) (λs_ H=>av s_.1 s_.2 H) (λs_ H=>m17 s_.1 s_.2 H) ((nv,0):Int×Int) GE i8 sk ?_;rintro⟨aw,s13⟩ H3 i10;have h:=i9 aw s13 H3 i10;refine ki [(1,vp (pa R)),(3,vi aw),(11,vs xB xN xC),(12,vi xN),(13,vi s13)]<|ar 5<|gi 1 [] [(14,.bool (decide (s13< (xN:Int))))]<|gv<|jn h (λc11 h=>?_) (λc11 h=>?_)
  ·refine aH 14 (zX c11)<|kT<|gv<|k5 1<|ar 6<|fd 1 [14] [(15,vi s13)] ?_;obtain⟨f,rfl,q13,ha⟩:=h;refine ww (some 16) 25 27 6 f xN xC .i64 s13 EK q13.1 q13.2 [11] [(11,vs (some f) xN xC),(16,Vq (f.add (Int.toNat s13*6)))]<|have⟨s,aa,ab,ax,m,dT,xT,al,am,an,q14,h⟩:=ha;na 17 27 q14 [16]<|l1 (some 5) (λR=>vp (pa R)) (.cells GK.toArray 27)<|λay H4 e15 e16=>have h:=h ay H4 e15 e16;im [] [(5,vp (pa ay))]<|fd 1 [15] [(4,vi s13)]<|have⟨q18,h⟩:=h;bF 27 (DR s aa ab ax m dT xT al am an) q18<|λH5 e17=>have h:=h H5 e17;im [17] []<|ue<|ar 7<|have⟨z,aq,y,p,ac,ae,au,ai,ah,ag,q19,h⟩:=h;na 18 27 q19 []<|l5 19 [18] h λe H6 h=>gi 1 [19] [(6,vi e)]<|gv<|ar 8<|fd 1 [] [(20,vp (pa R))]<|have⟨ao,q20,h⟩:=h;hV 21 3 q20 [20]<|fd 2 [21] [(23,.bool (ao !=7))]<|jn h (λc21 h=>?_) (λc21 h=>?_)
   ·refine kc 23 (Em.mpr c21)<|fd 3 [4] [(25,vi (zY (s13+1))),(26,Vq ((ad R).add 5))]<|have⟨az,af,a0,q23,h⟩:=h;hV 27 25 q23 [26]<|fd 4 [23,25,27] [(31,.bool (decide ((zY (s13+1))< (af:Int))))]<|jn h (λc24 h=>?_) (λc24 h=>?_)
    ·exact kc 31 (zX c24)<|gi 4 [5,31] [(35,VT)]<|l7 35<|k4 9<|gi 3 [6,35] [(6,vi (zY (e+1)))]<|k4 10<|fd 4 [3,6] [(3,vi (if aw< (zY (e+1))then(zY (e+1))else aw))]<|zq<|aD<|aE<|k4 11<|gi 2 [13] [(13,vi (zY (s13+1)))]<|aQ (((if aw< (zY (e+1))then(zY (e+1))else aw),(zY (s13+1))):Int×Int) sk h
    refine kc 31 (zQ c24)<|fd 1 [5] [(32,vp (pa ay))]<|have⟨ap,q26,h⟩:=h;hV 33 3 q26 [32]<|gi 2 [31,33] [(35,.bool (ap !=7))]<|jn h (λc27 h=>?_) (λc27 h=>?_)
    ·exact aG 35 (Em.mpr c27)<|kT<|k4 10<|fd 4 [3,6,35] [(3,vi (if aw<e then e else aw))]<|zq<|aD<|aE<|k4 11<|gi 2 [13] [(13,vi (zY (s13+1)))]<|aQ (((if aw<e then e else aw),(zY (s13+1))):Int×Int) sk h
    exact aH 35 (En.mpr c27)<|k4 9<|gi 3 [6,35] [(6,vi (zY (e+1)))]<|k4 10<|fd 4 [3,6] [(3,vi (if aw< (zY (e+1))then(zY (e+1))else aw))]<|zq<|aD<|aE<|k4 11<|gi 2 [13] [(13,vi (zY (s13+1)))]<|aQ (((if aw< (zY (e+1))then(zY (e+1))else aw),(zY (s13+1))):Int×Int) sk h
   exact kc 23 (En.mpr c21)<|gi 12 [4,5,23] [(35,VT)]<|l7 35<|k4 9<|gi 3 [6,35] [(6,vi (zY (e+1)))]<|k4 10<|fd 4 [3,6] [(3,vi (if aw< (zY (e+1))then(zY (e+1))else aw))]<|zq<|aD<|aE<|k4 11<|gi 2 [13] [(13,vi (zY (s13+1)))]<|aQ (((if aw< (zY (e+1))then(zY (e+1))else aw),(zY (s13+1))):Int×Int) sk h
  exact aG 14 (zQ c11)<|zj 0<|aA<|aA<|aJ<|aE<|ar 12<|hH 2 [2] [vi aw] hQ h
 revert h;refine CU (λc29 h=>?_) (λc29 h=>?_)
 ·have b30:(x==8)=true:=zK c29;refine cW [(1,vp (pa R)),(3,vi 0),(9,VT)] (by simp only[b30,Es,Ep]) ?_;clear b30;exact l7 9<|k4 3<|gi 1 [3,9] [(3,vi 1)]<|dL (1:Int) sk h
 have b30:(x==8)=false:=zJ c29;refine cW [(1,vp (pa R)),(3,vi 0),(9,VF)] (by simp only[b30,Es,Ep]) ?_;clear b30;exact pN 9<|kT<|dL (0:Int) sk h
def jb.K0:=GC f95
def jb.pt(s aC:Int)(t:Bool)(g:zW)(j i:Nat)(aT:ByteArray)(am:zW)(al ak:Nat)(o bC:Int)(m:Bool)(d:zW)(f e:Nat)(bT:ByteArray)(aj:zW)(ah ai:Nat):GJ:=λH R=>
 ∀b H1,b=H.size->H1=H.push (.cells (DR s aC t g j i aT am al ak).toArray 27)->
 ∀a H2,a=H1.size->H2=H1.push (.cells (DR o bC m d f e bT aj ah ai).toArray 27)->
 ∃x,hat H2 (ad b)=some (vi x)/\
 ∃z,hat H2 (ad a)=some (vi z)/\
 if x=z then(
 ∃r,hat H2 ((ad b).add 1)=some (.int .i32 r)/\
 ∃ab,hat H2 ((ad a).add 1)=some (.int .i32 ab)/\
 if r=ab then(
 ∃p,hat H2 ((ad b).add 2)=some (.bool p)/\
 ∃y,hat H2 ((ad a).add 2)=some (.bool y)/\
 if p=y then(
 ∃xB xN xC,hat H2 (((ad b).add 2).add 1)=some (vs xB xN xC)/\
 ∃ac ae af,hat H2 (((ad a).add 2).add 1)=some (vs ac ae af)/\
 bU.C xB xN xC ac ae af H2 (λv H3=> ∃ag,v=.bool ag/\
 if ag=true then(
 ∃q,hat H3 ((ad b).add 4)=some (.string q)/\
 ∃aa,hat H3 ((ad a).add 4)=some (.string aa)/\
 if q.toList=aa.toList then(
 ∃ap k ao,hat H3 ((ad b).add 5)=some (vs ap k ao)/\
 ∃an u aq,hat H3 ((ad a).add 5)=some (vs an u aq)/\
 R (.bool ((k:Int)==(u:Int))) H3)
 else
 R VF H3)
 else
 R VF H3))
 else
 R VF H2)
 else
 R VF H2)
 else
 R VF H2
theorem jb.link{aT bC:Int}{m:Bool}{al:zW}{f e:Nat}{bT:ByteArray}{aj:zW}{ah ai:Nat}(h:pt b i g r j k a u o q aT bC m al f e bT aj ah ai H d):C b i g r j k a u o q aT bC m al f e bT aj ah ai H d:=by
 refine l2 K0 51 func95 ?_;intro w0 Q hQ;unfold pt at h;refine ki [(0,.agg (DR b i g r j k a u o q).toArray),(1,.agg (DR aT bC m al f e bT aj ah ai).toArray)]<|ar 0<|l1 (some 2) (λak=>vp (pa ak)) (.cells (DR b i g r j k a u o q).toArray 27)<|λak H1 e1 e2=>have h:=h ak H1 e1 e2;im [0] [(2,vp (pa ak))]<|l1 (some 3) (λak=>vp (pa ak)) (.cells (DR aT bC m al f e bT aj ah ai).toArray 27)<|λR H2 e3 e4=>have h:=h R H2 e3 e4;im [1] [(3,vp (pa R))]<|gi 1 [] []<|ar 1<|fd 1 [] [(5,vp (pa ak))]<|have⟨x,q5,h⟩:=h;hV 6 3 q5 [5]<|fd 1 [] [(7,vp (pa R))]<|have⟨z,q6,h⟩:=h;hV 8 3 q6 [7]<|fd 2 [6,8] [(10,.bool (x==z))]<|jn h (λc7 h=>?_) (λc7 h=>?_)
 ·refine kc 10 (zK c7)<|fd 1 [] [(11,Vq ((ad ak).add 1))]<|have⟨aC,q9,h⟩:=h;hV 12 21 q9 [11]<|fd 1 [] [(13,Vq ((ad R).add 1))]<|have⟨ab,q10,h⟩:=h;hV 14 21 q10 [13]<|fd 3 [10,12,14] [(17,.bool (aC==ab))]<|jn h (λc11 h=>?_) (λc11 h=>?_)
  ·refine kc 17 (zK c11)<|fd 2 [] [(19,Vq ((ad ak).add 2))]<|have⟨p,q13,h⟩:=h;hV 20 4 q13 [19]<|fd 2 [] [(22,Vq ((ad R).add 2))]<|have⟨y,q14,h⟩:=h;hV 23 4 q14 [22]<|fd 3 [17,20,23] [(26,.bool (p==y))]<|jn h (λc15 h=>?_) (λc15 h=>?_)
   ·refine kc 26 (zK c15)<|fd 2 [] [(28,Vq (((ad ak).add 2).add 1))]<|have⟨xB,xN,xC,q17,h⟩:=h;hV 29 22 q17 [28]<|fd 2 [] [(31,Vq (((ad R).add 2).add 1))]<|have⟨ac,ae,af,q18,h⟩:=h;hV 32 22 q18 [31]<|l5 33 [29,32] h λag H3 h=>fd 2 [26,33] [(35,.bool ag)]<|jn h (λc19 h=>?_) (λc19 h=>?_)
    ·refine kc 35 c19<|fd 1 [] [(36,Vq ((ad ak).add 4))]<|have⟨t,q21,h⟩:=h;hV 37 9 q21 [36]<|fd 1 [] [(38,Vq ((ad R).add 4))]<|have⟨aa,q22,h⟩:=h;hV 39 9 q22 [38]<|fd 3 [35,37,39] [(42,.bool (t.toList==aa.toList))]<|jn h (λc23 h=>?_) (λc23 h=>?_)
     ·exact kc 42 (zK c23)<|fd 1 [2] [(43,Vq ((ad ak).add 5))]<|have⟨ap,am,ao,q25,h⟩:=h;hV 44 25 q25 [43]<|fd 2 [3,44] [(45,vi am),(46,Vq ((ad R).add 5))]<|have⟨an,s,aq,q26,h⟩:=h;hV 47 25 q26 [46]<|hH 4 [4] [.bool ((am:Int)==(s:Int))] hQ h
     exact kc 42 (zJ c23)<|hH 9 [4] [VF] hQ h
    exact kc 35 (zZ c19)<|hH 16 [4] [VF] hQ h
   exact kc 26 (zJ c15)<|hH 25 [4] [VF] hQ h
  exact kc 17 (zJ c11)<|hH 34 [4] [VF] hQ h
 exact kc 10 (zJ c7)<|hH 41 [4] [VF] hQ h
def jI.K0:=GC f96
def jI.pt(c2 dC:Int)(c1:Bool)(bi:zW)(bj bk:Nat)(dT:ByteArray)(d2:zW)(d3 d1:Nat):GJ:=λH R=>
 ∀b H1,b=H.size->H1=H.push (.cells (DR c2 dC c1 bi bj bk dT d2 d3 d1).toArray 27)->
 ∀a H2,a=H1.size->H2=H1.push (.cells GK.toArray 27)->
 ∃x,hat H2 (ad b)=some (vi x)/\
 ∀d H3,d=H2.size->H3=H2.push (.cells GK.toArray 27)->
 (aF H3 (ad d) 0 6)/\ ∀H4,H4=aL H3 (ad d) (DR x 0 false none 0 0 (ByteArray.mk #[]) none 0 0) 0->
 ∃e,hat H4 (ad b)=some (vi e)/\
 if e=3 then(
 ∃c7,hat H4 ((ad b).add 1)=some (.int .i32 c7)/\
 (aF H4 ((ad d).add 1) 0 1)/\ ∀H5,H5=aL H4 ((ad d).add 1) [.int .i32 c7] 0->
 ∃a1 xC bh ap aq au xT da db c9,aI H5 (ad d) 0 (DR a1 xC bh ap aq au xT da db c9)/\
 (aF H5 (ad a) 0 6)/\ ∀H6,H6=aL H5 (ad a) (DR a1 xC bh ap aq au xT da db c9) 0->
 ∃dc rC dj c4 c6 c5 rT en em eo,aI H6 (ad a) 0 (DR dc rC dj c4 c6 c5 rT en em eo)/\
 R (.agg (DR dc rC dj c4 c6 c5 rT en em eo).toArray) H6)
 else
 if e=4 then(
 ∃bp aw av ax,aI H4 ((ad b).add 2) 0 [.bool bp,vs aw av ax]/\
 (aF H4 ((ad d).add 2) 0 2)/\ ∀H7,H7=aL H4 ((ad d).add 2) [.bool bp,vs aw av ax] 0->
 ∃al cn an s j t cg a4 bf bc,aI H7 (ad d) 0 (DR al cn an s j t cg a4 bf bc)/\
 (aF H7 (ad a) 0 6)/\ ∀H8,H8=aL H7 (ad a) (DR al cn an s j t cg a4 bf bc) 0->
 ∃cs d7 cz bt b1 b4 d5 dt dr dp,aI H8 (ad a) 0 (DR cs d7 cz bt b1 b4 d5 dt dr dp)/\
 R (.agg (DR cs d7 cz bt b1 b4 d5 dt dr dp).toArray) H8)
 else
 if e=5 then(
 ∃c3,hat H4 ((ad b).add 4)=some (.string c3)/\
 (aF H4 ((ad d).add 4) 0 1)/\ ∀H9,H9=aL H4 ((ad d).add 4) [.string c3] 0->
 ∃am cj ah y g r cl a6 ba bd,aI H9 (ad d) 0 (DR am cj ah y g r cl a6 ba bd)/\
 (aF H9 (ad a) 0 6)/\ ∀el,el=aL H9 (ad a) (DR am cj ah y g r cl a6 ba bd) 0->
 ∃c0 d8 cy b5 b0 b8 d9 de dk du,aI el (ad a) 0 (DR c0 d8 cy b5 b0 b8 d9 de dk du)/\
 R (.agg (DR c0 d8 cy b5 b0 b8 d9 de dk du).toArray) el)
 else
 if e=6 then(
 ∃c8,hat H4 ((ad b).add 4)=some (.string c8)/\
 (aF H4 ((ad d).add 4) 0 1)/\ ∀dz,dz=aL H4 ((ad d).add 4) [.string c8] 0->
 ∃ao ck aj z f i ce a0 a9 a7,aI dz (ad d) 0 (DR ao ck aj z f i ce a0 a9 a7)/\
 (aF dz (ad a) 0 6)/\ ∀ek,ek=aL dz (ad a) (DR ao ck aj z f i ce a0 a9 a7) 0->
 ∃cw ea cu bw bu br eb dg dn di,aI ek (ad a) 0 (DR cw ea cu bw bu br eb dg dn di)/\
 R (.agg (DR cw ea cu bw bu br eb dg dn di).toArray) ek)
 else
 if e=7 then(
 ∃xB xN bx,hat H4 ((ad b).add 5)=some (vs xB xN bx)/\
 (aF H4 ((ad d).add 5) 0 1)/\ ∀d0,d0=aL H4 ((ad d).add 5) [vs xB xN bx] 0->
 ∃ai cm ag q m u cc be bb a3,aI d0 (ad d) 0 (DR ai cm ag q m u cc be bb a3)/\
 (aF d0 (ad a) 0 6)/\ ∀eh,eh=aL d0 (ad a) (DR ai cm ag q m u cc be bb a3) 0->
 ∃cq ef ct b6 bo b7 eg dh dm dl,aI eh (ad a) 0 (DR cq ef ct b6 bo b7 eg dh dm dl)/\
 R (.agg (DR cq ef ct b6 bo b7 eg dh dm dl).toArray) eh)
 else
 if e=8 then(
 ∃bl bm b2,hat H4 ((ad b).add 5)=some (vs bl bm b2)/\
 (aF H4 ((ad d).add 5) 0 1)/\ ∀dy,dy=aL H4 ((ad d).add 5) [vs bl bm b2] 0->
 ∃af cd ae k aa ab ch bg az a8,aI dy (ad d) 0 (DR af cd ae k aa ab ch bg az a8)/\
 (aF dy (ad a) 0 6)/\ ∀ej,ej=aL dy (ad a) (DR af cd ae k aa ab ch bg az a8) 0->
 ∃cr d4 cv bz bq b3 ee dd dw dx,aI ej (ad a) 0 (DR cr d4 cv bz bq b3 ee dd dw dx)/\
 R (.agg (DR cr d4 cv bz bq b3 ee dd dw dx).toArray) ej)
 else
 ∃ak co ac p v o ci a5 a2 ay,aI H4 (ad d) 0 (DR ak co ac p v o ci a5 a2 ay)/\
 (aF H4 (ad a) 0 6)/\ ∀ei,ei=aL H4 (ad a) (DR ak co ac p v o ci a5 a2 ay) 0->
 ∃cp ec cx bn bs b9 d6 df dv dq,aI ei (ad a) 0 (DR cp ec cx bn bs b9 d6 df dv dq)/\
 R (.agg (DR cp ec cx bn bs b9 d6 df dv dq).toArray) ei
theorem jI.link(h:pt b i g r j k a u o q H d):C b i g r j k a u o q H d:=by
 refine l2 K0 32 func96 ?_;intro w0 Q hQ;unfold pt at h;refine ki [(0,.agg (DR b i g r j k a u o q).toArray)]<|ar 0<|l1 (some 1) (λd1=>vp (pa d1)) (.cells (DR b i g r j k a u o q).toArray 27)<|λd1 H1 e1 e2=>have h:=h d1 H1 e1 e2;⟨[(1,vp (pa d1))],pk,?_⟩;refine l1 (some 2) (λd1=>vp (pa d1)) (.cells GK.toArray 27)<|λR H2 e3 e4=>have h:=h R H2 e3 e4;im [] [(2,vp (pa R))]<|ue<|ar 1<|fd 1 [] [(4,vp (pa d1))]<|have⟨x,q5,h⟩:=h;hV 5 3 q5 [4]<|fd 1 [5] [(6,.agg (DR x 0 false none 0 0 (ByteArray.mk #[]) none 0 0).toArray)]<|l1 (some 3) (λd1=>vp (pa d1)) (.cells GK.toArray 27)<|λd3 H3 e6 e7=>have h:=h d3 H3 e6 e7;im [] [(3,vp (pa d3))]<|have⟨q9,h⟩:=h;bF 27 (DR x 0 false none 0 0 (ByteArray.mk #[]) none 0 0) q9<|λH4 e8=>have h:=h H4 e8;im [6] []<|ue<|gv<|ar 2<|fd 1 [] [(7,vp (pa d1))]<|have⟨e,q10,h⟩:=h;hV 8 3 q10 [7]<|ue<|k5 0<|ar 3<|gi 2 [] [(9,.bool (e==3))]<|jn h (λc11 h=>?_) (λc11 h=>?_)
 ·refine aH 9 (zK c11)<|k4 4<|fd 1 [1,8,9] [(11,Vq ((ad d1).add 1))]<|have⟨c7,q13,h⟩:=h;hV 12 21 q13 [11]<|fd 1 [] [(13,Vq ((ad d3).add 1))]<|have⟨q15,h⟩:=h;fj 21 (.int .i32 c7) q15<|λH5 e14=>have h:=h H5 e14;im [12,13] []<|zq<|aD<|aE<|ar 13<|have⟨a1,xC,bh,ap,aq,au,xT,da,db,c9,q16,h⟩:=h;na 31 27 q16 [3]<|have⟨q18,h⟩:=h;bF 27 (DR a1 xC bh ap aq au xT da db c9) q18<|λH6 e17=>have h:=h H6 e17;im [31] []<|ue<|zx ?_;show At _ _ _ _ _ (Q .ret);exact have⟨dc,rC,dj,c4,c6,c5,rT,en,em,eo,q19,h⟩:=h;bY (fn:=f96) [.agg (DR dc rC dj c4 c6 c5 rT en em eo).toArray] hQ (show bG _ _ _ [.cell 2 27] _ from .cell GE (aR Et Et q19) (.nil)) h
 refine aG 9 (zJ c11)<|ar 5<|gi 2 [9] [(14,.bool (e==4))]<|jn h (λc20 h=>?_) (λc20 h=>?_)
 ·refine aH 14 (zK c20)<|k4 6<|fd 1 [1,8,14] [(16,Vq ((ad d1).add 2))]<|have⟨bp,aw,av,ax,q22,h⟩:=h;na 17 24 q22 [16]<|fd 1 [] [(18,Vq ((ad d3).add 2))]<|have⟨q24,h⟩:=h;bF 24 [.bool bp,vs aw av ax] q24<|λH7 e23=>have h:=h H7 e23;im [17,18] []<|zq<|aD<|aE<|ar 13<|have⟨al,cn,an,s,bk,t,cg,a4,bf,bc,q25,h⟩:=h;na 31 27 q25 [3]<|have⟨q27,h⟩:=h;bF 27 (DR al cn an s bk t cg a4 bf bc) q27<|λH8 e26=>have h:=h H8 e26;im [31] []<|ue<|zx ?_;show At _ _ _ _ _ (Q .ret);exact have⟨cs,d7,cz,bt,b1,b4,d5,dt,dr,dp,q28,h⟩:=h;bY (fn:=f96) [.agg (DR cs d7 cz bt b1 b4 d5 dt dr dp).toArray] hQ (show bG _ _ _ [.cell 2 27] _ from .cell GE (aR Et Et q28) (.nil)) h
 refine aG 14 (zJ c20)<|gv<|ar 7<|gi 2 [14] [(19,.bool (e==5))]<|jn h (λc29 h=>?_) (λc29 h=>?_)
 ·refine n7 19 (zK c29)<|l7 19<|kT<|l7 19<|k4 9<|fd 1 [1,8,19] [(22,Vq ((ad d1).add 4))]<|have⟨c3,q31,h⟩:=h;hV 23 9 q31 [22]<|fd 1 [] [(24,Vq ((ad d3).add 4))]<|have⟨q33,h⟩:=h;fj 9 (.string c3) q33<|λH9 e32=>have h:=h H9 e32;im [23,24] []<|zq<|aD<|aE<|ar 13<|have⟨am,cj,ah,y,d2,dC,cl,a6,ba,bd,q34,h⟩:=h;na 31 27 q34 [3]<|have⟨q36,h⟩:=h;bF 27 (DR am cj ah y d2 dC cl a6 ba bd) q36<|λel e35=>have h:=h el e35;im [31] []<|ue<|zx ?_;show At _ _ _ _ _ (Q .ret);exact have⟨c0,d8,cy,b5,b0,b8,d9,de,dk,du,q37,h⟩:=h;bY (fn:=f96) [.agg (DR c0 d8 cy b5 b0 b8 d9 de dk du).toArray] hQ (show bG _ _ _ [.cell 2 27] _ from .cell GE (aR Et Et q37) (.nil)) h
 refine n7 19 (zJ c29)<|pN 19<|k4 8<|gi 2 [19] [(19,.bool (e==6))]<|jn h (λc38 h=>?_) (λc38 h=>?_)
 ·refine aH 19 (zK c38)<|k4 9<|fd 1 [1,8,19] [(22,Vq ((ad d1).add 4))]<|have⟨c8,q40,h⟩:=h;hV 23 9 q40 [22]<|fd 1 [] [(24,Vq ((ad d3).add 4))]<|have⟨q42,h⟩:=h;fj 9 (.string c8) q42<|λdz e41=>have h:=h dz e41;im [23,24] []<|zq<|aD<|aE<|ar 13<|have⟨ao,ck,aj,z,f,dT,ce,a0,a9,a7,q43,h⟩:=h;na 31 27 q43 [3]<|have⟨q45,h⟩:=h;bF 27 (DR ao ck aj z f dT ce a0 a9 a7) q45<|λek e44=>have h:=h ek e44;im [31] []<|ue<|zx ?_;show At _ _ _ _ _ (Q .ret);exact have⟨cw,ea,cu,bw,bu,br,eb,dg,dn,di,q46,h⟩:=h;bY (fn:=f96) [.agg (DR cw ea cu bw bu br eb dg dn di).toArray] hQ (show bG _ _ _ [.cell 2 27] _ from .cell GE (aR Et Et q46) (.nil)) h
 refine aG 19 (zJ c38)<|gv<|ar 10<|gi 2 [19] [(25,.bool (e==7))]<|jn h (λc47 h=>?_) (λc47 h=>?_)
 ·refine n7 25 (zK c47)<|l7 25<|kT<|l7 25<|k4 12<|fd 1 [1,8,25] [(28,Vq ((ad d1).add 5))]<|have⟨xB,xN,bx,q49,h⟩:=h;hV 29 25 q49 [28]<|fd 1 [] [(30,Vq ((ad d3).add 5))]<|have⟨q51,h⟩:=h;fj 25 (vs xB xN bx) q51<|λd0 e50=>have h:=h d0 e50;im [29,30] []<|zq<|aD<|aE<|ar 13<|have⟨ai,cm,ag,c1,m,c2,cc,be,bb,a3,q52,h⟩:=h;na 31 27 q52 [3]<|have⟨q54,h⟩:=h;bF 27 (DR ai cm ag c1 m c2 cc be bb a3) q54<|λeh e53=>have h:=h eh e53;im [31] []<|ue<|zx ?_;show At _ _ _ _ _ (Q .ret);exact have⟨cq,ef,ct,b6,bo,b7,eg,dh,dm,dl,q55,h⟩:=h;bY (fn:=f96) [.agg (DR cq ef ct b6 bo b7 eg dh dm dl).toArray] hQ (show bG _ _ _ [.cell 2 27] _ from .cell GE (aR Et Et q55) (.nil)) h
 refine n7 25 (zJ c47)<|pN 25<|k4 11<|gi 2 [8,25] [(25,.bool (e==8))]<|jn h (λc56 h=>?_) (λc56 h=>?_)
 ·refine aH 25 (zK c56)<|k4 12<|fd 1 [1,25] [(28,Vq ((ad d1).add 5))]<|have⟨bl,bm,b2,q58,h⟩:=h;hV 29 25 q58 [28]<|fd 1 [] [(30,Vq ((ad d3).add 5))]<|have⟨q60,h⟩:=h;fj 25 (vs bl bm b2) q60<|λdy e59=>have h:=h dy e59;im [29,30] []<|zq<|aD<|aE<|ar 13<|have⟨af,cd,ae,bj,aa,ab,ch,bg,az,a8,q61,h⟩:=h;na 31 27 q61 [3]<|have⟨q63,h⟩:=h;bF 27 (DR af cd ae bj aa ab ch bg az a8) q63<|λej e62=>have h:=h ej e62;im [31] []<|ue<|zx ?_;show At _ _ _ _ _ (Q .ret);exact have⟨cr,d4,cv,bz,bq,b3,ee,dd,dw,dx,q64,h⟩:=h;bY (fn:=f96) [.agg (DR cr d4 cv bz bq b3 ee dd dw dx).toArray] hQ (show bG _ _ _ [.cell 2 27] _ from .cell GE (aR Et Et q64) (.nil)) h
 refine aG 25 (zJ c56)<|Bn<|aD<|aE<|ar 13<|p0 [1,25] []<|have⟨ak,co,ac,p,v,bi,ci,a5,a2,ay,q65,h⟩:=h;na 31 27 q65 [3]<|have⟨q67,h⟩:=h;bF 27 (DR ak co ac p v bi ci a5 a2 ay) q67<|λei e66=>have h:=h ei e66;im [31] []<|ue<|zx ?_;show At _ _ _ _ _ (Q .ret);exact have⟨cp,ec,cx,bn,bs,b9,d6,df,dv,dq,q68,h⟩:=h;bY (fn:=f96) [.agg (DR cp ec cx bn bs b9 d6 df dv dq).toArray] hQ (show bG _ _ _ [.cell 2 27] _ from .cell GE (aR Et Et q68) (.nil)) h
def iN.K0:=GC f99
def iN.pt(s:ByteArray)(a:Int):GJ:=λH R=>
 bD.C s H (λv H1=> ∃x,v=vi x/\
 bK.C s H1 (λd H2=> ∃b,d=.bool b/\
 R (.bool ((b && (decide (x>=a))) && (decide (x<=62)))) H2))
theorem iN.link(h:pt a b H d):C a b H d:=by
 refine l2 K0 19 func99 ?_;intro w0 Q hQ;unfold pt at h;refine ki [(0,.string a),(1,vi b)]<|ar 0<|gi 1 [] []<|ar 1<|fd 1 [] [(6,.string a)]<|l5 7 [6] h λx H1 h=>gi 1 [7] [(5,vi x)]<|ar 2<|fd 1 [0] [(8,.string a)]<|l5 9 [8] h λR H2 h=>fd 1 [9] [(10,.bool R)]<|gU [(4,.bool ((R && (decide (x>=b))) && (decide (x<=62))))] ?_ ?_
 ·exact aE<|ix [4] [.bool ((R && (decide (x>=b))) && (decide (x<=62)))] hQ h
 refine λhk=>BM [(1,vi b),(5,vi x),(10,.bool R)] ?_;by_cases c1:R=true
 ·have b2:R=true:=c1;refine bW [(1,vi b),(5,vi x),(10,VT)] (by rw[b2])<|fd 5 [1,10] [(15,.bool (decide (x>=b)))] ?_;by_cases c3:x>=b
  ·have b4:(decide (x>=b))=true:=zX c3;exact kc 15 b4<|nb 4 [(4,.bool (decide (x<=62)))]<|zq<|cW [(4,.bool ((R && (decide (x>=b))) && (decide (x<=62))))] (by simp only[b2,b4,BL])<|hk
  have b4:(decide (x>=b))=false:=zQ c3;exact kc 15 b4<|nb 4 [(4,VF)]<|zq<|cW [(4,.bool ((R && (decide (x>=b))) && (decide (x<=62))))] (by simp only[b2,b4,BL])<|hk
 have b2:R=false:=zZ c1;exact bW [(1,vi b),(5,vi x),(10,VF)] (by rw[b2])<|nb 9 [(4,VF)]<|zq<|cW [(4,.bool ((R && (decide (x>=b))) && (decide (x<=62))))] (by simp only[b2,BL])<|hk
def il.K0:=GC f101
def il.pt(r xC:Int)(q:Bool)(j:zW)(k i:Nat)(xT:ByteArray)(z:zW)(u y:Nat):GJ:=λH R=>
 ∀b H1,b=H.size->H1=H.push (.cells (DR r xC q j k i xT z u y).toArray 27)->
 ∃g t f e d a s o p m,aI H1 (ad b) 0 (DR g t f e d a s o p m)/\
 ii.C g t f e d a s o p m H1 (λv H2=> ∃x,v=.bool x/\
 R (.bool (!x)) H2)
theorem il.link(h:pt b i g r j k a u o q H d):C b i g r j k a u o q H d:=by
 refine l2 K0 6 func101 ?_;intro w0 Q hQ;unfold pt at h;refine ki [(0,.agg (DR b i g r j k a u o q).toArray)]<|ar 0<|l1 (some 1) (λy=>vp (pa y)) (.cells (DR b i g r j k a u o q).toArray 27)<|λy H1 e1 e2=>have h:=h y H1 e1 e2;⟨[(1,vp (pa y))],pk,?_⟩;exact gi 1 [] []<|ar 1<|have⟨xT,t,f,e,z,R,s,xC,p,m,q3,h⟩:=h;na 3 27 q3 [1]<|BD 4 (λx=>[(4,.bool x)]) h λx H2 h=>hH 2 [2] [.bool (!x)] hQ h
end Go.Proofs.YtillhdiiglamhaaGreatDoor
namespace Go.Proofs.YtillhdiiglamhaaGreatDoor
open Go Go.Proofs.Tryz
open Int(toNat)
variable{H:zV}{a:zk}
namespace bK
def K0:=GC f47
def K2:=cb K0
def K3:=ca K2
def K5:=ca K3
def K6:=ca K5
def K8:=cb K6
def BK:=ca K8
def B1:=cb BK
def BF:=ca B1
def BR:=cb BF
def Co:=ca BR
def Ch:=cb Co
def CH:=ca Ch
def B8:=cb CH
def CJ:=ca B8
def Cc:=cb CJ
def Cx:=ca Cc
def Cg:=cb Cc
def C7:=ca Cg
def C3:=cb C7
def CR:=ca C3
def CW:=ca CR
def C6:=ca CW
def CL:=ca C6
end bK
def bK.pt(s:ByteArray):GJ:=λH R=>
 ∃(I7:ByteArray->zV->Prop) (m7:ByteArray->zV->Nat),I7 s H/\ ∀d H1,I7 d H1->
 if(d.size:Int)>0 then(
 ∃c:UInt8,((0:Int)<=0/\d[toNat 0]?=some c)/\
 if((c.toNat:Nat):Int)<128 then(
 ∃(lo hi:Nat),1=(lo:Int)/\hi=d.size/\lo<=hi/\hi<=d.size/\
 ∃J:Bool->zV->Prop,(
 if((d.extract lo hi).size:Int)>8 then(
 aX.C (d.extract lo hi) H1 (λbs bt=> ∃bj,bs=vu bj/\
 J ((l3 .u64 bj 9259542123273814144)==0) bt))
 else
 J false H1)/\ ∀bf H2,J bf H2->
 ∃bh:ByteArray->zV->Prop,(
 if bf=true then(
 ∃(g f:Nat),8=(g:Int)/\f=(d.extract lo hi).size/\g<=f/\f<=(d.extract lo hi).size/\
 ∃bl:Bool->zV->Prop,(
 if(((d.extract lo hi).extract g f).size:Int)>16 then(
 ∃(bc a8:Nat),8=(bc:Int)/\a8=((d.extract lo hi).extract g f).size/\bc<=a8/\a8<=((d.extract lo hi).extract g f).size/\
 aX.C ((d.extract lo hi).extract g f) H2 (λbr bu=> ∃ak,br=vu ak/\
 aX.C (((d.extract lo hi).extract g f).extract bc a8) bu (λbo bn=> ∃an,bo=vu an/\
 bl ((l3 .u64 (mp .u64 ak an) 9259542123273814144)==0) bn)))
 else
 bl false H2)/\ ∀bg H4,bl bg H4->
 if bg=true then(
 ∃(bb a7:Nat),16=(bb:Int)/\a7=((d.extract lo hi).extract g f).size/\bb<=a7/\a7<=((d.extract lo hi).extract g f).size/\
 ∃(bk:ByteArray->zV->Prop) (m40:ByteArray->zV->Nat),bk (((d.extract lo hi).extract g f).extract bb a7) H4/\ ∀e H5,bk e H5->
 if(e.size:Int)>32 then(
 ∃(ap al:Nat),8=(ap:Int)/\al=e.size/\ap<=al/\al<=e.size/\
 ∃(ao ae:Nat),16=(ao:Int)/\ae=e.size/\ao<=ae/\ae<=e.size/\
 ∃(ax aq:Nat),24=(ax:Int)/\aq=e.size/\ax<=aq/\aq<=e.size/\
 aX.C e H5 (λv H6=> ∃x,v=vu x/\
 aX.C (e.extract ap al) H6 (λbq H7=> ∃o,bq=vu o/\
 aX.C (e.extract ao ae) H7 (λbp H8=> ∃p,bp=vu p/\
 aX.C (e.extract ax aq) H8 (λbm H9=> ∃r,bm=vu r/\
 if(l3 .u64 (mp .u64 (mp .u64 x o) (mp .u64 p r)) 9259542123273814144)=0 then(
 ∃(a5 a1:Nat),32=(a5:Int)/\a1=e.size/\a5<=a1/\a1<=e.size/\
 (bk (e.extract a5 a1) H9/\m40 (e.extract a5 a1) H9<m40 e H5))
 else
 bh e H9)))))
 else
 bh e H5)
 else
 bh ((d.extract lo hi).extract g f) H4)
 else
 bh (d.extract lo hi) H2)/\ ∀bi H3,bh bi H3->
 (I7 bi H3/\m7 bi H3<m7 d H1))
 else
 ((0:Int)<=((c.toNat:Nat):Int)/\((c.toNat:Nat):Int)< (256:Int))/\
 ∃j,hat H1 ((ad 0).add (toNat ((c.toNat:Nat):Int)*1))=some (.int .u8 j)/\
 ((0:Int)<=(o0 .u8 j 4)/\(o0 .u8 j 4)< (16:Int))/\
 ∃be bd,aI H1 ((ad 1).add (toNat (o0 .u8 j 4)*2)) 0 [.int .u8 be,.int .u8 bd]/\
 ∀b H13,b=H1.size->H13=H1.push (.cells #[.int .u8 0,.int .u8 0] 162)->
 (aF H13 (ad b) 0 2)/\ ∀m,m=aL H13 (ad b) [.int .u8 be,.int .u8 bd] 0->
 if(zY (l3 .u8 j 7))=2 then(
 if(d.size:Int)<2 then(
 R VF m)
 else
 ∃az:UInt8,((0:Int)<=1/\d[toNat 1]?=some az)/\
 ∃a4,hat m (ad b)=some (.int .u8 a4)/\
 if((az.toNat:Nat):Int)<a4 then(
 R VF m)
 else
 ∃aa,hat m ((ad b).add 1)=some (.int .u8 aa)/\
 ∃ba:UInt8,((0:Int)<=1/\d[toNat 1]?=some ba)/\
 if aa< ((ba.toNat:Nat):Int)then(
 R VF m)
 else
 ∃(a6 a0:Nat),2=(a6:Int)/\a0=d.size/\a6<=a0/\a0<=d.size/\
 (I7 (d.extract a6 a0) m/\m7 (d.extract a6 a0) m<m7 d H1))
 else
 if(zY (l3 .u8 j 7))=3 then(
 if(d.size:Int)<3 then(
 R VF m)
 else
 ∃ay:UInt8,((0:Int)<=1/\d[toNat 1]?=some ay)/\
 ∃ac,hat m (ad b)=some (.int .u8 ac)/\
 if((ay.toNat:Nat):Int)<ac then(
 R VF m)
 else
 ∃u,hat m ((ad b).add 1)=some (.int .u8 u)/\
 ∃a3:UInt8,((0:Int)<=1/\d[toNat 1]?=some a3)/\
 if u< ((a3.toNat:Nat):Int)then(
 R VF m)
 else
 ∃a2:UInt8,((0:Int)<=2/\d[toNat 2]?=some a2)/\
 if((a2.toNat:Nat):Int)<128 then(
 R VF m)
 else
 ∃a9:UInt8,((0:Int)<=2/\d[toNat 2]?=some a9)/\
 if 191< ((a9.toNat:Nat):Int)then(
 R VF m)
 else
 ∃(av aj:Nat),3=(av:Int)/\aj=d.size/\av<=aj/\aj<=d.size/\
 (I7 (d.extract av aj) m/\m7 (d.extract av aj) m<m7 d H1))
 else
 if(zY (l3 .u8 j 7))=4 then(
 if(d.size:Int)<4 then(
 R VF m)
 else
 ∃y:UInt8,((0:Int)<=1/\d[toNat 1]?=some y)/\
 ∃ag,hat m (ad b)=some (.int .u8 ag)/\
 if((y.toNat:Nat):Int)<ag then(
 R VF m)
 else
 ∃z,hat m ((ad b).add 1)=some (.int .u8 z)/\
 ∃ab:UInt8,((0:Int)<=1/\d[toNat 1]?=some ab)/\
 if z< ((ab.toNat:Nat):Int)then(
 R VF m)
 else
 ∃ai:UInt8,((0:Int)<=2/\d[toNat 2]?=some ai)/\
 if((ai.toNat:Nat):Int)<128 then(
 R VF m)
 else
 ∃ah:UInt8,((0:Int)<=2/\d[toNat 2]?=some ah)/\
 if 191< ((ah.toNat:Nat):Int)then(
 R VF m)
 else
 ∃af:UInt8,((0:Int)<=3/\d[toNat 3]?=some af)/\
 if((af.toNat:Nat):Int)<128 then(
 R VF m)
 else
 ∃au:UInt8,((0:Int)<=3/\d[toNat 3]?=some au)/\
 if 191< ((au.toNat:Nat):Int)then(
 R VF m)
 else
 ∃(aw am:Nat),4=(aw:Int)/\am=d.size/\aw<=am/\am<=d.size/\
 (I7 (d.extract aw am) m/\m7 (d.extract aw am) m<m7 d H1))
 else
 R VF m)
 else
 R VT H1
theorem bK.link{s:ByteArray}(h:pt s H a):C s H a:=by
 refine l2 K0 169 func47 ?_;intro w0 Q hQ;unfold pt zY at h;refine ki [(0,.string s)]<|ar 0<|gi 1 [] []<|gv<|k5 0<|have⟨I7,m7,i1,i2⟩:=h;bI (x:=K6) (σ:=ByteArray) (λs_=> [(0,.string s_)]) (λs_ H=>I7 s_ H) (λs_ H=>m7 s_ H) (s:ByteArray) GE i1 sk ?_;rintro d H1 i3;have h:=i2 d H1 i3;refine ki [(0,.string d)]<|gv<|ar 1<|gi 3 [] [(9,.bool (decide ((d.size:Int)>0)))]<|jn h (λc4 h=>?_) (λc4 h=>?_)
 ·refine aH 9 (zX c4)<|kT<|k5 1<|ar 2<|fd 1 [9] [(10,.string d)]<|have⟨c,q6,h⟩:=h;wd 11 (fD 9 (.string d) (vi 0)) (.int .u8 ((c.toNat:Nat):Int)) (λw _=>bM (P:=prog) (t:=9) (s:=d) (k:=.i64) (i:=0) EB q6.1 q6.2 w) [10]<|gi 1 [11] [(3,.int .u8 ((c.toNat:Nat):Int))]<|gv<|ar 3<|gi 2 [] [(13,.bool (decide (((c.toNat:Nat):Int)<128)))]<|jn h (λc7 h=>?_) (λc7 h=>?_)
  ·refine aH 13 (zX c7)<|ar 4<|nb 1 [(14,.string d)]<|have⟨lo,hi,q9,q10,q11,q12,h⟩:=h;wd 15 (i0 9 (.string d) (some (vi 1)) none none) (.string (d.extract lo hi)) (λw _=>fR (P:=prog) (t:=9) (s:=d) (some (vi 1)) none lo hi EB (.inr ⟨.i64,Eg (λq=>some (Value.int .i64 q)) q9⟩) (.inl ⟨rfl,q10⟩) q11 q12 w) [14]<|nx 1 [(0,.string (d.extract lo hi))]<|gv<|gv<|have⟨J,h,j15⟩:=h;j2 (σ:=Bool) (λs_=> [(0,.string (d.extract lo hi)),(24,.bool s_)]) (λs_ H=>J s_ H) ?_ ?_
   ·refine λbf H2 j16=>have h:=j15 bf H2 j16;ki [(0,.string (d.extract lo hi)),(24,.bool bf)]<|aE<|have⟨bh,h,j18⟩:=h;j2 (σ:=ByteArray) (λs_=> [(0,.string s_)]) (λs_ H=>bh s_ H) ?_ ?_
    ·exact λbi H3 j19=>have h:=j18 bi H3 j19;ki [(0,.string bi)]<|aE<|zj 1<|aA<|aJ<|aE<|aQ (bi:ByteArray) sk h
    revert h;refine CU (λc20 h=>?_) (λc20 h=>?_)
    ·have b21:bf=true:=c20;refine cW [(0,.string (d.extract lo hi)),(24,VT)] (by simp only[b21,Es,Ep]) ?_;clear b21;refine l7 24<|ar 6<|nb 1 [(25,.string (d.extract lo hi))]<|have⟨g,f,q22,q23,q24,q25,h⟩:=h;wd 26 (i0 9 (.string (d.extract lo hi)) (some (vi 8)) none none) (.string ((d.extract lo hi).extract g f)) (λw _=>fR (P:=prog) (t:=9) (s:=(d.extract lo hi)) (some (vi 8)) none g f EB (.inr ⟨.i64,Eg (λq=>some (Value.int .i64 q)) q22⟩) (.inl ⟨rfl,q23⟩) q24 q25 w) [25]<|nx 1 [(0,.string ((d.extract lo hi).extract g f))]<|gv<|have⟨bl,h,j28⟩:=h;j2 (σ:=Bool) (λs_=> [(0,.string ((d.extract lo hi).extract g f)),(39,.bool s_)]) (λs_ H=>bl s_ H) ?_ ?_
     ·refine λbg H4 j29=>have h:=j28 bg H4 j29;ki [(0,.string ((d.extract lo hi).extract g f)),(39,.bool bg)]<|aE<|jn h (λc30 h=>?_) (λc30 h=>?_)
      ·have b31:bg=true:=c30;refine cW [(0,.string ((d.extract lo hi).extract g f)),(39,VT)] (by rw[b31]) ?_;clear b31;refine l7 39<|ar 8<|nb 1 [(40,.string ((d.extract lo hi).extract g f))]<|have⟨bb,a7,q32,q33,q34,q35,h⟩:=h;wd 41 (i0 9 (.string ((d.extract lo hi).extract g f)) (some (vi 16)) none none) (.string (((d.extract lo hi).extract g f).extract bb a7)) (λw _=>fR (P:=prog) (t:=9) (s:=((d.extract lo hi).extract g f)) (some (vi 16)) none bb a7 EB (.inr ⟨.i64,Eg (λq=>some (Value.int .i64 q)) q32⟩) (.inl ⟨rfl,q33⟩) q34 q35 w) [40]<|nx 1 [(0,.string (((d.extract lo hi).extract g f).extract bb a7))]<|k5 2<|have⟨bk,m40,i37,i38⟩:=h;bI (x:=CW) (σ:=ByteArray) (λs_=> [(0,.string s_)]) (λs_ H=>bk s_ H) (λs_ H=>m40 s_ H) ((((d.extract lo hi).extract g f).extract bb a7):ByteArray) GE i37 sk ?_;rintro e H5 i39;have h:=i38 e H5 i39;refine ki [(0,.string e)]<|gv<|gv<|jn h (λc40 h=>?_) (λc40 h=>?_)
       ·obtain⟨ap,al,q42,q43,q44,q45,ao,ae,q47,q48,q49,q50,ax,aq,q52,q53,q54,q55,h⟩:=h;refine yY 9 (Code.ops CL) [] 21 (bv 21 0) (show aP _ _ _ from trivial)<|aM 0 42 (.string e) (bv 21 1) []<|aM 1 43 (vi (e.size:Int)) (bv 21 3) [42]<|aM 2 44 (.bool (decide ((e.size:Int)>32))) (bv 21 7) [43]<|aM 3 45 (.bool (decide ((e.size:Int)>32))) (bv 21 15) [44]<|BJ 45 (zX c40)<|aM 4 46 (.string e) (bv 21 31) []<|aM 6 48 (.string e) (bv 21 95) []<|lb 7 49 (.string (e.extract ap al)) (bv 21 223) [48] (i0 9 (.string e) (some (vi 8)) none none) (λ_ w _ _ _=>fR (P:=prog) (t:=9) (s:=e) (some (vi 8)) none ap al EB (.inr ⟨.i64,Eg (λq=>some (Value.int .i64 q)) q42⟩) (.inl ⟨rfl,q43⟩) q44 q45 w)<|aM 10 52 (.string e) (bv 21 1247) []<|lb 11 53 (.string (e.extract ao ae)) (bv 21 3295) [52] (i0 9 (.string e) (some (vi 16)) none none) (λ_ w _ _ _=>fR (P:=prog) (t:=9) (s:=e) (some (vi 16)) none ao ae EB (.inr ⟨.i64,Eg (λq=>some (Value.int .i64 q)) q47⟩) (.inl ⟨rfl,q48⟩) q49 q50 w)<|aM 13 55 (.string e) (bv 21 11487) []<|lb 14 56 (.string (e.extract ax aq)) (bv 21 27871) [55] (i0 9 (.string e) (some (vi 24)) none none) (λ_ w _ _ _=>fR (P:=prog) (t:=9) (s:=e) (some (vi 24)) none ax aq EB (.inr ⟨.i64,Eg (λq=>some (Value.int .i64 q)) q52⟩) (.inl ⟨rfl,q53⟩) q54 q55 w)<|yq 5 (some 47) (bv 21 27903) 104 #[.string e] h ?_;clear h;rintro v H6 ⟨x,rfl,h⟩;refine⟨[(0,.string e),(45,VT),(47,vu x),(49,.string (e.extract ap al)),(53,.string (e.extract ao ae)),(56,.string (e.extract ax aq))],pk,(show aP _ _ _ from trivial),?_⟩;refine yq 8 (some 50) (bv 21 28159) 104 #[.string (e.extract ap al)] h ?_;clear h;rintro bq H7 ⟨o,rfl,h⟩;refine⟨[(0,.string e),(45,VT),(47,vu x),(50,vu o),(53,.string (e.extract ao ae)),(56,.string (e.extract ax aq))],pk,(show aP _ _ _ from trivial),?_⟩;refine BS 9 (some 51) (vu (mp .u64 x o)) (bv 21 28671) [(0,.string e),(45,VT),(51,vu (mp .u64 x o)),(53,.string (e.extract ao ae)),(56,.string (e.extract ax aq))] (pure (.value (vu (mp .u64 x o))):Sem Next) (λ_ _ _ _ _=>rfl)<|yq 12 (some 54) (bv 21 32767) 104 #[.string (e.extract ao ae)] h ?_;clear h;rintro bp H8 ⟨p,rfl,h⟩;refine⟨[(0,.string e),(45,VT),(51,vu (mp .u64 x o)),(54,vu p),(56,.string (e.extract ax aq))],pk,(show aP _ _ _ from trivial),?_⟩;refine yq 15 (some 57) (bv 21 65535) 104 #[.string (e.extract ax aq)] h ?_;clear h;rintro bm H9 ⟨r,rfl,h⟩;refine⟨[(0,.string e),(45,VT),(51,vu (mp .u64 x o)),(54,vu p),(57,vu r)],pk,(show aP _ _ _ from trivial),?_⟩;refine BS 16 (some 58) (vu (mp .u64 p r)) (bv 21 131071) [(0,.string e),(45,VT),(51,vu (mp .u64 x o)),(58,vu (mp .u64 p r))] (pure (.value (vu (mp .u64 p r))):Sem Next) (λ_ _ _ _ _=>rfl)<|lb 17 59 (vu (mp .u64 (mp .u64 x o) (mp .u64 p r))) (bv 21 262143) [51,58] (pure (.value (vu (mp .u64 (mp .u64 x o) (mp .u64 p r)))):Sem Next) (λ_ _ _ _ _=>rfl)<|lb 18 60 (vu (l3 .u64 (mp .u64 (mp .u64 x o) (mp .u64 p r)) 9259542123273814144)) (bv 21 524287) [59] (pure (.value (vu (l3 .u64 (mp .u64 (mp .u64 x o) (mp .u64 p r)) 9259542123273814144))):Sem Next) (λ_ _ _ _ _=>rfl)<|lb 19 61 (.bool ((l3 .u64 (mp .u64 (mp .u64 x o) (mp .u64 p r)) 9259542123273814144)==0)) (bv 21 1048575) [60] (pure (.value (.bool ((l3 .u64 (mp .u64 (mp .u64 x o) (mp .u64 p r)) 9259542123273814144)==0))):Sem Next) (λ_ _ _ _ _=>rfl)<|lb 20 62 (.bool ((l3 .u64 (mp .u64 (mp .u64 x o) (mp .u64 p r)) 9259542123273814144)==0)) (bv 21 2097151) [45,61] (pure (.value (.bool ((l3 .u64 (mp .u64 (mp .u64 x o) (mp .u64 p r)) 9259542123273814144)==0))):Sem Next) (λ_ _ _ _ _=>rfl)<|gm [(0,.string e),(62,.bool ((l3 .u64 (mp .u64 (mp .u64 x o) (mp .u64 p r)) 9259542123273814144)==0))] sk<|yx<|aE<|jn h (λc57 h=>?_) (λc57 h=>?_)
        ·exact aH 62 (zK c57)<|kT<|k5 3<|k4 10<|nb 1 [(63,.string e)]<|have⟨a5,a1,q59,q60,q61,q62,h⟩:=h;wd 64 (i0 9 (.string e) (some (vi 32)) none none) (.string (e.extract a5 a1)) (λw _=>fR (P:=prog) (t:=9) (s:=e) (some (vi 32)) none a5 a1 EB (.inr ⟨.i64,Eg (λq=>some (Value.int .i64 q)) q59⟩) (.inl ⟨rfl,q60⟩) q61 q62 w) [63]<|nb 1 [(0,.string (e.extract a5 a1))]<|zq<|aD<|aE<|aQ ((e.extract a5 a1):ByteArray) sk h
        exact aG 62 (zJ c57)<|zj 2<|aA<|aA<|aJ<|aE<|dL (e:ByteArray) sk h
       exact yY 9 (Code.ops CL) [] 21 (bv 21 0) (show aP _ _ _ from trivial)<|aM 0 42 (.string e) (bv 21 1) []<|aM 1 43 (vi (e.size:Int)) (bv 21 3) [42]<|aM 2 44 (.bool (decide ((e.size:Int)>32))) (bv 21 7) [43]<|aM 3 45 (.bool (decide ((e.size:Int)>32))) (bv 21 15) [44]<|BJ 45 (zQ c40)<|cP 4 (some 46) (bv 21 31) [] [(46,undef)]<|cP 5 (some 47) (bv 21 63) [46] [(47,undef)]<|cP 6 (some 48) (bv 21 127) [] [(48,undef)]<|cP 7 (some 49) (bv 21 255) [48] [(49,undef)]<|cP 8 (some 50) (bv 21 511) [49] [(50,undef)]<|cP 9 (some 51) (bv 21 1023) [47,50] [(51,undef)]<|cP 10 (some 52) (bv 21 2047) [] [(52,undef)]<|cP 11 (some 53) (bv 21 4095) [52] [(53,undef)]<|cP 12 (some 54) (bv 21 8191) [53] [(54,undef)]<|cP 13 (some 55) (bv 21 16383) [] [(55,undef)]<|cP 14 (some 56) (bv 21 32767) [55] [(56,undef)]<|cP 15 (some 57) (bv 21 65535) [56] [(57,undef)]<|cP 16 (some 58) (bv 21 131071) [54,57] [(58,undef)]<|cP 17 (some 59) (bv 21 262143) [51,58] [(59,undef)]<|cP 18 (some 60) (bv 21 524287) [59] [(60,undef)]<|cP 19 (some 61) (bv 21 1048575) [60] [(61,undef)]<|aM 20 62 VF (bv 21 2097151) [45,61]<|gm [(0,.string e),(62,VF)] sk<|yx<|aE<|pN 62<|zj 2<|aA<|aA<|aJ<|aE<|dL (e:ByteArray) sk h
      have b31:bg=false:=zZ c30;refine cW [(0,.string ((d.extract lo hi).extract g f)),(39,VF)] (by rw[b31]) ?_;clear b31;exact pN 39<|kT<|dL (((d.extract lo hi).extract g f):ByteArray) sk h
     revert h;refine CU (λc64 h=>?_) (λc64 h=>?_)
     ·obtain⟨bc,a8,q66,q67,q68,q69,h⟩:=h;refine yY 7 (Code.ops Cx) [] 13 (bv 13 0) (show aP _ _ _ from trivial)<|Bp 0 (some 27) (.string ((d.extract lo hi).extract g f)) (bv 13 1) [(0,.string ((d.extract lo hi).extract g f)),(27,.string ((d.extract lo hi).extract g f))]<|aM 1 28 (vi (((d.extract lo hi).extract g f).size:Int)) (bv 13 3) [27]<|aM 2 29 (.bool (decide ((((d.extract lo hi).extract g f).size:Int)>16))) (bv 13 7) [28]<|aM 3 30 (.bool (decide ((((d.extract lo hi).extract g f).size:Int)>16))) (bv 13 15) [29]<|BJ 30 (zX c64)<|aM 4 31 (.string ((d.extract lo hi).extract g f)) (bv 13 31) []<|aM 6 33 (.string ((d.extract lo hi).extract g f)) (bv 13 95) []<|lb 7 34 (.string (((d.extract lo hi).extract g f).extract bc a8)) (bv 13 223) [33] (i0 9 (.string ((d.extract lo hi).extract g f)) (some (vi 8)) none none) (λ_ w _ _ _=>fR (P:=prog) (t:=9) (s:=((d.extract lo hi).extract g f)) (some (vi 8)) none bc a8 EB (.inr ⟨.i64,Eg (λq=>some (Value.int .i64 q)) q66⟩) (.inl ⟨rfl,q67⟩) q68 q69 w)<|yq 5 (some 32) (bv 13 255) 104 #[.string ((d.extract lo hi).extract g f)] h ?_;clear h;rintro br bu ⟨ak,rfl,h⟩;refine⟨[(0,.string ((d.extract lo hi).extract g f)),(30,VT),(32,vu ak),(34,.string (((d.extract lo hi).extract g f).extract bc a8))],pk,(show aP _ _ _ from trivial),?_⟩;refine yq 8 (some 35) (bv 13 511) 104 #[.string (((d.extract lo hi).extract g f).extract bc a8)] h ?_;clear h;rintro bo bn ⟨an,rfl,h⟩;refine⟨[(0,.string ((d.extract lo hi).extract g f)),(30,VT),(32,vu ak),(35,vu an)],pk,(show aP _ _ _ from trivial),?_⟩;exact BS 9 (some 36) (vu (mp .u64 ak an)) (bv 13 1023) [(0,.string ((d.extract lo hi).extract g f)),(30,VT),(36,vu (mp .u64 ak an))] (pure (.value (vu (mp .u64 ak an))):Sem Next) (λ_ _ _ _ _=>rfl)<|lb 10 37 (vu (l3 .u64 (mp .u64 ak an) 9259542123273814144)) (bv 13 2047) [36] (pure (.value (vu (l3 .u64 (mp .u64 ak an) 9259542123273814144))):Sem Next) (λ_ _ _ _ _=>rfl)<|lb 11 38 (.bool ((l3 .u64 (mp .u64 ak an) 9259542123273814144)==0)) (bv 13 4095) [37] (pure (.value (.bool ((l3 .u64 (mp .u64 ak an) 9259542123273814144)==0))):Sem Next) (λ_ _ _ _ _=>rfl)<|lb 12 39 (.bool ((l3 .u64 (mp .u64 ak an) 9259542123273814144)==0)) (bv 13 8191) [30,38] (pure (.value (.bool ((l3 .u64 (mp .u64 ak an) 9259542123273814144)==0))):Sem Next) (λ_ _ _ _ _=>rfl)<|gm [(0,.string ((d.extract lo hi).extract g f)),(39,.bool ((l3 .u64 (mp .u64 ak an) 9259542123273814144)==0))] sk<|yx<|aE<|dL (((l3 .u64 (mp .u64 ak an) 9259542123273814144)==0):Bool) sk h
     exact yY 7 (Code.ops Cx) [] 13 (bv 13 0) (show aP _ _ _ from trivial)<|Bp 0 (some 27) (.string ((d.extract lo hi).extract g f)) (bv 13 1) [(0,.string ((d.extract lo hi).extract g f)),(27,.string ((d.extract lo hi).extract g f))]<|aM 1 28 (vi (((d.extract lo hi).extract g f).size:Int)) (bv 13 3) [27]<|aM 2 29 (.bool (decide ((((d.extract lo hi).extract g f).size:Int)>16))) (bv 13 7) [28]<|aM 3 30 (.bool (decide ((((d.extract lo hi).extract g f).size:Int)>16))) (bv 13 15) [29]<|BJ 30 (zQ c64)<|cP 4 (some 31) (bv 13 31) [] [(31,undef)]<|cP 5 (some 32) (bv 13 63) [31] [(32,undef)]<|cP 6 (some 33) (bv 13 127) [] [(33,undef)]<|cP 7 (some 34) (bv 13 255) [33] [(34,undef)]<|cP 8 (some 35) (bv 13 511) [34] [(35,undef)]<|cP 9 (some 36) (bv 13 1023) [32,35] [(36,undef)]<|cP 10 (some 37) (bv 13 2047) [36] [(37,undef)]<|cP 11 (some 38) (bv 13 4095) [37] [(38,undef)]<|aM 12 39 VF (bv 13 8191) [30,38]<|gm [(0,.string ((d.extract lo hi).extract g f)),(39,VF)] sk<|yx<|aE<|dL (false:Bool) sk h
    have b21:bf=false:=zZ c20;refine cW [(0,.string (d.extract lo hi)),(24,VF)] (by simp only[b21,Es,Ep]) ?_;clear b21;exact pN 24<|kT<|dL ((d.extract lo hi):ByteArray) sk h
   refine k4 5<|nb 4 [(0,.string (d.extract lo hi)),(19,.bool (decide (((d.extract lo hi).size:Int)>8)))]<|jn h (λc71 h=>?_) (λc71 h=>?_)
   ·have b72:(decide (((d.extract lo hi).size:Int)>8))=true:=zX c71;refine bW [(0,.string (d.extract lo hi)),(19,VT)] (by rw[b72]) ?_;clear b72;exact fd 1 [] [(20,.string (d.extract lo hi))]<|l5 21 [20] h λbj bt h=>gi 3 [19,21] [(24,.bool ((l3 .u64 bj 9259542123273814144)==0))]<|dL (((l3 .u64 bj 9259542123273814144)==0):Bool) sk h
   have b72:(decide (((d.extract lo hi).size:Int)>8))=false:=zQ c71;refine bW [(0,.string (d.extract lo hi)),(19,VF)] (by rw[b72]) ?_;clear b72;exact gi 5 [19] [(24,VF)]<|dL (false:Bool) sk h
  refine aG 13 (zQ c7)<|kT<|ar 11<|fd 1 [3,13] [(65,.int .u8 ((c.toNat:Nat):Int))]<|have⟨q73,h⟩:=h;wd 66 (bJ 160 (vp (pa 0)) (.int .u8 ((c.toNat:Nat):Int))) (vp (some ((ad 0).add (toNat ((c.toNat:Nat):Int)*1)))) (λw _=>cG (P:=prog) (t:=160) (elem:=5) (sz:=1) (n:=256) (a:=(ad 0)) (k:=.u8) (i:=((c.toNat:Nat):Int)) underlying160 Et q73.1 q73.2 w) [65]<|have⟨j,q74,h⟩:=h;hV 67 5 q74 [66]<|gi 1 [67] [(4,.int .u8 j)]<|ar 12<|gi 4 [] [(5,vi (zY (l3 .u8 j 7)))]<|ar 13<|fd 2 [4] [(72,.int .u8 (o0 .u8 j 4))]<|have⟨q75,h⟩:=h;wd 73 (bJ 163 (vp (pa 1)) (.int .u8 (o0 .u8 j 4))) (Vq ((ad 1).add (toNat (o0 .u8 j 4)*2))) (λw _=>cG (P:=prog) (t:=163) (elem:=162) (sz:=2) (n:=16) (a:=(ad 1)) (k:=.u8) (i:=(o0 .u8 j 4)) underlying163 Et q75.1 q75.2 w) [72]<|have⟨be,bd,q76,h⟩:=h;na 74 162 q76 [73]<|l1 (some 6) (λb=>vp (pa b)) (.cells #[.int .u8 0,.int .u8 0] 162)<|λb H13 e77 e78=>have h:=h b H13 e77 e78;im [] [(6,vp (pa b))]<|have⟨q80,h⟩:=h;bF 162 [.int .u8 be,.int .u8 bd] q80<|λm e79=>have h:=h m e79;im [74] []<|ue<|ar 14<|gi 1 [5] [(75,vi (zY (l3 .u8 j 7)))]<|k5 4<|ar 16<|gi 2 [] [(76,.bool ((zY (l3 .u8 j 7))==2))]<|jn h (λc81 h=>?_) (λc81 h=>?_)
  ·refine aH 76 (zK c81)<|gv<|gv<|mO 17<|hX 78 (.string d) [75,76]<|hX 79 (vi (d.size:Int)) [78]<|hX 80 (.bool (decide ((d.size:Int)<2))) [79]<|hX 81 (.bool (decide ((d.size:Int)<2))) [80]<|jn h (λc83 h=>?_) (λc83 h=>?_)
   ·exact Bd 81 (zX c83)<|hX 82 (undef) []<|hX 83 (undef) [82]<|hX 84 (undef) []<|hX 85 (undef) [84]<|hX 86 (undef) [83,85]<|hX 87 VT [81,86]<|hX 88 VT [87]<|hX 89 (undef) [6]<|hX 90 (undef) [89]<|hX 91 (undef) []<|hX 92 (undef) [91]<|hX 93 (undef) [90,92]<|hX 94 VT [88,93]<|iQ [(0,.string d),(94,VT)] sk<|Bk<|l7 94<|ar 18<|hH 1 [2] [VF] hQ h
   refine Bd 81 (zQ c83)<|hX 82 (.string d) []<|have⟨az,q85,h⟩:=h;Bc (some 83) (fD 9 (.string d) (vi 1)) (.int .u8 ((az.toNat:Nat):Int)) Et (λw _=>bM (P:=prog) (t:=9) (s:=d) (k:=.i64) (i:=1) EB q85.1 q85.2 w) [(0,.string d),(6,vp (pa b)),(81,.bool false),(83,.int .u8 ((az.toNat:Nat):Int))] pk<|BU (some 84) (vp (pa b)) [(0,.string d),(6,vp (pa b)),(81,VF),(83,.int .u8 ((az.toNat:Nat):Int)),(84,vp (pa b))]<|have⟨a4,q86,h⟩:=h;lw (some 85) 5 q86 [84] [(85,.int .u8 a4)]<|hX 86 (.bool (decide (((az.toNat:Nat):Int)<a4))) [83,85]<|hX 87 (.bool (decide (((az.toNat:Nat):Int)<a4))) [81,86]<|hX 88 (.bool (decide (((az.toNat:Nat):Int)<a4))) [87]<|jn h (λc87 h=>?_) (λc87 h=>?_)
   ·exact Bd 88 (zX c87)<|hX 89 (undef) [6]<|hX 90 (undef) [89]<|hX 91 (undef) []<|hX 92 (undef) [91]<|hX 93 (undef) [90,92]<|hX 94 VT [88,93]<|iQ [(0,.string d),(94,VT)] sk<|Bk<|l7 94<|ar 18<|hH 1 [2] [VF] hQ h
   refine Bd 88 (zQ c87)<|hX 89 (Vq ((ad b).add 1)) [6]<|have⟨aa,q89,h⟩:=h;lw (some 90) 5 q89 [89] [(90,.int .u8 aa)]<|hX 91 (.string d) []<|have⟨ba,q90,h⟩:=h;Bc (some 92) (fD 9 (.string d) (vi 1)) (.int .u8 ((ba.toNat:Nat):Int)) Et (λw _=>bM (P:=prog) (t:=9) (s:=d) (k:=.i64) (i:=1) EB q90.1 q90.2 w) [(0,.string d),(88,.bool false),(90,.int .u8 aa),(92,.int .u8 ((ba.toNat:Nat):Int))] pk<|BU (some 93) (.bool (decide (aa< ((ba.toNat:Nat):Int)))) [(0,.string d),(88,VF),(93,.bool (decide (aa< ((ba.toNat:Nat):Int))))]<|hX 94 (.bool (decide (aa< ((ba.toNat:Nat):Int)))) [88,93]<|iQ [(0,.string d),(94,.bool (decide (aa< ((ba.toNat:Nat):Int))))] sk<|Bk<|jn h (λc91 h=>?_) (λc91 h=>?_)
   ·exact aH 94 (zX c91)<|ar 18<|hH 1 [2] [VF] hQ h
   exact aG 94 (zQ c91)<|kT<|k4 19<|nb 1 [(95,.string d)]<|have⟨a6,a0,q93,q94,q95,q96,h⟩:=h;wd 96 (i0 9 (.string d) (some (vi 2)) none none) (.string (d.extract a6 a0)) (λw _=>fR (P:=prog) (t:=9) (s:=d) (some (vi 2)) none a6 a0 EB (.inr ⟨.i64,Eg (λq=>some (Value.int .i64 q)) q93⟩) (.inl ⟨rfl,q94⟩) q95 q96 w) [95]<|nb 1 [(0,.string (d.extract a6 a0))]<|zq<|aD<|aD<|aE<|aQ ((d.extract a6 a0):ByteArray) sk h
  refine aG 76 (zJ c81)<|ar 20<|gi 2 [76] [(97,.bool ((zY (l3 .u8 j 7))==3))]<|jn h (λc98 h=>?_) (λc98 h=>?_)
  ·refine aH 97 (zK c98)<|gv<|gv<|mO 21<|hX 99 (.string d) [75,97]<|hX 100 (vi (d.size:Int)) [99]<|hX 101 (.bool (decide ((d.size:Int)<3))) [100]<|hX 102 (.bool (decide ((d.size:Int)<3))) [101]<|jn h (λc100 h=>?_) (λc100 h=>?_)
   ·exact Bd 102 (zX c100)<|hX 103 (undef) []<|hX 104 (undef) [103]<|hX 105 (undef) []<|hX 106 (undef) [105]<|hX 107 (undef) [104,106]<|hX 108 VT [102,107]<|hX 109 VT [108]<|hX 110 (undef) [6]<|hX 111 (undef) [110]<|hX 112 (undef) []<|hX 113 (undef) [112]<|hX 114 (undef) [111,113]<|hX 115 VT [109,114]<|hX 116 VT [115]<|hX 117 (undef) []<|hX 118 (undef) [117]<|hX 119 (undef) [118]<|hX 120 VT [116,119]<|hX 121 VT [120]<|hX 122 (undef) []<|hX 123 (undef) [122]<|hX 124 (undef) [123]<|hX 125 VT [121,124]<|iQ [(0,.string d),(125,VT)] sk<|Bk<|l7 125<|ar 22<|hH 1 [2] [VF] hQ h
   refine Bd 102 (zQ c100)<|hX 103 (.string d) []<|have⟨ay,q102,h⟩:=h;Bc (some 104) (fD 9 (.string d) (vi 1)) (.int .u8 ((ay.toNat:Nat):Int)) Et (λw _=>bM (P:=prog) (t:=9) (s:=d) (k:=.i64) (i:=1) EB q102.1 q102.2 w) [(0,.string d),(6,vp (pa b)),(102,.bool false),(104,.int .u8 ((ay.toNat:Nat):Int))] pk<|BU (some 105) (vp (pa b)) [(0,.string d),(6,vp (pa b)),(102,VF),(104,.int .u8 ((ay.toNat:Nat):Int)),(105,vp (pa b))]<|have⟨ac,q103,h⟩:=h;lw (some 106) 5 q103 [105] [(106,.int .u8 ac)]<|hX 107 (.bool (decide (((ay.toNat:Nat):Int)<ac))) [104,106]<|hX 108 (.bool (decide (((ay.toNat:Nat):Int)<ac))) [102,107]<|hX 109 (.bool (decide (((ay.toNat:Nat):Int)<ac))) [108]<|jn h (λc104 h=>?_) (λc104 h=>?_)
   ·exact Bd 109 (zX c104)<|hX 110 (undef) [6]<|hX 111 (undef) [110]<|hX 112 (undef) []<|hX 113 (undef) [112]<|hX 114 (undef) [111,113]<|hX 115 VT [109,114]<|hX 116 VT [115]<|hX 117 (undef) []<|hX 118 (undef) [117]<|hX 119 (undef) [118]<|hX 120 VT [116,119]<|hX 121 VT [120]<|hX 122 (undef) []<|hX 123 (undef) [122]<|hX 124 (undef) [123]<|hX 125 VT [121,124]<|iQ [(0,.string d),(125,VT)] sk<|Bk<|l7 125<|ar 22<|hH 1 [2] [VF] hQ h
   refine Bd 109 (zQ c104)<|hX 110 (Vq ((ad b).add 1)) [6]<|have⟨u,q106,h⟩:=h;lw (some 111) 5 q106 [110] [(111,.int .u8 u)]<|hX 112 (.string d) []<|have⟨a3,q107,h⟩:=h;Bc (some 113) (fD 9 (.string d) (vi 1)) (.int .u8 ((a3.toNat:Nat):Int)) Et (λw _=>bM (P:=prog) (t:=9) (s:=d) (k:=.i64) (i:=1) EB q107.1 q107.2 w) [(0,.string d),(109,.bool false),(111,.int .u8 u),(113,.int .u8 ((a3.toNat:Nat):Int))] pk<|BU (some 114) (.bool (decide (u< ((a3.toNat:Nat):Int)))) [(0,.string d),(109,VF),(114,.bool (decide (u< ((a3.toNat:Nat):Int))))]<|hX 115 (.bool (decide (u< ((a3.toNat:Nat):Int)))) [109,114]<|hX 116 (.bool (decide (u< ((a3.toNat:Nat):Int)))) [115]<|jn h (λc108 h=>?_) (λc108 h=>?_)
   ·exact Bd 116 (zX c108)<|hX 117 (undef) []<|hX 118 (undef) [117]<|hX 119 (undef) [118]<|hX 120 VT [116,119]<|hX 121 VT [120]<|hX 122 (undef) []<|hX 123 (undef) [122]<|hX 124 (undef) [123]<|hX 125 VT [121,124]<|iQ [(0,.string d),(125,VT)] sk<|Bk<|l7 125<|ar 22<|hH 1 [2] [VF] hQ h
   refine Bd 116 (zQ c108)<|hX 117 (.string d) []<|have⟨a2,q110,h⟩:=h;Bc (some 118) (fD 9 (.string d) (vi 2)) (.int .u8 ((a2.toNat:Nat):Int)) Et (λw _=>bM (P:=prog) (t:=9) (s:=d) (k:=.i64) (i:=2) EB q110.1 q110.2 w) [(0,.string d),(116,.bool false),(118,.int .u8 ((a2.toNat:Nat):Int))] pk<|BU (some 119) (.bool (decide (((a2.toNat:Nat):Int)<128))) [(0,.string d),(116,VF),(119,.bool (decide (((a2.toNat:Nat):Int)<128)))]<|hX 120 (.bool (decide (((a2.toNat:Nat):Int)<128))) [116,119]<|hX 121 (.bool (decide (((a2.toNat:Nat):Int)<128))) [120]<|jn h (λc111 h=>?_) (λc111 h=>?_)
   ·exact Bd 121 (zX c111)<|hX 122 (undef) []<|hX 123 (undef) [122]<|hX 124 (undef) [123]<|hX 125 VT [121,124]<|iQ [(0,.string d),(125,VT)] sk<|Bk<|l7 125<|ar 22<|hH 1 [2] [VF] hQ h
   refine Bd 121 (zQ c111)<|hX 122 (.string d) []<|have⟨a9,q113,h⟩:=h;Bc (some 123) (fD 9 (.string d) (vi 2)) (.int .u8 ((a9.toNat:Nat):Int)) Et (λw _=>bM (P:=prog) (t:=9) (s:=d) (k:=.i64) (i:=2) EB q113.1 q113.2 w) [(0,.string d),(121,.bool false),(123,.int .u8 ((a9.toNat:Nat):Int))] pk<|BU (some 124) (.bool (decide (191< ((a9.toNat:Nat):Int)))) [(0,.string d),(121,VF),(124,.bool (decide (191< ((a9.toNat:Nat):Int))))]<|hX 125 (.bool (decide (191< ((a9.toNat:Nat):Int)))) [121,124]<|iQ [(0,.string d),(125,.bool (decide (191< ((a9.toNat:Nat):Int))))] sk<|Bk<|jn h (λc114 h=>?_) (λc114 h=>?_)
   ·exact aH 125 (zX c114)<|ar 22<|hH 1 [2] [VF] hQ h
   exact aG 125 (zQ c114)<|kT<|k4 23<|nb 1 [(126,.string d)]<|have⟨av,aj,q116,q117,q118,q119,h⟩:=h;wd 127 (i0 9 (.string d) (some (vi 3)) none none) (.string (d.extract av aj)) (λw _=>fR (P:=prog) (t:=9) (s:=d) (some (vi 3)) none av aj EB (.inr ⟨.i64,Eg (λq=>some (Value.int .i64 q)) q116⟩) (.inl ⟨rfl,q117⟩) q118 q119 w) [126]<|nb 1 [(0,.string (d.extract av aj))]<|zq<|aD<|aD<|aE<|aQ ((d.extract av aj):ByteArray) sk h
  refine aG 97 (zJ c98)<|ar 24<|gi 2 [75,97] [(128,.bool ((zY (l3 .u8 j 7))==4))]<|jn h (λc121 h=>?_) (λc121 h=>?_)
  ·refine aH 128 (zK c121)<|gv<|gv<|mO 25<|hX 130 (.string d) [128]<|hX 131 (vi (d.size:Int)) [130]<|hX 132 (.bool (decide ((d.size:Int)<4))) [131]<|hX 133 (.bool (decide ((d.size:Int)<4))) [132]<|jn h (λc123 h=>?_) (λc123 h=>?_)
   ·exact Bd 133 (zX c123)<|hX 134 (undef) []<|hX 135 (undef) [134]<|hX 136 (undef) []<|hX 137 (undef) [136]<|hX 138 (undef) [135,137]<|hX 139 VT [133,138]<|hX 140 VT [139]<|hX 141 (undef) [6]<|hX 142 (undef) [141]<|hX 143 (undef) []<|hX 144 (undef) [143]<|hX 145 (undef) [142,144]<|hX 146 VT [140,145]<|hX 147 VT [146]<|hX 148 (undef) []<|hX 149 (undef) [148]<|hX 150 (undef) [149]<|hX 151 VT [147,150]<|hX 152 VT [151]<|hX 153 (undef) []<|hX 154 (undef) [153]<|hX 155 (undef) [154]<|hX 156 VT [152,155]<|hX 157 VT [156]<|hX 158 (undef) []<|hX 159 (undef) [158]<|hX 160 (undef) [159]<|hX 161 VT [157,160]<|hX 162 VT [161]<|hX 163 (undef) []<|hX 164 (undef) [163]<|hX 165 (undef) [164]<|hX 166 VT [162,165]<|iQ [(0,.string d),(166,VT)] sk<|Bk<|l7 166<|ar 26<|hH 1 [2] [VF] hQ h
   refine Bd 133 (zQ c123)<|hX 134 (.string d) []<|have⟨y,q125,h⟩:=h;Bc (some 135) (fD 9 (.string d) (vi 1)) (.int .u8 ((y.toNat:Nat):Int)) Et (λw _=>bM (P:=prog) (t:=9) (s:=d) (k:=.i64) (i:=1) EB q125.1 q125.2 w) [(0,.string d),(6,vp (pa b)),(133,.bool false),(135,.int .u8 ((y.toNat:Nat):Int))] pk<|BU (some 136) (vp (pa b)) [(0,.string d),(6,vp (pa b)),(133,VF),(135,.int .u8 ((y.toNat:Nat):Int)),(136,vp (pa b))]<|have⟨ag,q126,h⟩:=h;lw (some 137) 5 q126 [136] [(137,.int .u8 ag)]<|hX 138 (.bool (decide (((y.toNat:Nat):Int)<ag))) [135,137]<|hX 139 (.bool (decide (((y.toNat:Nat):Int)<ag))) [133,138]<|hX 140 (.bool (decide (((y.toNat:Nat):Int)<ag))) [139]<|jn h (λc127 h=>?_) (λc127 h=>?_)
   ·exact Bd 140 (zX c127)<|hX 141 (undef) [6]<|hX 142 (undef) [141]<|hX 143 (undef) []<|hX 144 (undef) [143]<|hX 145 (undef) [142,144]<|hX 146 VT [140,145]<|hX 147 VT [146]<|hX 148 (undef) []<|hX 149 (undef) [148]<|hX 150 (undef) [149]<|hX 151 VT [147,150]<|hX 152 VT [151]<|hX 153 (undef) []<|hX 154 (undef) [153]<|hX 155 (undef) [154]<|hX 156 VT [152,155]<|hX 157 VT [156]<|hX 158 (undef) []<|hX 159 (undef) [158]<|hX 160 (undef) [159]<|hX 161 VT [157,160]<|hX 162 VT [161]<|hX 163 (undef) []<|hX 164 (undef) [163]<|hX 165 (undef) [164]<|hX 166 VT [162,165]<|iQ [(0,.string d),(166,VT)] sk<|Bk<|l7 166<|ar 26<|hH 1 [2] [VF] hQ h
   refine Bd 140 (zQ c127)<|hX 141 (Vq ((ad b).add 1)) [6]<|have⟨z,q129,h⟩:=h;lw (some 142) 5 q129 [141] [(142,.int .u8 z)]<|hX 143 (.string d) []<|have⟨ab,q130,h⟩:=h;Bc (some 144) (fD 9 (.string d) (vi 1)) (.int .u8 ((ab.toNat:Nat):Int)) Et (λw _=>bM (P:=prog) (t:=9) (s:=d) (k:=.i64) (i:=1) EB q130.1 q130.2 w) [(0,.string d),(140,.bool false),(142,.int .u8 z),(144,.int .u8 ((ab.toNat:Nat):Int))] pk<|BU (some 145) (.bool (decide (z< ((ab.toNat:Nat):Int)))) [(0,.string d),(140,VF),(145,.bool (decide (z< ((ab.toNat:Nat):Int))))]<|hX 146 (.bool (decide (z< ((ab.toNat:Nat):Int)))) [140,145]<|hX 147 (.bool (decide (z< ((ab.toNat:Nat):Int)))) [146]<|jn h (λc131 h=>?_) (λc131 h=>?_)
   ·exact Bd 147 (zX c131)<|hX 148 (undef) []<|hX 149 (undef) [148]<|hX 150 (undef) [149]<|hX 151 VT [147,150]<|hX 152 VT [151]<|hX 153 (undef) []<|hX 154 (undef) [153]<|hX 155 (undef) [154]<|hX 156 VT [152,155]<|hX 157 VT [156]<|hX 158 (undef) []<|hX 159 (undef) [158]<|hX 160 (undef) [159]<|hX 161 VT [157,160]<|hX 162 VT [161]<|hX 163 (undef) []<|hX 164 (undef) [163]<|hX 165 (undef) [164]<|hX 166 VT [162,165]<|iQ [(0,.string d),(166,VT)] sk<|Bk<|l7 166<|ar 26<|hH 1 [2] [VF] hQ h
   refine Bd 147 (zQ c131)<|hX 148 (.string d) []<|have⟨ai,q133,h⟩:=h;Bc (some 149) (fD 9 (.string d) (vi 2)) (.int .u8 ((ai.toNat:Nat):Int)) Et (λw _=>bM (P:=prog) (t:=9) (s:=d) (k:=.i64) (i:=2) EB q133.1 q133.2 w) [(0,.string d),(147,.bool false),(149,.int .u8 ((ai.toNat:Nat):Int))] pk<|BU (some 150) (.bool (decide (((ai.toNat:Nat):Int)<128))) [(0,.string d),(147,VF),(150,.bool (decide (((ai.toNat:Nat):Int)<128)))]<|hX 151 (.bool (decide (((ai.toNat:Nat):Int)<128))) [147,150]<|hX 152 (.bool (decide (((ai.toNat:Nat):Int)<128))) [151]<|jn h (λc134 h=>?_) (λc134 h=>?_)
   ·exact Bd 152 (zX c134)<|hX 153 (undef) []<|hX 154 (undef) [153]<|hX 155 (undef) [154]<|hX 156 VT [152,155]<|hX 157 VT [156]<|hX 158 (undef) []<|hX 159 (undef) [158]<|hX 160 (undef) [159]<|hX 161 VT [157,160]<|hX 162 VT [161]<|hX 163 (undef) []<|hX 164 (undef) [163]<|hX 165 (undef) [164]<|hX 166 VT [162,165]<|iQ [(0,.string d),(166,VT)] sk<|Bk<|l7 166<|ar 26<|hH 1 [2] [VF] hQ h
   refine Bd 152 (zQ c134)<|hX 153 (.string d) []<|have⟨ah,q136,h⟩:=h;Bc (some 154) (fD 9 (.string d) (vi 2)) (.int .u8 ((ah.toNat:Nat):Int)) Et (λw _=>bM (P:=prog) (t:=9) (s:=d) (k:=.i64) (i:=2) EB q136.1 q136.2 w) [(0,.string d),(152,.bool false),(154,.int .u8 ((ah.toNat:Nat):Int))] pk<|BU (some 155) (.bool (decide (191< ((ah.toNat:Nat):Int)))) [(0,.string d),(152,VF),(155,.bool (decide (191< ((ah.toNat:Nat):Int))))]<|hX 156 (.bool (decide (191< ((ah.toNat:Nat):Int)))) [152,155]<|hX 157 (.bool (decide (191< ((ah.toNat:Nat):Int)))) [156]<|jn h (λc137 h=>?_) (λc137 h=>?_)
   ·exact Bd 157 (zX c137)<|hX 158 (undef) []<|hX 159 (undef) [158]<|hX 160 (undef) [159]<|hX 161 VT [157,160]<|hX 162 VT [161]<|hX 163 (undef) []<|hX 164 (undef) [163]<|hX 165 (undef) [164]<|hX 166 VT [162,165]<|iQ [(0,.string d),(166,VT)] sk<|Bk<|l7 166<|ar 26<|hH 1 [2] [VF] hQ h
   refine Bd 157 (zQ c137)<|hX 158 (.string d) []<|have⟨af,q139,h⟩:=h;Bc (some 159) (fD 9 (.string d) (vi 3)) (.int .u8 ((af.toNat:Nat):Int)) Et (λw _=>bM (P:=prog) (t:=9) (s:=d) (k:=.i64) (i:=3) EB q139.1 q139.2 w) [(0,.string d),(157,.bool false),(159,.int .u8 ((af.toNat:Nat):Int))] pk<|BU (some 160) (.bool (decide (((af.toNat:Nat):Int)<128))) [(0,.string d),(157,VF),(160,.bool (decide (((af.toNat:Nat):Int)<128)))]<|hX 161 (.bool (decide (((af.toNat:Nat):Int)<128))) [157,160]<|hX 162 (.bool (decide (((af.toNat:Nat):Int)<128))) [161]<|jn h (λc140 h=>?_) (λc140 h=>?_)
   ·exact Bd 162 (zX c140)<|hX 163 (undef) []<|hX 164 (undef) [163]<|hX 165 (undef) [164]<|hX 166 VT [162,165]<|iQ [(0,.string d),(166,VT)] sk<|Bk<|l7 166<|ar 26<|hH 1 [2] [VF] hQ h
   refine Bd 162 (zQ c140)<|hX 163 (.string d) []<|have⟨au,q142,h⟩:=h;Bc (some 164) (fD 9 (.string d) (vi 3)) (.int .u8 ((au.toNat:Nat):Int)) Et (λw _=>bM (P:=prog) (t:=9) (s:=d) (k:=.i64) (i:=3) EB q142.1 q142.2 w) [(0,.string d),(162,.bool false),(164,.int .u8 ((au.toNat:Nat):Int))] pk<|BU (some 165) (.bool (decide (191< ((au.toNat:Nat):Int)))) [(0,.string d),(162,VF),(165,.bool (decide (191< ((au.toNat:Nat):Int))))]<|hX 166 (.bool (decide (191< ((au.toNat:Nat):Int)))) [162,165]<|iQ [(0,.string d),(166,.bool (decide (191< ((au.toNat:Nat):Int))))] sk<|Bk<|jn h (λc143 h=>?_) (λc143 h=>?_)
   ·exact aH 166 (zX c143)<|ar 26<|hH 1 [2] [VF] hQ h
   exact aG 166 (zQ c143)<|kT<|k4 27<|nb 1 [(167,.string d)]<|have⟨aw,am,q145,q146,q147,q148,h⟩:=h;wd 168 (i0 9 (.string d) (some (vi 4)) none none) (.string (d.extract aw am)) (λw _=>fR (P:=prog) (t:=9) (s:=d) (some (vi 4)) none aw am EB (.inr ⟨.i64,Eg (λq=>some (Value.int .i64 q)) q145⟩) (.inl ⟨rfl,q146⟩) q147 q148 w) [167]<|nb 1 [(0,.string (d.extract aw am))]<|zq<|aD<|aD<|aE<|aQ ((d.extract aw am):ByteArray) sk h
  exact aG 128 (zJ c121)<|ar 15<|hH 1 [2] [VF] hQ h
 exact aG 9 (zQ c4)<|zj 0<|aA<|aA<|aJ<|aE<|ar 28<|hH 1 [2] [VT] hQ h
def bD.K0:=GC f48
def bD.K2:=cb K0
def bD.K3:=ca K2
def bD.K6:=cb K3
def bD.K7:=ca K6
def bD.K8:=ca K7
def bD.pt(s:ByteArray):GJ:=λH R=>
 ∀b H1,b=H.size->H1=H.push (.stringIter s 0)->
 ∃(I9:zv) (m9:Int->zV->Nat),I9 0 H1/\ ∀nv H2,I9 nv H2->
 ∃a pos,H2[b]?=some (.stringIter a pos)/\
 if pos<a.size then(∀H3,H3=bR H2 b (.stringIter a (pos+(Utf8.decode a pos).2))->
 (I9 (zY (nv+1)) H3/\m9 (zY (nv+1)) H3<m9 nv H2))
 else
 R (vi nv) H2
theorem bD.link{s:ByteArray}(h:pt s H a):C s H a:=by
 refine l2 K0 10 func48 ?_;intro w0 Q hQ;unfold pt zY at h;refine ki [(0,.string s)]<|ar 0<|gi 1 [] [(2,vi 0)]<|gv<|ar 1<|fd 1 [0] [(3,.string s)]<|l1 (some 4) (λb=>vp (pa b)) (.stringIter s 0)<|λb H1 e1 e2=>have h:=h b H1 e1 e2;im [3] [(4,vp (pa b))]<|ue<|k5 0<|have⟨I9,m9,i3,i4⟩:=h;bI (x:=K8) (σ:=Int) (λs_=> [(2,vi s_),(4,vp (pa b))]) (λs_ H=>I9 s_ H) (λs_ H=>m9 s_ H) (0:Int) GE i3 sk ?_;rintro nv H2 i5;have h:=i4 nv H2 i5;refine ki [(2,vi nv),(4,vp (pa b))]<|ar 2<|have⟨R,pos,q6,h⟩:=h;jn h (λc7 h=>?_) (λc7 h=>?_)
 ·refine xl (some 5) (pb (vp (pa b)) true 0) _ Et (wt q6 c7) ?_;rintro _ H3 ⟨rfl,e8⟩;exact have h:=h H3 (by assumption);im [] [(5,.tuple #[VT,vi pos,.int .i32 ((Utf8.decode R pos).1:Int)])]<|gi 1 [5] [(6,VT)]<|gv<|l7 6<|kT<|k5 1<|k4 3<|fd 3 [2,6] [(2,vi (zY (nv+1)))]<|zq<|aD<|aE<|aQ ((zY (nv+1)):Int) sk h
 refine xl (some 5) (pb (vp (pa b)) true 0) _ Et (tU q6 c7) ?_;rintro _ _ ⟨rfl,rfl⟩;exact im [] [(5,.tuple #[VF])]<|gi 1 [5] [(6,VF)]<|gv<|pN 6<|zj 0<|aA<|aA<|aJ<|aE<|ar 4<|hH 2 [2] [vi nv] hQ h
def cQ.K0:=GC f97
def cQ.pt(r:Int):GJ:=λH R=>
 if((decide (0<=r)) && (decide (r<55296)))=true then(
 R VT H)
 else
 if((decide (57343<r)) && (decide (r<=1114111)))=true then(
 R VT H)
 else
 R VF H
theorem cQ.link{r:Int}(h:pt r H a):C r H a:=by
 refine l2 K0 17 func97 ?_;intro w0 Q hQ;unfold pt at h;refine ki [(0,.int .i32 r)]<|ar 0<|gi 1 [] []<|gv<|k5 0<|ar 1<|gU [(0,.int .i32 r),(3,.bool ((decide (0<=r)) && (decide (r<55296))))] ?_ ?_
 ·refine aE<|jn h (λc3 h=>?_) (λc3 h=>?_)
  ·exact aH 3 c3<|ar 2<|hH 1 [2] [VT] hQ h
  refine aG 3 (zZ c3)<|ar 3<|gU [(10,.bool ((decide (57343<r)) && (decide (r<=1114111))))] ?_ ?_
  ·refine aE<|jn h (λc7 h=>?_) (λc7 h=>?_)
   ·exact aH 10 c7<|ar 4<|hH 1 [2] [VT] hQ h
   exact aG 10 (zZ c7)<|Bn<|aD<|aE<|ar 5<|hH 1 [2] [VF] hQ h
  refine λhk=>nb 3 [(0,.int .i32 r),(13,.bool (decide (57343<r)))] ?_;by_cases c5:57343<r
  ·have b6:(decide (57343<r))=true:=zX c5;exact bW [(0,.int .i32 r),(13,VT)] (by rw[b6])<|nb 4 [(10,.bool (decide (r<=1114111)))]<|zq<|cW [(10,.bool ((decide (57343<r)) && (decide (r<=1114111))))] (by simp only[b6,BL])<|hk
  have b6:(decide (57343<r))=false:=zQ c5;exact bW [(0,.int .i32 r),(13,VF)] (by rw[b6])<|nb 4 [(10,VF)]<|zq<|cW [(10,.bool ((decide (57343<r)) && (decide (r<=1114111))))] (by simp only[b6,BL])<|hk
 refine λhk=>nb 3 [(0,.int .i32 r),(6,.bool (decide (0<=r)))] ?_;by_cases c1:0<=r
 ·have b2:(decide (0<=r))=true:=zX c1;exact bW [(0,.int .i32 r),(6,VT)] (by rw[b2])<|fd 4 [6] [(3,.bool (decide (r<55296)))]<|zq<|n7 3 (b:=(decide (r<55296))) (v:=((decide (0<=r)) && (decide (r<55296)))) (by simp only[b2,BL])<|hk
 have b2:(decide (0<=r))=false:=zQ c1;exact bW [(0,.int .i32 r),(6,VF)] (by rw[b2])<|fd 4 [6] [(3,VF)]<|zq<|n7 3 (b:=false) (v:=((decide (0<=r)) && (decide (r<55296)))) (by simp only[b2,BL])<|hk
def aX.K0:=GC f104
def aX.K2:=cb K0
def aX.K3:=ca K2
def aX.K5:=ca K3
def aX.K6:=cb K3
def aX.pt(s:ByteArray):GJ:=λH R=>
 ∃c:UInt8,((0:Int)<=0/\s[toNat 0]?=some c)/\
 ∃a:UInt8,((0:Int)<=1/\s[toNat 1]?=some a)/\
 ∃b:UInt8,((0:Int)<=2/\s[toNat 2]?=some b)/\
 ∃d:UInt8,((0:Int)<=3/\s[toNat 3]?=some d)/\
 ∃e:UInt8,((0:Int)<=4/\s[toNat 4]?=some e)/\
 ∃f:UInt8,((0:Int)<=5/\s[toNat 5]?=some f)/\
 ∃g:UInt8,((0:Int)<=6/\s[toNat 6]?=some g)/\
 ∃j:UInt8,((0:Int)<=7/\s[toNat 7]?=some j)/\
 R (vu (mp .u64 (mp .u64 (mp .u64 (mp .u64 (mp .u64 (mp .u64 (mp .u64 (IntKind.wrap .u64 ((c.toNat:Nat):Int)) (k8 .u64 (IntKind.wrap .u64 ((a.toNat:Nat):Int)) 8)) (k8 .u64 (IntKind.wrap .u64 ((b.toNat:Nat):Int)) 16)) (k8 .u64 (IntKind.wrap .u64 ((d.toNat:Nat):Int)) 24)) (k8 .u64 (IntKind.wrap .u64 ((e.toNat:Nat):Int)) 32)) (k8 .u64 (IntKind.wrap .u64 ((f.toNat:Nat):Int)) 40)) (k8 .u64 (IntKind.wrap .u64 ((g.toNat:Nat):Int)) 48)) (k8 .u64 (IntKind.wrap .u64 ((j.toNat:Nat):Int)) 56))) H
theorem aX.link{s:ByteArray}(h:pt s H a):C s H a:=by
 refine l2 K0 59 func104 ?_;intro w0 Q hQ;unfold pt at h;exact ki [(0,.string s)]<|ar 0<|gi 1 [] []<|gv<|ma (.const VF) K5 K6 GE GE<|kT<|gv<|mO 2<|hX 21 (.string s) []<|have⟨c,q1,h⟩:=h;Bc (some 22) (fD 9 (.string s) (vi 0)) (.int .u8 ((c.toNat:Nat):Int)) Et (λw _=>bM (P:=prog) (t:=9) (s:=s) (k:=.i64) (i:=0) EB q1.1 q1.2 w) [(0,.string s),(22,.int .u8 ((c.toNat:Nat):Int))] pk<|BU (some 23) (vu (GD ((c.toNat:Nat):Int))) [(0,.string s),(23,vu (GD ((c.toNat:Nat):Int)))]<|hX 24 (.string s) []<|have⟨R,q2,h⟩:=h;Bc (some 25) (fD 9 (.string s) (vi 1)) (.int .u8 ((R.toNat:Nat):Int)) Et (λw _=>bM (P:=prog) (t:=9) (s:=s) (k:=.i64) (i:=1) EB q2.1 q2.2 w) [(0,.string s),(23,vu (GD ((c.toNat:Nat):Int))),(25,.int .u8 ((R.toNat:Nat):Int))] pk<|BU (some 26) (vu (GD ((R.toNat:Nat):Int))) [(0,.string s),(23,vu (GD ((c.toNat:Nat):Int))),(26,vu (GD ((R.toNat:Nat):Int)))]<|hX 27 (vu (k8 .u64 (GD ((R.toNat:Nat):Int)) 8)) [26]<|hX 28 (vu (mp .u64 (GD ((c.toNat:Nat):Int)) (k8 .u64 (GD ((R.toNat:Nat):Int)) 8))) [23,27]<|hX 29 (.string s) []<|have⟨b,q3,h⟩:=h;Bc (some 30) (fD 9 (.string s) (vi 2)) (.int .u8 ((b.toNat:Nat):Int)) Et (λw _=>bM (P:=prog) (t:=9) (s:=s) (k:=.i64) (i:=2) EB q3.1 q3.2 w) [(0,.string s),(28,vu (mp .u64 (GD ((c.toNat:Nat):Int)) (k8 .u64 (GD ((R.toNat:Nat):Int)) 8))),(30,.int .u8 ((b.toNat:Nat):Int))] pk<|BU (some 31) (vu (GD ((b.toNat:Nat):Int))) [(0,.string s),(28,vu (mp .u64 (GD ((c.toNat:Nat):Int)) (k8 .u64 (GD ((R.toNat:Nat):Int)) 8))),(31,vu (GD ((b.toNat:Nat):Int)))]<|hX 32 (vu (k8 .u64 (GD ((b.toNat:Nat):Int)) 16)) [31]<|hX 33 (vu (mp .u64 (mp .u64 (GD ((c.toNat:Nat):Int)) (k8 .u64 (GD ((R.toNat:Nat):Int)) 8)) (k8 .u64 (GD ((b.toNat:Nat):Int)) 16))) [28,32]<|hX 34 (.string s) []<|have⟨d,q4,h⟩:=h;Bc (some 35) (fD 9 (.string s) (vi 3)) (.int .u8 ((d.toNat:Nat):Int)) Et (λw _=>bM (P:=prog) (t:=9) (s:=s) (k:=.i64) (i:=3) EB q4.1 q4.2 w) [(0,.string s),(33,vu (mp .u64 (mp .u64 (GD ((c.toNat:Nat):Int)) (k8 .u64 (GD ((R.toNat:Nat):Int)) 8)) (k8 .u64 (GD ((b.toNat:Nat):Int)) 16))),(35,.int .u8 ((d.toNat:Nat):Int))] pk<|BU (some 36) (vu (GD ((d.toNat:Nat):Int))) [(0,.string s),(33,vu (mp .u64 (mp .u64 (GD ((c.toNat:Nat):Int)) (k8 .u64 (GD ((R.toNat:Nat):Int)) 8)) (k8 .u64 (GD ((b.toNat:Nat):Int)) 16))),(36,vu (GD ((d.toNat:Nat):Int)))]<|hX 37 (vu (k8 .u64 (GD ((d.toNat:Nat):Int)) 24)) [36]<|hX 38 (vu (mp .u64 (mp .u64 (mp .u64 (GD ((c.toNat:Nat):Int)) (k8 .u64 (GD ((R.toNat:Nat):Int)) 8)) (k8 .u64 (GD ((b.toNat:Nat):Int)) 16)) (k8 .u64 (GD ((d.toNat:Nat):Int)) 24))) [33,37]<|hX 39 (.string s) []<|have⟨e,q5,h⟩:=h;Bc (some 40) (fD 9 (.string s) (vi 4)) (.int .u8 ((e.toNat:Nat):Int)) Et (λw _=>bM (P:=prog) (t:=9) (s:=s) (k:=.i64) (i:=4) EB q5.1 q5.2 w) [(0,.string s),(38,vu (mp .u64 (mp .u64 (mp .u64 (GD ((c.toNat:Nat):Int)) (k8 .u64 (GD ((R.toNat:Nat):Int)) 8)) (k8 .u64 (GD ((b.toNat:Nat):Int)) 16)) (k8 .u64 (GD ((d.toNat:Nat):Int)) 24))),(40,.int .u8 ((e.toNat:Nat):Int))] pk<|BU (some 41) (vu (GD ((e.toNat:Nat):Int))) [(0,.string s),(38,vu (mp .u64 (mp .u64 (mp .u64 (GD ((c.toNat:Nat):Int)) (k8 .u64 (GD ((R.toNat:Nat):Int)) 8)) (k8 .u64 (GD ((b.toNat:Nat):Int)) 16)) (k8 .u64 (GD ((d.toNat:Nat):Int)) 24))),(41,vu (GD ((e.toNat:Nat):Int)))]<|hX 42 (vu (k8 .u64 (GD ((e.toNat:Nat):Int)) 32)) [41]<|hX 43 (vu (mp .u64 (mp .u64 (mp .u64 (mp .u64 (GD ((c.toNat:Nat):Int)) (k8 .u64 (GD ((R.toNat:Nat):Int)) 8)) (k8 .u64 (GD ((b.toNat:Nat):Int)) 16)) (k8 .u64 (GD ((d.toNat:Nat):Int)) 24)) (k8 .u64 (GD ((e.toNat:Nat):Int)) 32))) [38,42]<|hX 44 (.string s) []<|have⟨f,q6,h⟩:=h;Bc (some 45) (fD 9 (.string s) (vi 5)) (.int .u8 ((f.toNat:Nat):Int)) Et (λw _=>bM (P:=prog) (t:=9) (s:=s) (k:=.i64) (i:=5) EB q6.1 q6.2 w) [(0,.string s),(43,vu (mp .u64 (mp .u64 (mp .u64 (mp .u64 (GD ((c.toNat:Nat):Int)) (k8 .u64 (GD ((R.toNat:Nat):Int)) 8)) (k8 .u64 (GD ((b.toNat:Nat):Int)) 16)) (k8 .u64 (GD ((d.toNat:Nat):Int)) 24)) (k8 .u64 (GD ((e.toNat:Nat):Int)) 32))),(45,.int .u8 ((f.toNat:Nat):Int))] pk<|BU (some 46) (vu (GD ((f.toNat:Nat):Int))) [(0,.string s),(43,vu (mp .u64 (mp .u64 (mp .u64 (mp .u64 (GD ((c.toNat:Nat):Int)) (k8 .u64 (GD ((R.toNat:Nat):Int)) 8)) (k8 .u64 (GD ((b.toNat:Nat):Int)) 16)) (k8 .u64 (GD ((d.toNat:Nat):Int)) 24)) (k8 .u64 (GD ((e.toNat:Nat):Int)) 32))),(46,vu (GD ((f.toNat:Nat):Int)))]<|hX 47 (vu (k8 .u64 (GD ((f.toNat:Nat):Int)) 40)) [46]<|hX 48 (vu (mp .u64 (mp .u64 (mp .u64 (mp .u64 (mp .u64 (GD ((c.toNat:Nat):Int)) (k8 .u64 (GD ((R.toNat:Nat):Int)) 8)) (k8 .u64 (GD ((b.toNat:Nat):Int)) 16)) (k8 .u64 (GD ((d.toNat:Nat):Int)) 24)) (k8 .u64 (GD ((e.toNat:Nat):Int)) 32)) (k8 .u64 (GD ((f.toNat:Nat):Int)) 40))) [43,47]<|hX 49 (.string s) []<|have⟨g,q7,h⟩:=h;Bc (some 50) (fD 9 (.string s) (vi 6)) (.int .u8 ((g.toNat:Nat):Int)) Et (λw _=>bM (P:=prog) (t:=9) (s:=s) (k:=.i64) (i:=6) EB q7.1 q7.2 w) [(0,.string s),(48,vu (mp .u64 (mp .u64 (mp .u64 (mp .u64 (mp .u64 (GD ((c.toNat:Nat):Int)) (k8 .u64 (GD ((R.toNat:Nat):Int)) 8)) (k8 .u64 (GD ((b.toNat:Nat):Int)) 16)) (k8 .u64 (GD ((d.toNat:Nat):Int)) 24)) (k8 .u64 (GD ((e.toNat:Nat):Int)) 32)) (k8 .u64 (GD ((f.toNat:Nat):Int)) 40))),(50,.int .u8 ((g.toNat:Nat):Int))] pk<|BU (some 51) (vu (GD ((g.toNat:Nat):Int))) [(0,.string s),(48,vu (mp .u64 (mp .u64 (mp .u64 (mp .u64 (mp .u64 (GD ((c.toNat:Nat):Int)) (k8 .u64 (GD ((R.toNat:Nat):Int)) 8)) (k8 .u64 (GD ((b.toNat:Nat):Int)) 16)) (k8 .u64 (GD ((d.toNat:Nat):Int)) 24)) (k8 .u64 (GD ((e.toNat:Nat):Int)) 32)) (k8 .u64 (GD ((f.toNat:Nat):Int)) 40))),(51,vu (GD ((g.toNat:Nat):Int)))]<|hX 52 (vu (k8 .u64 (GD ((g.toNat:Nat):Int)) 48)) [51]<|hX 53 (vu (mp .u64 (mp .u64 (mp .u64 (mp .u64 (mp .u64 (mp .u64 (GD ((c.toNat:Nat):Int)) (k8 .u64 (GD ((R.toNat:Nat):Int)) 8)) (k8 .u64 (GD ((b.toNat:Nat):Int)) 16)) (k8 .u64 (GD ((d.toNat:Nat):Int)) 24)) (k8 .u64 (GD ((e.toNat:Nat):Int)) 32)) (k8 .u64 (GD ((f.toNat:Nat):Int)) 40)) (k8 .u64 (GD ((g.toNat:Nat):Int)) 48))) [48,52]<|hX 54 (.string s) [0]<|have⟨j,q8,h⟩:=h;Bc (some 55) (fD 9 (.string s) (vi 7)) (.int .u8 ((j.toNat:Nat):Int)) Et (λw _=>bM (P:=prog) (t:=9) (s:=s) (k:=.i64) (i:=7) EB q8.1 q8.2 w) [(53,vu (mp .u64 (mp .u64 (mp .u64 (mp .u64 (mp .u64 (mp .u64 (GD ((c.toNat:Nat):Int)) (k8 .u64 (GD ((R.toNat:Nat):Int)) 8)) (k8 .u64 (GD ((b.toNat:Nat):Int)) 16)) (k8 .u64 (GD ((d.toNat:Nat):Int)) 24)) (k8 .u64 (GD ((e.toNat:Nat):Int)) 32)) (k8 .u64 (GD ((f.toNat:Nat):Int)) 40)) (k8 .u64 (GD ((g.toNat:Nat):Int)) 48))),(55,.int .u8 ((j.toNat:Nat):Int))] pk<|BU (some 56) (vu (GD ((j.toNat:Nat):Int))) [(53,vu (mp .u64 (mp .u64 (mp .u64 (mp .u64 (mp .u64 (mp .u64 (GD ((c.toNat:Nat):Int)) (k8 .u64 (GD ((R.toNat:Nat):Int)) 8)) (k8 .u64 (GD ((b.toNat:Nat):Int)) 16)) (k8 .u64 (GD ((d.toNat:Nat):Int)) 24)) (k8 .u64 (GD ((e.toNat:Nat):Int)) 32)) (k8 .u64 (GD ((f.toNat:Nat):Int)) 40)) (k8 .u64 (GD ((g.toNat:Nat):Int)) 48))),(56,vu (GD ((j.toNat:Nat):Int)))]<|hX 57 (vu (k8 .u64 (GD ((j.toNat:Nat):Int)) 56)) [56]<|hX 58 (vu (mp .u64 (mp .u64 (mp .u64 (mp .u64 (mp .u64 (mp .u64 (mp .u64 (GD ((c.toNat:Nat):Int)) (k8 .u64 (GD ((R.toNat:Nat):Int)) 8)) (k8 .u64 (GD ((b.toNat:Nat):Int)) 16)) (k8 .u64 (GD ((d.toNat:Nat):Int)) 24)) (k8 .u64 (GD ((e.toNat:Nat):Int)) 32)) (k8 .u64 (GD ((f.toNat:Nat):Int)) 40)) (k8 .u64 (GD ((g.toNat:Nat):Int)) 48)) (k8 .u64 (GD ((j.toNat:Nat):Int)) 56))) [53,57]<|hX 2 (vu (mp .u64 (mp .u64 (mp .u64 (mp .u64 (mp .u64 (mp .u64 (mp .u64 (GD ((c.toNat:Nat):Int)) (k8 .u64 (GD ((R.toNat:Nat):Int)) 8)) (k8 .u64 (GD ((b.toNat:Nat):Int)) 16)) (k8 .u64 (GD ((d.toNat:Nat):Int)) 24)) (k8 .u64 (GD ((e.toNat:Nat):Int)) 32)) (k8 .u64 (GD ((f.toNat:Nat):Int)) 40)) (k8 .u64 (GD ((g.toNat:Nat):Int)) 48)) (k8 .u64 (GD ((j.toNat:Nat):Int)) 56))) [58]<|iQ [(2,vu (mp .u64 (mp .u64 (mp .u64 (mp .u64 (mp .u64 (mp .u64 (mp .u64 (GD ((c.toNat:Nat):Int)) (k8 .u64 (GD ((R.toNat:Nat):Int)) 8)) (k8 .u64 (GD ((b.toNat:Nat):Int)) 16)) (k8 .u64 (GD ((d.toNat:Nat):Int)) 24)) (k8 .u64 (GD ((e.toNat:Nat):Int)) 32)) (k8 .u64 (GD ((f.toNat:Nat):Int)) 40)) (k8 .u64 (GD ((g.toNat:Nat):Int)) 48)) (k8 .u64 (GD ((j.toNat:Nat):Int)) 56)))] sk<|Bk<|ix [2] [vu (mp .u64 (mp .u64 (mp .u64 (mp .u64 (mp .u64 (mp .u64 (mp .u64 (GD ((c.toNat:Nat):Int)) (k8 .u64 (GD ((R.toNat:Nat):Int)) 8)) (k8 .u64 (GD ((b.toNat:Nat):Int)) 16)) (k8 .u64 (GD ((d.toNat:Nat):Int)) 24)) (k8 .u64 (GD ((e.toNat:Nat):Int)) 32)) (k8 .u64 (GD ((f.toNat:Nat):Int)) 40)) (k8 .u64 (GD ((g.toNat:Nat):Int)) 48)) (k8 .u64 (GD ((j.toNat:Nat):Int)) 56))] hQ h
variable{a b q r:Nat}{H:zV}{d u:zW}{g:zk}{i:Bool}{j:ByteArray}{k o:Int}
namespace dM
def K0:=GC f7
def K2:=cb K0
def K4:=cb K2
def K6:=cb K4
def K7:=ca K6
def BE:=cb K7
def Cq:=ca BE
def Bj:=ca Cq
end dM
def dM.pt(au dC:Int)(aq:Bool)(ae:zW)(af ag:Nat)(dT:ByteArray)(bh:zW)(bi bg:Nat):GJ:=λH R=>
 ∀b H1,b=H.size->H1=H.push (.cells (DR au dC aq ae af ag dT bh bi bg).toArray 27)->
 ∀d H2,d=H1.size->H2=H1.push (.cells GK.toArray 27)->
 ∀a5 H3,a5=H2.size->H3=H2.push (.cells #[] 91)->
 ∃xB xN xC,hat H3 (((ad b).add 2).add 1)=some (vs xB xN xC)/\
 dY 1 91 4 [.int .u32 0] (some (ad a5)) 0 0 xB xN H3 (λap a8 H4=>
 (aF H4 (((ad b).add 2).add 1) 0 1)/\ ∀H5,H5=aL H4 (((ad b).add 2).add 1) [vs ap (0+xN) a8] 0->
 ∃(bm:zW->Nat->Nat->zv) (m13:zW->Nat->Nat->Int->zV->Nat),bm none 0 0 0 H5/\ ∀lB lN lC i H6,bm lB lN lC i H6->
 ∃bj ah bk,hat H6 ((ad b).add 5)=some (vs bj ah bk)/\
 if i< (ah:Int)then(
 ∃a3 aj aw,hat H6 ((ad b).add 5)=some (vs a3 aj aw)/\
 ∃ak,a3=some ak/\
 zw i aj/\
 ∃an a4 ao z aa ac xT bc bd be,aI H6 (ak.add (toNat i*6)) 0 (DR an a4 ao z aa ac xT bc bd be)/\
 dM.C an a4 ao z aa ac xT bc bd be H6 (λv H7=> ∃ab ba y o q p a9 a1 ay ax,v=.agg (DR ab ba y o q p a9 a1 ay ax).toArray/\
 ∀bf H8,bf=H7.size->H8=H7.push (.cells (DR ab ba y o q p a9 a1 ay ax).toArray 27)->
 dY 6 27 88 GK lB lN lC (some (ad bf)) 1 H8 (λav ai H9=>
 (bm av (lN+1) ai (zY (i+1)) H9/\m13 av (lN+1) ai (zY (i+1)) H9<m13 lB lN lC i H6))))
 else
 (aF H6 ((ad b).add 5) 0 1)/\ ∀bb,bb=aL H6 ((ad b).add 5) [vs lB lN lC] 0->
 ∃m am j e f g al r u s,aI bb (ad b) 0 (DR m am j e f g al r u s)/\
 (aF bb (ad d) 0 6)/\ ∀bl,bl=aL bb (ad d) (DR m am j e f g al r u s) 0->
 ∃a7 rC a6 a0 az a2 rT bo bn bp,aI bl (ad d) 0 (DR a7 rC a6 a0 az a2 rT bo bn bp)/\
 R (.agg (DR a7 rC a6 a0 az a2 rT bo bn bp).toArray) bl)
theorem dM.link(h:pt k o i d a b j u q r H g):C k o i d a b j u q r H g:=by
 refine l2 K0 31 func7 ?_;intro w0 Q hQ;unfold pt zY at h;refine ki [(0,.agg (DR k o i d a b j u q r).toArray)]<|ar 0<|l1 (some 1) (λR=>vp (pa R)) (.cells (DR k o i d a b j u q r).toArray 27)<|λR H1 e1 e2=>have h:=h R H1 e1 e2;⟨[(1,vp (pa R))],pk,?_⟩;refine l1 (some 2) (λR=>vp (pa R)) (.cells GK.toArray 27)<|λbg H2 e3 e4=>have h:=h bg H2 e3 e4;im [] [(2,vp (pa bg))]<|ue<|ar 1<|l1 (some 5) (λR=>vs (pa R) 0 0) (.cells #[] 91)<|λa5 H3 e5 e6=>have h:=h a5 H3 e5 e6;im [] [(5,vs (pa a5) 0 0)]<|fd 2 [] [(7,Vq (((ad R).add 2).add 1))] ?_;obtain⟨xB,xN,xC,q7,h⟩:=h;refine hV 8 22 q7 [7]<|xl (some 9) (eM #[22,22] 22 #[vs (pa a5) 0 0,vs xB xN xC]) _ Et (cT (T:=91) (sz:=1) (bytes:=4) (zero:=(.int .u32 0:Value)) ET ET rfl (show prog.info? 91=some t91 from GE) GE GE GG GE (by first | exact h | (simpa only[Value.cells,EI]using h))) ?_;clear h;rintro _ H4 ⟨ap,a8,rfl,h⟩;refine im [5,8] [(9,vs ap (0+xN) a8)]<|fd 2 [] [(11,Vq (((ad R).add 2).add 1))]<|have⟨q9,h⟩:=h;fj 22 (vs ap (0+xN) a8) q9<|λH5 e8=>have h:=h H5 e8;im [9,11] []<|ue<|ar 2<|gi 1 [] [(3,VN)]<|gv<|ar 3<|gi 1 [] [(4,vi 0)]<|k5 0<|have⟨bm,m13,i10,i11⟩:=h;bI (x:=Bj) (σ:=zW×Nat×Nat×Int) (λs_=> [(1,vp (pa R)),(2,vp (pa bg)),(3,vs s_.1 s_.2.1 s_.2.2.1),(4,vi s_.2.2.2)]) (λs_ H=>bm s_.1 s_.2.1 s_.2.2.1 s_.2.2.2 H) (λs_ H=>m13 s_.1 s_.2.1 s_.2.2.1 s_.2.2.2 H) ((none,0,0,0):zW×Nat×Nat×Int) GE i10 sk ?_;rintro⟨lB,lN,lC,bh⟩ H6 i12;have h:=i11 lB lN lC bh H6 i12;refine ki [(1,vp (pa R)),(2,vp (pa bg)),(3,vs lB lN lC),(4,vi bh)]<|gv<|ar 4<|fd 2 [] [(12,vi bh),(13,Vq ((ad R).add 5))]<|have⟨bj,ah,bk,q13,h⟩:=h;hV 14 25 q13 [13]<|gi 2 [12,14] [(16,.bool (decide (bh< (ah:Int))))]<|jn h (λc14 h=>?_) (λc14 h=>?_)
 ·refine aH 16 (zX c14)<|kT<|gv<|k5 1<|k4 6<|fd 2 [3,16] [(19,vs lB lN lC),(20,Vq ((ad R).add 5))]<|have⟨a3,aj,aw,q16,h⟩:=h;hV 21 25 q16 [20]<|fd 1 [] [(22,vi bh)] ?_;obtain⟨ak,rfl,q17,ha⟩:=h;refine ww (some 23) 25 27 6 ak aj aw .i64 bh EK q17.1 q17.2 [21,22] [(23,Vq (ak.add (toNat bh*6)))] ?_;obtain⟨an,a4,ao,z,aa,ac,xT,bc,bd,be,q18,h⟩:=ha;refine na 24 27 q18 [23]<|Bs (some 25) h ?_;clear h;rintro v H7 ⟨ab,ba,y,ag,af,p,a9,a1,ay,ax,rfl,h⟩;refine im [24] [(25,.agg (DR ab ba y ag af p a9 a1 ay ax).toArray)]<|l1 (some 26) (λR=>vs (pa R) 1 1) (.cells (DR ab ba y ag af p a9 a1 ay ax).toArray 27) ?_;intro bf H8 e19 e20;replace h:=h bf H8 e19 e20;refine im [25] [(26,vs (pa bf) 1 1)]<|xl (some 27) (eM #[25,25] 25 #[vs lB lN lC,vs (pa bf) 1 1]) _ Et (cT (T:=27) (sz:=6) (bytes:=88) (zero:=(.agg GK.toArray:Value)) EK EK rfl (show prog.info? 27=some t27 from GE) GE GE GG GE (by first | exact h | (simpa only[Value.cells,EI]using h))) ?_;clear h;rintro _ H9 ⟨av,ai,rfl,h⟩;exact im [19,26] [(27,vs av (lN+1) ai)]<|fd 1 [27] [(3,vs av (lN+1) ai)]<|zq<|aD<|aE<|k4 5<|gi 3 [4] [(4,vi (zY (bh+1)))]<|aQ ((av,(lN+1),ai,(zY (bh+1))):zW×Nat×Nat×Int) sk h
 refine aG 16 (zQ c14)<|zj 0<|aA<|aA<|aJ<|aE<|ar 7<|fd 2 [3,4,16] [(28,vs lB lN lC),(29,Vq ((ad R).add 5))]<|have⟨q22,h⟩:=h;fj 25 (vs lB lN lC) q22<|λbb e21=>have h:=h bb e21;im [28,29] []<|ue<|ar 8<|have⟨m,am,dT,e,f,bi,al,ae,aq,s,q23,h⟩:=h;na 30 27 q23 [1]<|have⟨q25,h⟩:=h;bF 27 (DR m am dT e f bi al ae aq s) q25<|λbl e24=>have h:=h bl e24;im [30] []<|ue<|zx ?_;show At _ _ _ _ _ (Q .ret);exact have⟨a7,rC,a6,a0,az,a2,rT,bo,bn,bp,q26,h⟩:=h;bY (fn:=f7) [.agg (DR a7 rC a6 a0 az a2 rT bo bn bp).toArray] hQ (show bG _ _ _ [.cell 2 27] _ from .cell GE (aR Et Et q26) (.nil)) h
namespace cR
def K0:=GC f9
def K2:=cb K0
def K4:=cb K2
def K9:=ca K4
def Bj:=cb K9
def BK:=ca Bj
def Bt:=ca BK
def BF:=cb Bt
def B4:=ca BF
def Ch:=ca B4
def CH:=ca Ch
end cR
def cR.pt(ba aC:Int)(a9:Bool)(an:zW)(ao am:Nat)(aT:ByteArray)(bm:zW)(bk bl:Nat)(a0 bC:Int)(az:Bool)(ae:zW)(ag af:Nat)(bT:ByteArray)(bi:zW)(bh bj:Nat):GJ:=λH R=>
 ∀b H1,b=H.size->H1=H.push (.cells (DR ba aC a9 an ao am aT bm bk bl).toArray 27)->
 ∀d H2,d=H1.size->H2=H1.push (.cells (DR a0 bC az ae ag af bT bi bh bj).toArray 27)->
 ∃x,hat H2 (ad b)=some (vi x)/\
 ∃be,hat H2 (ad d)=some (vi be)/\
 if x=be then(
 ∃a7,hat H2 ((ad b).add 1)=some (.int .i32 a7)/\
 ∃bf,hat H2 ((ad d).add 1)=some (.int .i32 bf)/\
 if a7=bf then(
 ∃a8 ai aj ah,aI H2 ((ad b).add 2) 0 [.bool a8,vs ai aj ah]/\
 ∃ak aa ac ab,aI H2 ((ad d).add 2) 0 [.bool ak,vs aa ac ab]/\
 dP.C a8 ai aj ah ak aa ac ab H2 (λv H3=> ∃bb,v=.bool bb/\
 if bb=true then(
 ∃a5,hat H3 ((ad b).add 4)=some (.string a5)/\
 ∃bg,hat H3 ((ad d).add 4)=some (.string bg)/\
 if a5.toList=bg.toList then(
 ∃xB xN xC,hat H3 ((ad b).add 5)=some (vs xB xN xC)/\
 ∃bn au bp,hat H3 ((ad d).add 5)=some (vs bn au bp)/\
 if(xN:Int)=(au:Int)then(
 ∃(br:zv) (m15:Int->zV->Nat),br 0 H3/\ ∀i H4,br i H4->
 ∃bq aq bo,hat H4 ((ad b).add 5)=some (vs bq aq bo)/\
 if i< (aq:Int)then(
 ∃bs aw a6,hat H4 ((ad b).add 5)=some (vs bs aw a6)/\
 ∃s,bs=some s/\
 zw i aw/\
 ∃j z m e f g xT a1 a2 a3,aI H4 (s.add (toNat i*6)) 0 (DR j z m e f g xT a1 a2 a3)/\
 ∃bt ax a4,hat H4 ((ad d).add 5)=some (vs bt ax a4)/\
 ∃u,bt=some u/\
 zw i ax/\
 ∃y bc r o q p bd ay av ap,aI H4 (u.add (toNat i*6)) 0 (DR y bc r o q p bd ay av ap)/\
 cR.C j z m e f g xT a1 a2 a3 y bc r o q p bd ay av ap H4 (λbu H5=> ∃al,bu=.bool al/\
 if al=true then(
 (br (zY (i+1)) H5/\m15 (zY (i+1)) H5<m15 i H4))
 else
 R VF H5))
 else
 R VT H4)
 else
 R VF H3)
 else
 R VF H3)
 else
 R VF H3))
 else
 R VF H2)
 else
 R VF H2
theorem cR.link{a0 bC:Int}{az:Bool}{ae:zW}{ag af:Nat}{bT:ByteArray}{bi:zW}{bh bj:Nat}(h:pt k o i d a b j u q r a0 bC az ae ag af bT bi bh bj H g):C k o i d a b j u q r a0 bC az ae ag af bT bi bh bj H g:=by
 refine l2 K0 61 func9 ?_;intro w0 Q hQ;unfold pt zY at h;refine ki [(0,.agg (DR k o i d a b j u q r).toArray),(1,.agg (DR a0 bC az ae ag af bT bi bh bj).toArray)]<|ar 0<|l1 (some 2) (λbl=>vp (pa bl)) (.cells (DR k o i d a b j u q r).toArray 27)<|λbl H1 e1 e2=>have h:=h bl H1 e1 e2;im [0] [(2,vp (pa bl))]<|l1 (some 3) (λbl=>vp (pa bl)) (.cells (DR a0 bC az ae ag af bT bi bh bj).toArray 27)<|λbk H2 e3 e4=>have h:=h bk H2 e3 e4;im [1] [(3,vp (pa bk))]<|gi 1 [] []<|gv<|ar 1<|fd 1 [] [(6,vp (pa bl))]<|have⟨x,q5,h⟩:=h;hV 7 3 q5 [6]<|fd 1 [] [(8,vp (pa bk))]<|have⟨be,q6,h⟩:=h;hV 9 3 q6 [8]<|fd 2 [7,9] [(11,.bool (x !=be))]<|jn h (λc7 h=>?_) (λc7 h=>?_)
 ·refine kc 11 (Em.mpr c7)<|fd 1 [] [(12,Vq ((ad bl).add 1))]<|have⟨a7,q9,h⟩:=h;hV 13 21 q9 [12]<|fd 1 [] [(14,Vq ((ad bk).add 1))]<|have⟨bf,q10,h⟩:=h;hV 15 21 q10 [14]<|fd 3 [11,13,15] [(18,.bool (a7 !=bf))]<|jn h (λc11 h=>?_) (λc11 h=>?_)
  ·refine kc 18 (Em.mpr c11)<|fd 1 [] [(19,Vq ((ad bl).add 2))]<|have⟨a8,ai,aj,ah,q13,h⟩:=h;na 20 24 q13 [19]<|fd 1 [] [(21,Vq ((ad bk).add 2))]<|have⟨ak,aa,ac,ab,q14,h⟩:=h;na 22 24 q14 [21]<|l5 23 [20,22] h λbb H3 h=>fd 3 [18,23] [(26,.bool (!bb))]<|jn h (λc15 h=>?_) (λc15 h=>?_)
   ·have b16:(!bb)=false:=Eg Bool.not (c15);have b162:bb=true:=c15;refine kc 26 (b:=(!bb)) (v:=false) (by simp only[b16,b162,Es,Ep]) ?_;clear b16 b162;refine fd 1 [] [(27,Vq ((ad bl).add 4))]<|have⟨a5,q17,h⟩:=h;hV 28 9 q17 [27]<|fd 1 [] [(29,Vq ((ad bk).add 4))]<|have⟨bg,q18,h⟩:=h;hV 30 9 q18 [29]<|fd 3 [26,28,30] [(33,.bool (!(a5.toList==bg.toList)))]<|jn h (λc19 h=>?_) (λc19 h=>?_)
    ·refine kc 33 (Eg Bool.not (zK c19))<|fd 1 [] [(34,Vq ((ad bl).add 5))]<|have⟨xB,xN,xC,q21,h⟩:=h;hV 35 25 q21 [34]<|fd 2 [35] [(36,vi xN),(37,Vq ((ad bk).add 5))]<|have⟨bn,au,bp,q22,h⟩:=h;hV 38 25 q22 [37]<|gi 3 [33,36,38] [(41,.bool ((xN:Int) !=(au:Int)))]<|jn h (λc23 h=>?_) (λc23 h=>?_)
     ·refine aG 41 (Em.mpr c23)<|kT<|gv<|ar 3<|gi 1 [41] [(5,vi 0)]<|k5 0<|have⟨br,m15,i25,i26⟩:=h;bI (x:=Bt) (σ:=Int) (λs_=> [(2,vp (pa bl)),(3,vp (pa bk)),(5,vi s_)]) (λs_ H=>br s_ H) (λs_ H=>m15 s_ H) (0:Int) GE i25 sk ?_;rintro aT H4 i27;have h:=i26 aT H4 i27;refine ki [(2,vp (pa bl)),(3,vp (pa bk)),(5,vi aT)]<|gv<|ar 4<|fd 2 [] [(42,vi aT),(43,Vq ((ad bl).add 5))]<|have⟨bq,aq,bo,q28,h⟩:=h;hV 44 25 q28 [43]<|gi 2 [42,44] [(46,.bool (decide (aT< (aq:Int))))]<|jn h (λc29 h=>?_) (λc29 h=>?_)
      ·refine aH 46 (zX c29)<|kT<|gv<|k5 1<|gv ?_;obtain⟨bs,aw,a6,q31,s,rfl,q32,am,z,m,e,f,bm,xT,a1,a2,a3,q33,bt,ax,a4,q34,ba,rfl,q35,y,bc,aC,an,a9,p,bd,ay,av,ap,q36,ha⟩:=h;refine yY 6 (Code.ops CH) [(10,((ad bl).add 5),[vs (some s) aw a6]),(10,(s.add (toNat aT*6)),(DR am z m e f bm xT a1 a2 a3)),(10,((ad bk).add 5),[vs (some ba) ax a4]),(10,(ba.add (toNat aT*6)),(DR y bc aC an a9 p bd ay av ap))] 12 (bv 12 0) (show aP _ _ _ from⟨⟨q31,GB⟩,q33,⟨q34,GB⟩,q36,GB⟩)<|Bp 0 (some 49) (vp (some ((ad bl).add 5))) (bv 12 1) [(2,vp (pa bl)),(3,vp (pa bk)),(5,vi aT),(49,vp (some ((ad bl).add 5)))]<|lb 1 50 (vs (some s) aw a6) (bv 12 3) [49] (aZ 25 (vp (some ((ad bl).add 5)))) (yW 10 yZ)<|aM 2 51 (vi aT) (bv 12 7) []<|lb 3 52 (vp (some (s.add (toNat aT*6)))) (bv 12 15) [50,51] (bJ 25 (vs (some s) aw a6) (vi aT)) (λ_ w _ _ _=>dV (P:=prog) (t:=25) (elem:=27) (sz:=6) (a:=s) (len:=aw) (cap:=a6) (k:=.i64) (i:=aT) EK Et q32.1 q32.2 w)<|lb 4 53 (.agg (DR am z m e f bm xT a1 a2 a3).toArray) (bv 12 31) [52] (aZ 27 (vp (some (s.add (toNat aT*6))))) (kq 10 Et Et yX (.inl GE))<|aM 5 54 (vp (some ((ad bk).add 5))) (bv 12 63) []<|lb 6 55 (vs (some ba) ax a4) (bv 12 127) [54] (aZ 25 (vp (some ((ad bk).add 5)))) (yW 10 yQ)<|aM 7 56 (vi aT) (bv 12 255) []<|lb 8 57 (vp (some (ba.add (toNat aT*6)))) (bv 12 511) [55,56] (bJ 25 (vs (some ba) ax a4) (vi aT)) (λ_ w _ _ _=>dV (P:=prog) (t:=25) (elem:=27) (sz:=6) (a:=ba) (len:=ax) (cap:=a4) (k:=.i64) (i:=aT) EK Et q35.1 q35.2 w)<|lb 9 58 (.agg (DR y bc aC an a9 p bd ay av ap).toArray) (bv 12 1023) [57] (aZ 27 (vp (some (ba.add (toNat aT*6))))) (kq 10 Et Et yJ (.inl GE))<|yq 10 (some 59) (bv 12 2047) 9 #[.agg (DR am z m e f bm xT a1 a2 a3).toArray,.agg (DR y bc aC an a9 p bd ay av ap).toArray] ha ?_;clear ha;rintro bu H5 ⟨al,rfl,h⟩;refine⟨[(2,vp (pa bl)),(3,vp (pa bk)),(5,vi aT),(59,.bool al)],pk,(show aP _ _ _ from⟨GB,GB,GB,GB,GB⟩),?_⟩;refine BS 11 (some 60) (.bool (!al)) (bv 12 4095) [(2,vp (pa bl)),(3,vp (pa bk)),(5,vi aT),(60,.bool (!al))] (pure (.value (.bool (!al))):Sem Next) (λ_ _ _ _ _=>rfl)<|gm [(2,vp (pa bl)),(3,vp (pa bk)),(5,vi aT),(60,.bool (!al))] sk<|yx<|aE<|jn h (λc37 h=>?_) (λc37 h=>?_)
       ·exact aG 60 (Eg Bool.not (c37))<|Bn<|aD<|aE<|k4 5<|nx 3 [(2,vp (pa bl)),(3,vp (pa bk)),(5,vi (zY (aT+1)))]<|aQ ((zY (aT+1)):Int) sk h
       exact aH 60 (Eg Bool.not (zZ c37))<|ar 7<|hH 1 [4] [VF] hQ h
      exact aG 46 (zQ c29)<|zj 0<|aA<|aA<|aJ<|aE<|ar 8<|hH 1 [4] [VT] hQ h
     exact aH 41 (En.mpr c23)<|ar 2<|hH 1 [4] [VF] hQ h
    exact kc 33 (Eg Bool.not (zJ c19))<|gi 8 [33] [(41,VT)]<|l7 41<|ar 2<|hH 1 [4] [VF] hQ h
   have b16:(!bb)=true:=Eg Bool.not (zZ c15);have b162:bb=false:=zZ c15;refine kc 26 (b:=(!bb)) (v:=true) (by simp only[b16,b162,Es,Ep]) ?_;clear b16 b162;exact gi 15 [26] [(41,VT)]<|l7 41<|ar 2<|hH 1 [4] [VF] hQ h
  exact kc 18 (En.mpr c11)<|gi 23 [18] [(41,VT)]<|l7 41<|ar 2<|hH 1 [4] [VF] hQ h
 exact kc 11 (En.mpr c7)<|gi 30 [11] [(41,VT)]<|l7 41<|ar 2<|hH 1 [4] [VF] hQ h
def fk.K0:=GC f10
def fk.pt(z dC:Int)(y:Bool)(m:zW)(o p:Nat)(dT:ByteArray)(ai:zW)(aj ah:Nat):GJ:=λH R=>
 ∀b H1,b=H.size->H1=H.push (.cells (DR z dC y m o p dT ai aj ah).toArray 27)->
 ∃s xC u i j k xT ac ae af,aI H1 (ad b) 0 (DR s xC u i j k xT ac ae af)/\
 dH.C s xC u i j k xT ac ae af H1 (λv H2=> ∃x,v=.bool x/\
 if x=true then(
 ∃g aa f a e d ab t r q,aI H2 (ad b) 0 (DR g aa f a e d ab t r q)/\
 dI.C g aa f a e d ab t r q H2 (λak H3=> ∃ag,ak=vi ag/\
 R (.bool (decide (ag<=64))) H3))
 else
 R VF H2)
theorem fk.link(h:pt k o i d a b j u q r H g):C k o i d a b j u q r H g:=by
 refine l2 K0 10 func10 ?_;intro w0 Q hQ;unfold pt at h;refine ki [(0,.agg (DR k o i d a b j u q r).toArray)]<|ar 0<|l1 (some 1) (λah=>vp (pa ah)) (.cells (DR k o i d a b j u q r).toArray 27)<|λah H1 e1 e2=>have h:=h ah H1 e1 e2;⟨[(1,vp (pa ah))],pk,?_⟩;refine gi 1 [] []<|ar 1<|have⟨s,xC,z,dT,p,m,xT,ac,ae,af,q3,h⟩:=h;na 3 27 q3 []<|l5 4 [3] h λx H2 h=>fd 1 [4] [(5,.bool x)]<|jn h (λc4 h=>?_) (λc4 h=>?_)
 ·exact kc 5 c4<|have⟨ai,aa,f,R,e,aj,ab,t,dC,y,q6,h⟩:=h;na 6 27 q6 [1]<|l5 7 [6] h λag H3 h=>hH 3 [2] [.bool (decide (ag<=64))] hQ h
 exact kc 5 (zZ c4)<|hH 5 [2] [VF] hQ h
namespace dF
def K0:=GC f12
def K2:=cb K0
def K4:=cb K2
def K5:=ca K4
def K8:=cb K5
def K9:=ca K8
def BE:=ca K9
end dF
def dF.pt(u dC:Int)(s:Bool)(g:zW)(j m:Nat)(dT:ByteArray)(ag:zW)(ah af:Nat):GJ:=λH R=>
 ∀b H1,b=H.size->H1=H.push (.cells (DR u dC s g j m dT ag ah af).toArray 27)->
 ∃(ai:Int->zv) (m11:Int->Int->zV->Nat),ai 1 0 H1/\ ∀nv i H2,ai nv i H2->
 ∃xB xN xC,hat H2 ((ad b).add 5)=some (vs xB xN xC)/\
 if i< (xN:Int)then(
 ∃z o y,hat H2 ((ad b).add 5)=some (vs z o y)/\
 ∃p,z=some p/\
 zw i o/\
 ∃q aa r d e f xT ab ac ae,aI H2 (p.add (toNat i*6)) 0 (DR q aa r d e f xT ab ac ae)/\
 dF.C q aa r d e f xT ab ac ae H2 (λv H3=> ∃x,v=vi x/\
 (ai (zY (nv+x)) (zY (i+1)) H3/\m11 (zY (nv+x)) (zY (i+1)) H3<m11 nv i H2)))
 else
 R (vi nv) H2
theorem dF.link(h:pt k o i d a b j u q r H g):C k o i d a b j u q r H g:=by
 refine l2 K0 21 func12 ?_;intro w0 Q hQ;unfold pt zY at h;refine ki [(0,.agg (DR k o i d a b j u q r).toArray)]<|ar 0<|l1 (some 1) (λR=>vp (pa R)) (.cells (DR k o i d a b j u q r).toArray 27)<|λR H1 e1 e2=>have h:=h R H1 e1 e2;⟨[(1,vp (pa R))],pk,?_⟩;refine gi 1 [] []<|ar 1<|gi 1 [] [(3,vi 1)]<|gv<|ar 2<|gi 1 [] [(4,vi 0)]<|k5 0<|have⟨ai,m11,i3,i4⟩:=h;bI (x:=BE) (σ:=Int×Int) (λs_=> [(1,vp (pa R)),(3,vi s_.1),(4,vi s_.2)]) (λs_ H=>ai s_.1 s_.2 H) (λs_ H=>m11 s_.1 s_.2 H) ((1,0):Int×Int) GE i3 sk ?_;rintro⟨nv,ah⟩ H2 i5;have h:=i4 nv ah H2 i5;refine ki [(1,vp (pa R)),(3,vi nv),(4,vi ah)]<|gv<|ar 3<|fd 2 [] [(5,vi ah),(6,Vq ((ad R).add 5))]<|have⟨xB,xN,xC,q6,h⟩:=h;hV 7 25 q6 [6]<|gi 2 [5,7] [(9,.bool (decide (ah< (xN:Int))))]<|jn h (λc7 h=>?_) (λc7 h=>?_)
 ·refine aH 9 (zX c7)<|kT<|gv<|k5 1<|k4 5<|fd 2 [3,9] [(12,vi nv),(13,Vq ((ad R).add 5))]<|have⟨z,ag,y,q9,h⟩:=h;hV 14 25 q9 [13]<|fd 1 [] [(15,vi ah)] ?_;obtain⟨p,rfl,q10,ha⟩:=h;exact ww (some 16) 25 27 6 p ag y .i64 ah EK q10.1 q10.2 [14,15] [(16,Vq (p.add (toNat ah*6)))]<|have⟨dT,aa,m,af,e,f,xT,ab,ac,ae,q11,h⟩:=ha;na 17 27 q11 [16]<|l5 18 [17] h λx H3 h=>fd 2 [12,18] [(3,vi (zY (nv+x)))]<|zq<|aD<|aE<|k4 4<|gi 3 [4] [(4,vi (zY (ah+1)))]<|aQ (((zY (nv+x)),(zY (ah+1))):Int×Int) sk h
 exact aG 9 (zQ c7)<|zj 0<|aA<|aA<|aJ<|aE<|ar 6<|hH 2 [2] [vi nv] hQ h
namespace eR
def K0:=GC f15
def K2:=cb K0
def K4:=cb K2
def K5:=ca K4
def K8:=cb K5
def K9:=ca K8
def BE:=ca K9
def Bj:=cb BE
def Bu:=ca Bj
def BR:=ca Bu
end eR
def eR.pt(lB:zW)(lN lC:Nat):GJ:=λH R=>
 ∀b H1,b=H.size->H1=H.push (.cells GK.toArray 27)->
 ∀d H2,d=H1.size->H2=H1.push (.cells GK.toArray 27)->
 (aF H2 (ad d) 0 6)/\ ∀H3,H3=aL H2 (ad d) GK 0->
 ∃(az:zv) (m11:Int->zV->Nat),az (zY ((lN:Int)-1)) H3/\ ∀i H4,az i H4->
 if i>=0 then(
 ∃j,lB=some j/\
 zw i lN/\
 ∃ac xC af v y z xT au av aw,aI H4 (j.add (toNat i*6)) 0 (DR ac xC af v y z xT au av aw)/\
 ∃u am s m p o an ai ah ag,aI H4 (ad d) 0 (DR u am s m p o an ai ah ag)/\
 ∀al H5,al=H4.size->H5=H4.push (.cells #[vi ac,.int .i32 xC,.bool af,vs v y z,.string xT,vs au av aw,vi u,.int .i32 am,.bool s,vs m p o,.string an,vs ai ah ag] 27)->
 (aF H5 (ad d) 0 6)/\ ∀H6,H6=aL H5 (ad d) (DR 7 0 false none 0 0 (ByteArray.mk #[]) (some (ad al)) 2 2) 0->
 (az (zY (i-1)) H6/\m11 (zY (i-1)) H6<m11 i H4))
 else
 ∃r aj q e f g ak aa ae ab,aI H4 (ad d) 0 (DR r aj q e f g ak aa ae ab)/\
 (aF H4 (ad b) 0 6)/\ ∀H7,H7=aL H4 (ad b) (DR r aj q e f g ak aa ae ab) 0->
 ∃ay rC ax ap ao aq rT a1 a0 a2,aI H7 (ad b) 0 (DR ay rC ax ap ao aq rT a1 a0 a2)/\
 R (.agg (DR ay rC ax ap ao aq rT a1 a0 a2).toArray) H7
theorem eR.link(h:pt d a b H g):C d a b H g:=by
 refine l2 K0 21 func15 ?_;intro w0 Q hQ;unfold pt zY at h;refine ki [(0,vs d a b)]<|ar 0<|l1 (some 2) (λlC=>vp (pa lC)) (.cells GK.toArray 27)<|λlC H1 e1 e2=>have h:=h lC H1 e1 e2;im [] [(2,vp (pa lC))]<|ue<|ar 1<|fd 1 [] [(5,.agg GK.toArray)]<|l1 (some 3) (λlC=>vp (pa lC)) (.cells GK.toArray 27)<|λlN H2 e3 e4=>have h:=h lN H2 e3 e4;im [] [(3,vp (pa lN))]<|have⟨q6,h⟩:=h;bF 27 GK q6<|λH3 e5=>have h:=h H3 e5;im [5] []<|ue<|gv<|ar 2<|gi 4 [] [(4,vi (zY ((a:Int)-1)))]<|k5 0<|have⟨az,m11,i7,i8⟩:=h;bI (x:=BE) (σ:=Int) (λs_=> [(0,vs d a b),(2,vp (pa lC)),(3,vp (pa lN)),(4,vi s_)]) (λs_ H=>az s_ H) (λs_ H=>m11 s_ H) ((zY ((a:Int)-1)):Int) GE i7 sk ?_;rintro i H4 i9;have h:=i8 i H4 i9;refine ki [(0,vs d a b),(2,vp (pa lC)),(3,vp (pa lN)),(4,vi i)]<|gv<|ar 3<|gi 2 [] [(10,.bool (decide (i>=0)))]<|jn h (λc10 h=>?_) (λc10 h=>?_)
 ·refine aH 10 (zX c10)<|kT<|gv<|k5 1 ?_;obtain⟨j,rfl,q12,ac,xC,af,v,y,z,xT,au,av,aw,q13,u,am,s,m,p,o,an,ai,ah,ag,q14,ha⟩:=h;refine yY 5 (Code.ops BR) [(5,(j.add (toNat i*6)),(DR ac xC af v y z xT au av aw)),(5,(ad lN),(DR u am s m p o an ai ah ag))] 8 (bv 8 0) (show aP _ _ _ from⟨q13,q14,GB⟩)<|Bp 0 (some 13) (vs (some j) a b) (bv 8 1) [(0,vs (some j) a b),(2,vp (pa lC)),(3,vp (pa lN)),(4,vi i),(13,vs (some j) a b)]<|aM 1 14 (vi i) (bv 8 3) []<|lb 2 15 (vp (some (j.add (toNat i*6)))) (bv 8 7) [13,14] (bJ 25 (vs (some j) a b) (vi i)) (λ_ w _ _ _=>dV (P:=prog) (t:=25) (elem:=27) (sz:=6) (a:=j) (len:=a) (cap:=b) (k:=.i64) (i:=i) EK Et q12.1 q12.2 w)<|lb 3 16 (.agg (DR ac xC af v y z xT au av aw).toArray) (bv 8 15) [15] (aZ 27 (vp (some (j.add (toNat i*6))))) (kq 5 Et Et yZ (.inl GE))<|lb 4 17 (.agg (DR u am s m p o an ai ah ag).toArray) (bv 8 31) [] (aZ 27 (vp (pa lN))) (kq 5 Et Et yX (.inl GE))<|rQ 5 (some 18) (bv 8 63) (λlC=>vs (pa lC) 2 2) (.cells #[vi ac,.int .i32 xC,.bool af,vs v y z,.string xT,vs au av aw,vi u,.int .i32 am,.bool s,vs m p o,.string an,vs ai ah ag] 27) GE Et GE<|λal H5 e15 e16=>have h:=ha al H5 e15 e16;⟨[(0,vs (some j) a b),(2,vp (pa lC)),(3,vp (pa lN)),(4,vi i),(18,vs (pa al) 2 2)],pk,(show aP _ _ _ from⟨GB,GB,GB⟩),?_⟩;refine BS 6 (some 19) (.agg (DR 7 0 false none 0 0 (ByteArray.mk #[]) (pa al) 2 2).toArray) (bv 8 127) [(0,vs (some j) a b),(2,vp (pa lC)),(3,vp (pa lN)),(4,vi i),(19,.agg (DR 7 0 false none 0 0 (ByteArray.mk #[]) (pa al) 2 2).toArray)] (pure (.value (.agg (DR 7 0 false none 0 0 (ByteArray.mk #[]) (pa al) 2 2).toArray)):Sem Next) (λ_ _ _ _ _=>rfl)<|have⟨q18,h⟩:=h;gR 7 none (bv 8 255) (jR 27 (vp (pa lN)) (.agg (DR 7 0 false none 0 0 (ByteArray.mk #[]) (pa al) 2 2).toArray)) (λHz=>Hz=aL H5 (ad lN) (DR 7 0 false none 0 0 (ByteArray.mk #[]) (pa al) 2 2) 0) GE Et (ji (DR 7 0 false none 0 0 (ByteArray.mk #[]) (pa al) 2 2) 6 GE GE Et GE q18) GE<|λH6 e17=>have h:=h H6 e17;⟨[(0,vs (some j) a b),(2,vp (pa lC)),(3,vp (pa lN)),(4,vi i)],pk,(show aP _ _ _ from⟨GB,GB,GB⟩),?_⟩;exact gm [(0,vs (some j) a b),(2,vp (pa lC)),(3,vp (pa lN)),(4,vi i)] sk<|yx<|aD<|aE<|k4 4<|nx 3 [(0,vs (some j) a b),(2,vp (pa lC)),(3,vp (pa lN)),(4,vi (zY (i-1)))]<|aQ ((zY (i-1)):Int) sk h
 refine aG 10 (zQ c10)<|zj 0<|aA<|aA<|aJ<|aE<|ar 6<|p0 [0,4,10] []<|have⟨r,aj,q,e,f,lB,ak,aa,ae,ab,q19,h⟩:=h;na 20 27 q19 [3]<|have⟨q21,h⟩:=h;bF 27 (DR r aj q e f lB ak aa ae ab) q21<|λH7 e20=>have h:=h H7 e20;im [20] []<|ue<|zx ?_;show At _ _ _ _ _ (Q .ret);exact have⟨ay,rC,ax,ap,ao,aq,rT,a1,a0,a2,q22,h⟩:=h;bY (fn:=f15) [.agg (DR ay rC ax ap ao aq rT a1 a0 a2).toArray] hQ (show bG _ _ _ [.cell 2 27] _ from .cell GE (aR Et Et q22) (.nil)) h
namespace dH
def K0:=GC f27
def K2:=cb K0
def K3:=ca K2
def K6:=cb K3
def K7:=ca K6
def K9:=cb K7
def B1:=cb K9
def BR:=cb B1
def B4:=cb BR
def C1:=cb B4
def B8:=cb C1
def Cc:=cb B8
def C3:=cb Cc
def Cy:=cb C3
def DQ:=ca Cy
def DD:=cb DQ
def DP:=ca DD
def DW:=cb DP
def Dq:=ca DW
def DY:=ca Dq
end dH
def dH.pt(bq dC:Int)(bp:Bool)(ay:zW)(az a0:Nat)(dT:ByteArray)(cw:zW)(cx cv:Nat):GJ:=λH R=>
 ∀b H1,b=H.size->H1=H.push (.cells (DR bq dC bp ay az a0 dT cw cx cv).toArray 27)->
 ∃x,hat H1 (ad b)=some (vi x)/\
 ∃J:Bool->zV->Prop,(
 if x=0 then(
 J true H1)
 else
 if x=1 then(
 J true H1)
 else
 if x=2 then(
 J true H1)
 else
 if x=9 then(
 J true H1)
 else
 J (x==10) H1)/\ ∀s8 H2,J s8 H2->
 if s8=true then(
 ∃a7 xC bo av aw ax xT co cq cm,aI H2 (ad b) 0 (DR a7 xC bo av aw ax xT co cq cm)/\
 cI.C a7 xC bo av aw ax xT co cq cm 0 H2 (λv H3=> ∃cp,v=.bool cp/\
 R (.bool cp) H3))
 else
 if x=3 then(
 ∃am b9 ao y p z b2 ba bm bi,aI H2 (ad b) 0 (DR am b9 ao y p z b2 ba bm bi)/\
 cI.C am b9 ao y p z b2 ba bm bi 1 H2 (λdc H4=> ∃cg,dc=.bool cg/\
 if cg=true then(
 ∃cn,hat H4 ((ad b).add 1)=some (.int .i32 cn)/\
 cJ.C cn H4 (λdb H5=> ∃cr,db=.bool cr/\
 R (.bool cr) H5))
 else
 R VF H4))
 else
 if x=4 then(
 ∃an b5 aj ab m u b7 bb bg bk,aI H2 (ad b) 0 (DR an b5 aj ab m u b7 bb bg bk)/\
 cI.C an b5 aj ab m u b7 bb bg bk 2 H2 (λc8 H6=> ∃ce,c8=.bool ce/\
 if ce=true then(
 ∃b1 bd a8 bj,aI H6 ((ad b).add 2) 0 [.bool b1,vs bd a8 bj]/\
 fl.C b1 bd a8 bj H6 (λde H7=> ∃ct,de=.bool ct/\
 R (.bool ct) H7))
 else
 R VF H6))
 else
 ∃c3:Bool->zV->Prop,(
 if x=5 then(
 c3 true H2)
 else
 c3 (x==6) H2)/\ ∀cd H8,c3 cd H8->
 if cd=true then(
 ∃cs,hat H8 ((ad b).add 4)=some (.string cs)/\
 eq.C cs H8 (λda H9=> ∃f d e rb,da=.tuple #[vs f d e,.bool rb]/\
 ∃ap b6 al ac j o b0 a6 bf bc,aI H9 (ad b) 0 (DR ap b6 al ac j o b0 a6 bf bc)/\
 cI.C ap b6 al ac j o b0 a6 bf bc 4 H9 (λdf cu=> ∃ci,df=.bool ci/\
 if ci=true then(
 if rb=true then(
 if(d:Int)<=62 then(
 ∃g,hat cu (ad b)=some (vi g)/\
 R (.bool ((g==5) || (decide ((d:Int)>0)))) cu)
 else
 R VF cu)
 else
 R VF cu)
 else
 R VF cu)))
 else
 ∃c4:Bool->zV->Prop,(
 if x=7 then(
 c4 true H8)
 else
 c4 (x==8) H8)/\ ∀ch H11,c4 ch H11->
 if ch=true then(
 ∃cl:Bool->zV->Prop,(
 ∃ah bz ag q ae af b3 bn a5 be,aI H11 (ad b) 0 (DR ah bz ag q ae af b3 bn a5 be)/\
 cI.C ah bz ag q ae af b3 bn a5 be 8 H11 (λdd bu=> ∃au,dd=.bool au/\
 if au=true then(
 ∃a1,hat bu (ad b)=some (vi a1)/\
 if a1=7 then(
 ∃c0 a2 c2,hat bu ((ad b).add 5)=some (vs c0 a2 c2)/\
 if(a2:Int)=2 then(
 ∃cy br cj,hat bu ((ad b).add 5)=some (vs cy br cj)/\
 cl (decide ((br:Int)>62)) bu)
 else
 cl true bu)
 else
 ∃cz bs ck,hat bu ((ad b).add 5)=some (vs cz bs ck)/\
 cl (decide ((bs:Int)>62)) bu)
 else
 cl true bu))/\ ∀cc H12,cl cc H12->
 if cc=true then(
 R VF H12)
 else
 ∃(c5:zv) (m64:Int->zV->Nat),c5 0 H12/\ ∀i H13,c5 i H13->
 ∃xB xN c1,hat H13 ((ad b).add 5)=some (vs xB xN c1)/\
 if i< (xN:Int)then(
 ∃bx a3 bt,hat H13 ((ad b).add 5)=some (vs bx a3 bt)/\
 ∃a4,bx=some a4/\
 zw i a3/\
 ∃ak b4 ai s r aa bw bl bh a9,aI H13 (a4.add (toNat i*6)) 0 (DR ak b4 ai s r aa bw bl bh a9)/\
 dH.C ak b4 ai s r aa bw bl bh a9 H13 (λc9 c6=> ∃aq,c9=.bool aq/\
 if aq=true then(
 (c5 (zY (i+1)) c6/\m64 (zY (i+1)) c6<m64 i H13))
 else
 R VF c6))
 else
 R VT H13)
 else
 R VF H11
theorem dH.link(h:pt k o i d a b j u q r H g):C k o i d a b j u q r H g:=by
 refine l2 K0 100 func27 ?_;intro w0 Q hQ;unfold pt zY at h;refine ki [(0,.agg (DR k o i d a b j u q r).toArray)]<|ar 0<|l1 (some 1) (λR=>vp (pa R)) (.cells (DR k o i d a b j u q r).toArray 27)<|λR H1 e1 e2=>have h:=h R H1 e1 e2;⟨[(1,vp (pa R))],pk,?_⟩;refine gi 1 [] []<|gv<|ar 1<|fd 1 [] [(6,vp (pa R))]<|have⟨x,q3,h⟩:=h;hV 7 3 q3 [6]<|ue<|k5 0<|gv<|ar 2<|nx 2 [(1,vp (pa R)),(7,vi x),(8,.bool (x==0))]<|have⟨J,h,j5⟩:=h;j2 (σ:=Bool) (λs_=> [(1,vp (pa R)),(7,vi x),(8,.bool s_)]) (λs_ H=>J s_ H) ?_ ?_
 ·refine λs8 H2 j6=>have h:=j5 s8 H2 j6;ki [(1,vp (pa R)),(7,vi x),(8,.bool s8)]<|aE<|jn h (λc7 h=>?_) (λc7 h=>?_)
  ·have b8:s8=true:=c7;refine cW [(1,vp (pa R)),(7,vi x),(8,VT)] (by rw[b8]) ?_;clear b8;exact l7 8<|ar 7<|p0 [7,8] []<|have⟨a7,xC,bo,av,aw,ax,xT,co,cq,cm,q9,h⟩:=h;na 14 27 q9 [1]<|BD 15 (λcp=>[(15,.bool cp)]) h λcp H3 h=>hH 1 [2] [.bool cp] hQ h
  have b8:s8=false:=zZ c7;refine cW [(1,vp (pa R)),(7,vi x),(8,VF)] (by rw[b8]) ?_;clear b8;refine pN 8<|ar 8<|gi 2 [8] [(16,.bool (x==3))]<|jn h (λc10 h=>?_) (λc10 h=>?_)
  ·refine aH 16 (zK c10)<|ar 9<|p0 [7,16] []<|have⟨am,b9,ao,y,p,z,b2,ba,bm,bi,q12,h⟩:=h;na 18 27 q12 []<|l5 19 [18] h λcg H4 h=>fd 1 [19] [(20,.bool cg)]<|jn h (λc13 h=>?_) (λc13 h=>?_)
   ·exact kc 20 c13<|fd 1 [1] [(21,Vq ((ad R).add 1))]<|have⟨cn,q15,h⟩:=h;hV 22 21 q15 [21]<|l5 23 [22] h λcr H5 h=>hH 2 [2] [.bool cr] hQ h
   exact kc 20 (zZ c13)<|hH 5 [2] [VF] hQ h
  refine aG 16 (zJ c10)<|ar 10<|gi 2 [16] [(25,.bool (x==4))]<|jn h (λc16 h=>?_) (λc16 h=>?_)
  ·refine aH 25 (zK c16)<|ar 11<|p0 [7,25] []<|have⟨an,b5,aj,ab,m,bp,b7,bb,bg,bk,q18,h⟩:=h;na 27 27 q18 []<|l5 28 [27] h λce H6 h=>fd 1 [28] [(29,.bool ce)]<|jn h (λc19 h=>?_) (λc19 h=>?_)
   ·exact kc 29 c19<|fd 1 [1] [(30,Vq ((ad R).add 2))]<|have⟨b1,bd,a8,bj,q21,h⟩:=h;na 31 24 q21 [30]<|l5 32 [31] h λct H7 h=>hH 2 [2] [.bool ct] hQ h
   exact kc 29 (zZ c19)<|hH 5 [2] [VF] hQ h
  refine aG 25 (zJ c16)<|gv<|ar 12<|nx 2 [(1,vp (pa R)),(7,vi x),(34,.bool (x==5))]<|have⟨c3,h,j23⟩:=h;j2 (σ:=Bool) (λs_=> [(1,vp (pa R)),(7,vi x),(34,.bool s_)]) (λs_ H=>c3 s_ H) ?_ ?_
  ·refine λcd H8 j24=>have h:=j23 cd H8 j24;ki [(1,vp (pa R)),(7,vi x),(34,.bool cd)]<|aE<|jn h (λc25 h=>?_) (λc25 h=>?_)
   ·have b26:cd=true:=c25;refine cW [(1,vp (pa R)),(7,vi x),(34,VT)] (by rw[b26]) ?_;clear b26;refine l7 34<|ar 14<|fd 1 [7,34] [(38,Vq ((ad R).add 4))]<|have⟨cs,q27,h⟩:=h;hV 39 9 q27 [38]<|C4 40 [39] h λf cv e rb H9 h=>gi 5 [40] [(3,vs f cv e),(4,.bool rb)]<|ar 15<|have⟨ap,b6,al,ac,dT,a0,b0,a6,bf,bc,q28,h⟩:=h;na 43 27 q28 []<|l5 44 [43] h λci cu h=>fd 1 [44] [(45,.bool ci)]<|jn h (λc29 h=>?_) (λc29 h=>?_)
    ·refine kc 45 c29<|fd 3 [4,45] [(48,.bool rb)]<|jn h (λc31 h=>?_) (λc31 h=>?_)
     ·refine kc 48 c31<|fd 5 [48] [(53,.bool (decide ((cv:Int)<=62)))]<|jn h (λc33 h=>?_) (λc33 h=>?_)
      ·refine kc 53 (zX c33)<|fd 1 [1] [(54,vp (pa R))]<|have⟨cx,q35,h⟩:=h;hV 55 3 q35 [54]<|fd 2 [55] [(57,.bool (cx==5))]<|gU [(2,.bool ((cx==5) || (decide ((cv:Int)>0))))] ?_ ?_
       ·exact aE<|ix [2] [.bool ((cx==5) || (decide ((cv:Int)>0)))] hQ h
       refine λhk=>BM [(3,vs f cv e),(53,VT),(57,.bool (cx==5))] ?_;by_cases c36:cx=5
       ·have b37:(cx==5)=true:=zK c36;exact bW [(3,vs f cv e),(53,VT),(57,VT)] (by rw[b37])<|nb 6 [(2,VT)]<|zq<|cW [(2,.bool ((cx==5) || (decide ((cv:Int)>0))))] (by simp only[b37,BL])<|hk
       have b37:(cx==5)=false:=zJ c36;exact bW [(3,vs f cv e),(53,VT),(57,VF)] (by rw[b37])<|nb 6 [(2,.bool (decide ((cv:Int)>0)))]<|zq<|cW [(2,.bool ((cx==5) || (decide ((cv:Int)>0))))] (by simp only[b37,BL])<|hk
      exact kc 53 (zQ c33)<|hH 10 [2] [VF] hQ h
     exact kc 48 (zZ c31)<|hH 15 [2] [VF] hQ h
    exact kc 45 (zZ c29)<|hH 18 [2] [VF] hQ h
   have b26:cd=false:=zZ c25;refine cW [(1,vp (pa R)),(7,vi x),(34,VF)] (by rw[b26]) ?_;clear b26;refine pN 34<|gv<|ar 16<|nx 2 [(1,vp (pa R)),(7,vi x),(63,.bool (x==7))]<|have⟨c4,h,j39⟩:=h;j2 (σ:=Bool) (λs_=> [(1,vp (pa R)),(63,.bool s_)]) (λs_ H=>c4 s_ H) ?_ ?_
   ·refine λch H11 j40=>have h:=j39 ch H11 j40;ki [(1,vp (pa R)),(63,.bool ch)]<|aE<|jn h (λc41 h=>?_) (λc41 h=>?_)
    ·have b42:ch=true:=c41;refine cW [(1,vp (pa R)),(63,VT)] (by rw[b42]) ?_;clear b42;refine l7 63<|gv<|gv<|have⟨cl,h,j44⟩:=h;j2 (σ:=Bool) (λs_=> [(1,vp (pa R)),(85,.bool s_)]) (λs_ H=>cl s_ H) ?_ ?_
     ·refine λcc H12 j45=>have h:=j44 cc H12 j45;ki [(1,vp (pa R)),(85,.bool cc)]<|aE<|jn h (λc46 h=>?_) (λc46 h=>?_)
      ·have b47:cc=true:=c46;refine cW [(1,vp (pa R)),(85,VT)] (by rw[b47]) ?_;clear b47;exact l7 85<|ar 19<|hH 1 [2] [VF] hQ h
      have b47:cc=false:=zZ c46;refine cW [(1,vp (pa R)),(85,VF)] (by rw[b47]) ?_;clear b47;refine pN 85<|kT<|gv<|ar 20<|gi 1 [85] [(5,vi 0)]<|k5 1<|have⟨c5,m64,i48,i49⟩:=h;bI (x:=DY) (σ:=Int) (λs_=> [(1,vp (pa R)),(5,vi s_)]) (λs_ H=>c5 s_ H) (λs_ H=>m64 s_ H) (0:Int) GE i48 sk ?_;rintro cw H13 i50;have h:=i49 cw H13 i50;refine ki [(1,vp (pa R)),(5,vi cw)]<|gv<|ar 21<|fd 2 [] [(86,vi cw),(87,Vq ((ad R).add 5))]<|have⟨xB,xN,c1,q51,h⟩:=h;hV 88 25 q51 [87]<|gi 2 [86,88] [(90,.bool (decide (cw< (xN:Int))))]<|jn h (λc52 h=>?_) (λc52 h=>?_)
      ·refine aH 90 (zX c52)<|kT<|gv<|k5 2<|ar 23<|fd 1 [90] [(93,Vq ((ad R).add 5))]<|have⟨bx,a3,bt,q54,h⟩:=h;hV 94 25 q54 [93]<|fd 1 [] [(95,vi cw)] ?_;obtain⟨a4,rfl,q55,ha⟩:=h;refine ww (some 96) 25 27 6 a4 a3 bt .i64 cw EK q55.1 q55.2 [94,95] [(96,Vq (a4.add (toNat cw*6)))]<|have⟨ak,b4,ai,s,ay,aa,bw,bl,bh,a9,q56,h⟩:=ha;na 97 27 q56 [96]<|l5 98 [97] h λaq c6 h=>gi 1 [98] [(99,.bool (!aq))]<|jn h (λc57 h=>?_) (λc57 h=>?_)
       ·exact aG 99 (Eg Bool.not (c57))<|Bn<|aD<|aE<|k4 22<|gi 3 [5,99] [(5,vi (zY (cw+1)))]<|aQ ((zY (cw+1)):Int) sk h
       exact aH 99 (Eg Bool.not (zZ c57))<|ar 24<|hH 1 [2] [VF] hQ h
      exact aG 90 (zQ c52)<|zj 1<|aA<|aA<|aJ<|aE<|ar 25<|hH 1 [2] [VT] hQ h
     refine k4 18<|BM [(1,vp (pa R))]<|have⟨ah,bz,ag,az,ae,af,b3,bn,a5,be,q59,h⟩:=h;na 66 27 q59 []<|l5 67 [66] h λau bu h=>fd 2 [67] [(69,.bool (!au))]<|jn h (λc60 h=>?_) (λc60 h=>?_)
     ·have b61:(!au)=false:=Eg Bool.not (c60);have b612:au=true:=c60;refine kc 69 (b:=(!au)) (v:=false) (by simp only[b61,b612,Es,Ep]) ?_;clear b61 b612;refine fd 1 [] [(70,vp (pa R))]<|have⟨a1,q62,h⟩:=h;hV 71 3 q62 [70]<|fd 2 [71] [(73,.bool (a1==7))]<|jn h (λc63 h=>?_) (λc63 h=>?_)
      ·refine kc 73 (zK c63)<|fd 1 [] [(74,Vq ((ad R).add 5))]<|have⟨c0,a2,c2,q65,h⟩:=h;hV 75 25 q65 [74]<|fd 5 [69,73,75] [(80,.bool ((a2:Int) !=2))]<|jn h (λc66 h=>?_) (λc66 h=>?_)
       ·exact kc 80 (Em.mpr c66)<|fd 1 [] [(81,Vq ((ad R).add 5))]<|have⟨cy,br,cj,q68,h⟩:=h;hV 82 25 q68 [81]<|gi 3 [80,82] [(85,.bool (decide ((br:Int)>62)))]<|dL ((decide ((br:Int)>62)):Bool) sk h
       exact kc 80 (En.mpr c66)<|gi 5 [80] [(85,VT)]<|dL (true:Bool) sk h
      exact kc 73 (zJ c63)<|fd 8 [69,73] [(80,VF),(81,Vq ((ad R).add 5))]<|have⟨cz,bs,ck,q69,h⟩:=h;hV 82 25 q69 [81]<|gi 3 [80,82] [(85,.bool (decide ((bs:Int)>62)))]<|dL ((decide ((bs:Int)>62)):Bool) sk h
     have b61:(!au)=true:=Eg Bool.not (zZ c60);have b612:au=false:=zZ c60;refine kc 69 (b:=(!au)) (v:=true) (by simp only[b61,b612,Es,Ep]) ?_;clear b61 b612;exact gi 16 [69] [(85,VT)]<|dL (true:Bool) sk h
    have b42:ch=false:=zZ c41;refine cW [(1,vp (pa R)),(63,VF)] (by rw[b42]) ?_;clear b42;exact pN 63<|Bn<|aD<|aE<|ar 26<|hH 1 [2] [VF] hQ h
   revert h;refine CU (λc70 h=>?_) (λc70 h=>?_)
   ·have b71:(x==7)=true:=zK c70;refine cW [(1,vp (pa R)),(7,vi x),(63,VT)] (by simp only[b71,Es,Ep]) ?_;clear b71;exact l7 63<|kT<|dL (true:Bool) sk h
   have b71:(x==7)=false:=zJ c70;refine cW [(1,vp (pa R)),(7,vi x),(63,VF)] (by simp only[b71,Es,Ep]) ?_;clear b71;exact pN 63<|k4 17<|gi 2 [7,63] [(63,.bool (x==8))]<|dL ((x==8):Bool) sk h
  revert h;refine CU (λc72 h=>?_) (λc72 h=>?_)
  ·have b73:(x==5)=true:=zK c72;refine cW [(1,vp (pa R)),(7,vi x),(34,VT)] (by simp only[b73,Es,Ep]) ?_;clear b73;exact l7 34<|kT<|dL (true:Bool) sk h
  have b73:(x==5)=false:=zJ c72;refine cW [(1,vp (pa R)),(7,vi x),(34,VF)] (by simp only[b73,Es,Ep]) ?_;clear b73;exact pN 34<|k4 13<|gi 2 [34] [(34,.bool (x==6))]<|dL ((x==6):Bool) sk h
 revert h;refine CU (λc74 h=>?_) (λc74 h=>?_)
 ·have b75:(x==0)=true:=zK c74;refine cW [(1,vp (pa R)),(7,vi x),(8,VT)] (by simp only[b75,Es,Ep]) ?_;clear b75;exact l7 8<|kT<|dL (true:Bool) sk h
 have b75:(x==0)=false:=zJ c74;refine cW [(1,vp (pa R)),(7,vi x),(8,VF)] (by simp only[b75,Es,Ep]) ?_;clear b75;refine pN 8<|ar 3<|gi 2 [8] [(8,.bool (x==1))]<|jn h (λc76 h=>?_) (λc76 h=>?_)
 ·exact n7 8 (zK c76)<|l7 8<|kT<|dL (true:Bool) sk h
 refine n7 8 (zJ c76)<|pN 8<|ar 4<|gi 2 [8] [(8,.bool (x==2))]<|jn h (λc78 h=>?_) (λc78 h=>?_)
 ·exact n7 8 (zK c78)<|l7 8<|kT<|dL (true:Bool) sk h
 refine n7 8 (zJ c78)<|pN 8<|ar 5<|gi 2 [8] [(8,.bool (x==9))]<|jn h (λc80 h=>?_) (λc80 h=>?_)
 ·exact n7 8 (zK c80)<|l7 8<|kT<|dL (true:Bool) sk h
 exact n7 8 (zJ c80)<|pN 8<|k4 6<|gi 2 [8] [(8,.bool (x==10))]<|dL ((x==10):Bool) sk h
namespace dI
def K0:=GC f28
def K2:=cb K0
def K4:=cb K2
def K5:=ca K4
def K8:=cb K5
def K9:=ca K8
def BE:=ca K9
end dI
def dI.pt(aa dC:Int)(z:Bool)(g:zW)(j m:Nat)(dT:ByteArray)(ap:zW)(aq ao:Nat):GJ:=λH R=>
 ∀b H1,b=H.size->H1=H.push (.cells (DR aa dC z g j m dT ap aq ao).toArray 27)->
 ∃(ak:Int->zv) (m11:Int->Int->zV->Nat),ak 0 0 H1/\ ∀nv i H2,ak nv i H2->
 ∃xB xN xC,hat H2 ((ad b).add 5)=some (vs xB xN xC)/\
 if i< (xN:Int)then(
 ∃ai q ab,hat H2 ((ad b).add 5)=some (vs ai q ab)/\
 ∃s,ai=some s/\
 zw i q/\
 ∃u aj y d e f xT al am an,aI H2 (s.add (toNat i*6)) 0 (DR u aj y d e f xT al am an)/\
 dI.C u aj y d e f xT al am an H2 (λv H3=> ∃x,v=vi x/\
 ∃ae,hat H3 (ad b)=some (vi ae)/\
 if ae=7 then(
 ∃au o av,hat H3 ((ad b).add 5)=some (vs au o av)/\
 if i=(zY ((o:Int)-1))then(
 ∃ah r ac,hat H3 ((ad b).add 5)=some (vs ah r ac)/\
 ∃p,ah=some p/\
 zw i r/\
 ∃af,hat H3 (p.add (toNat i*6))=some (vi af)/\
 if af=7 then(
 (ak (if nv<x then x else nv) (zY (i+1)) H3/\m11 (if nv<x then x else nv) (zY (i+1)) H3<m11 nv i H2))
 else
 (ak (if nv< (zY (x+1))then(zY (x+1))else nv) (zY (i+1)) H3/\m11 (if nv< (zY (x+1))then(zY (x+1))else nv) (zY (i+1)) H3<m11 nv i H2))
 else
 (ak (if nv< (zY (x+1))then(zY (x+1))else nv) (zY (i+1)) H3/\m11 (if nv< (zY (x+1))then(zY (x+1))else nv) (zY (i+1)) H3<m11 nv i H2))
 else
 (ak (if nv< (zY (x+1))then(zY (x+1))else nv) (zY (i+1)) H3/\m11 (if nv< (zY (x+1))then(zY (x+1))else nv) (zY (i+1)) H3<m11 nv i H2)))
 else
 ∃ag,hat H2 (ad b)=some (vi ag)/\
 if ag=8 then(
 R (vi (if nv<1 then 1 else nv)) H2)
 else
 R (vi nv) H2
theorem dI.link(h:pt k o i d a b j u q r H g):C k o i d a b j u q r H g:=by
 refine l2 K0 52 func28 ?_;intro w0 Q hQ;unfold pt zY at h;refine ki [(0,.agg (DR k o i d a b j u q r).toArray)]<|ar 0<|l1 (some 1) (λR=>vp (pa R)) (.cells (DR k o i d a b j u q r).toArray 27)<|λR H1 e1 e2=>have h:=h R H1 e1 e2;⟨[(1,vp (pa R))],pk,?_⟩;refine gi 1 [] []<|ar 1<|gi 1 [] [(3,vi 0)]<|gv<|ar 2<|gi 1 [] [(4,vi 0)]<|k5 0<|have⟨ak,m11,i3,i4⟩:=h;bI (x:=BE) (σ:=Int×Int) (λs_=> [(1,vp (pa R)),(3,vi s_.1),(4,vi s_.2)]) (λs_ H=>ak s_.1 s_.2 H) (λs_ H=>m11 s_.1 s_.2 H) ((0,0):Int×Int) GE i3 sk ?_;rintro⟨nv,aq⟩ H2 i5;have h:=i4 nv aq H2 i5;refine ki [(1,vp (pa R)),(3,vi nv),(4,vi aq)]<|gv<|ar 3<|fd 2 [] [(6,vi aq),(7,Vq ((ad R).add 5))]<|have⟨xB,xN,xC,q6,h⟩:=h;hV 8 25 q6 [7]<|gi 2 [6,8] [(10,.bool (decide (aq< (xN:Int))))]<|jn h (λc7 h=>?_) (λc7 h=>?_)
 ·refine aH 10 (zX c7)<|kT<|gv<|k5 1<|ar 5<|fd 1 [10] [(13,Vq ((ad R).add 5))]<|have⟨ai,dT,ab,q9,h⟩:=h;hV 14 25 q9 [13]<|fd 1 [] [(15,vi aq)] ?_;obtain⟨s,rfl,q10,ha⟩:=h;refine ww (some 16) 25 27 6 s dT ab .i64 aq EK q10.1 q10.2 [14,15] [(16,Vq (s.add (toNat aq*6)))]<|have⟨z,aj,y,ao,e,f,xT,al,am,an,q11,h⟩:=ha;na 17 27 q11 [16]<|l5 18 [17] h λx H3 h=>gi 1 [18] [(5,vi x)]<|ar 6<|fd 1 [] [(19,vp (pa R))]<|have⟨ae,q12,h⟩:=h;hV 20 3 q12 [19]<|fd 2 [20] [(22,.bool (ae==7))]<|jn h (λc13 h=>?_) (λc13 h=>?_)
  ·refine kc 22 (zK c13)<|fd 2 [] [(23,vi aq),(24,Vq ((ad R).add 5))]<|have⟨au,ap,av,q15,h⟩:=h;hV 25 25 q15 [24]<|fd 5 [22,23,25] [(30,.bool (aq==(zY ((ap:Int)-1))))]<|jn h (λc16 h=>?_) (λc16 h=>?_)
   ·refine kc 30 (zK c16)<|fd 1 [] [(31,Vq ((ad R).add 5))]<|have⟨ah,m,ac,q18,h⟩:=h;hV 32 25 q18 [31]<|fd 1 [] [(33,vi aq)] ?_;obtain⟨p,rfl,q19,hb⟩:=h;refine ww (some 34) 25 27 6 p m ac .i64 aq EK q19.1 q19.2 [32,33] [(34,Vq (p.add (toNat aq*6)))]<|fd 1 [34] [(35,Vq (p.add (toNat aq*6)))]<|have⟨af,q20,h⟩:=hb;hV 36 3 q20 [35]<|gi 2 [30,36] [(38,.bool (af==7))]<|jn h (λc21 h=>?_) (λc21 h=>?_)
    ·exact aH 38 (zK c21)<|k4 7<|fd 4 [3,5,38] [(3,vi (if nv<x then x else nv))]<|zq<|aD<|aE<|k4 4<|gi 3 [4] [(4,vi (zY (aq+1)))]<|aQ (((if nv<x then x else nv),(zY (aq+1))):Int×Int) sk h
    exact aG 38 (zJ c21)<|k4 8<|fd 5 [3,5,38] [(3,vi (if nv< (zY (x+1))then(zY (x+1))else nv))]<|zq<|aD<|aE<|k4 4<|gi 3 [4] [(4,vi (zY (aq+1)))]<|aQ (((if nv< (zY (x+1))then(zY (x+1))else nv),(zY (aq+1))):Int×Int) sk h
   exact kc 30 (zJ c16)<|gi 8 [30] [(38,VF)]<|pN 38<|k4 8<|fd 5 [3,5,38] [(3,vi (if nv< (zY (x+1))then(zY (x+1))else nv))]<|zq<|aD<|aE<|k4 4<|gi 3 [4] [(4,vi (zY (aq+1)))]<|aQ (((if nv< (zY (x+1))then(zY (x+1))else nv),(zY (aq+1))):Int×Int) sk h
  exact kc 22 (zJ c13)<|gi 16 [22] [(38,VF)]<|pN 38<|k4 8<|fd 5 [3,5,38] [(3,vi (if nv< (zY (x+1))then(zY (x+1))else nv))]<|zq<|aD<|aE<|k4 4<|gi 3 [4] [(4,vi (zY (aq+1)))]<|aQ (((if nv< (zY (x+1))then(zY (x+1))else nv),(zY (aq+1))):Int×Int) sk h
 refine aG 10 (zQ c7)<|zj 0<|aA<|aA<|aJ<|aE<|gv<|ar 9<|nb 1 [(3,vi nv),(46,vp (pa R))]<|have⟨ag,q23,h⟩:=h;hV 47 3 q23 [46]<|gi 1 [47] [(48,.bool (ag==8))]<|jn h (λc24 h=>?_) (λc24 h=>?_)
 ·exact aH 48 (zK c24)<|k4 10<|nx 3 [(3,vi (if nv<1 then 1 else nv))]<|ar 11<|hH 2 [2] [vi (if nv<1 then 1 else nv)] hQ h
 exact aG 48 (zJ c24)<|kT<|ar 11<|hH 2 [2] [vi nv] hQ h
end Go.Proofs.YtillhdiiglamhaaGreatDoor
namespace Go.Proofs.YtillhdiiglamhaaGreatDoor
open Go Go.Proofs.Tryz
variable{H:zV}{a:zk}
def cI.K0:=GC f53
def cI.pt(o dC:Int)(m:Bool)(d:zW)(e f:Nat)(dT:ByteArray)(ag:zW)(ah af:Nat)(a:Int):GJ:=λH R=>
 ∀b H1,b=H.size->H1=H.push (.cells (DR o dC m d e f dT ag ah af).toArray 27)->
 if(l3 .i64 a 1)=0 then(
 ∃x,hat H1 ((ad b).add 1)=some (.int .i32 x)/\
 if x=0 then(
 if(l3 .i64 a 2)=0 then(
 ∃k,hat H1 ((ad b).add 2)=some (.bool k)/\
 if k=true then(
 R VF H1)
 else
 ∃xB xN xC,hat H1 (((ad b).add 2).add 1)=some (vs xB xN xC)/\
 if(xN:Int)=0 then(
 if(l3 .i64 a 4)=0 then(
 ∃z,hat H1 ((ad b).add 4)=some (.string z)/\
 if z.toList=(ByteArray.mk #[]).toList then(
 if(l3 .i64 a 8)=0 then(
 ∃am s ap,hat H1 ((ad b).add 5)=some (vs am s ap)/\
 R (.bool ((s:Int)==0)) H1)
 else
 R VT H1)
 else
 R VF H1)
 else
 if(l3 .i64 a 8)=0 then(
 ∃av q an,hat H1 ((ad b).add 5)=some (vs av q an)/\
 R (.bool ((q:Int)==0)) H1)
 else
 R VT H1)
 else
 R VF H1)
 else
 if(l3 .i64 a 4)=0 then(
 ∃aa,hat H1 ((ad b).add 4)=some (.string aa)/\
 if aa.toList=(ByteArray.mk #[]).toList then(
 if(l3 .i64 a 8)=0 then(
 ∃ai t ay,hat H1 ((ad b).add 5)=some (vs ai t ay)/\
 R (.bool ((t:Int)==0)) H1)
 else
 R VT H1)
 else
 R VF H1)
 else
 if(l3 .i64 a 8)=0 then(
 ∃al u a0,hat H1 ((ad b).add 5)=some (vs al u a0)/\
 R (.bool ((u:Int)==0)) H1)
 else
 R VT H1)
 else
 R VF H1)
 else
 if(l3 .i64 a 2)=0 then(
 ∃j,hat H1 ((ad b).add 2)=some (.bool j)/\
 if j=true then(
 R VF H1)
 else
 ∃aj g ao,hat H1 (((ad b).add 2).add 1)=some (vs aj g ao)/\
 if(g:Int)=0 then(
 if(l3 .i64 a 4)=0 then(
 ∃y,hat H1 ((ad b).add 4)=some (.string y)/\
 if y.toList=(ByteArray.mk #[]).toList then(
 if(l3 .i64 a 8)=0 then(
 ∃az r ak,hat H1 ((ad b).add 5)=some (vs az r ak)/\
 R (.bool ((r:Int)==0)) H1)
 else
 R VT H1)
 else
 R VF H1)
 else
 if(l3 .i64 a 8)=0 then(
 ∃aw p aq,hat H1 ((ad b).add 5)=some (vs aw p aq)/\
 R (.bool ((p:Int)==0)) H1)
 else
 R VT H1)
 else
 R VF H1)
 else
 if(l3 .i64 a 4)=0 then(
 ∃ab,hat H1 ((ad b).add 4)=some (.string ab)/\
 if ab.toList=(ByteArray.mk #[]).toList then(
 if(l3 .i64 a 8)=0 then(
 ∃au v ax,hat H1 ((ad b).add 5)=some (vs au v ax)/\
 R (.bool ((v:Int)==0)) H1)
 else
 R VT H1)
 else
 R VF H1)
 else
 if(l3 .i64 a 8)=0 then(
 ∃ae i ac,hat H1 ((ad b).add 5)=some (vs ae i ac)/\
 R (.bool ((i:Int)==0)) H1)
 else
 R VT H1
theorem cI.link{o dC:Int}{m:Bool}{d:zW}{e f:Nat}{dT:ByteArray}{ag:zW}{ah af:Nat}{R:Int}(h:pt o dC m d e f dT ag ah af R H a):C o dC m d e f dT ag ah af R H a:=by
 refine l2 K0 52 func53 ?_;intro w0 Q hQ;unfold pt at h;refine ki [(0,.agg (DR o dC m d e f dT ag ah af).toArray),(1,vi R)]<|ar 0<|l1 (some 2) (λb=>vp (pa b)) (.cells (DR o dC m d e f dT ag ah af).toArray 27)<|λb H1 e1 e2=>have h:=h b H1 e1 e2;im [0] [(2,vp (pa b))]<|gi 1 [] []<|ar 1<|fd 4 [] [(8,.bool ((l3 .i64 R 1) !=0))]<|jn h (λc3 h=>?_) (λc3 h=>?_)
 ·refine kc 8 (Em.mpr c3)<|fd 1 [] [(9,Vq ((ad b).add 1))]<|have⟨x,q5,h⟩:=h;hV 10 21 q5 [9]<|fd 3 [8,10] [(13,.bool (x==0))]<|jn h (λc6 h=>?_) (λc6 h=>?_)
  ·refine kc 13 (zK c6)<|fd 4 [] [(17,.bool ((l3 .i64 R 2) !=0))]<|jn h (λc8 h=>?_) (λc8 h=>?_)
   ·refine kc 17 (Em.mpr c8)<|fd 2 [] [(19,Vq ((ad b).add 2))]<|have⟨k,q10,h⟩:=h;hV 20 4 q10 [19]<|fd 2 [20] [(22,.bool (!k))]<|jn h (λc11 h=>?_) (λc11 h=>?_)
    ·have b12:(!k)=false:=Eg Bool.not (c11);have b122:k=true:=c11;refine kc 22 (b:=(!k)) (v:=false) (by simp only[b12,b122,Es,Ep]) ?_;clear b12 b122;exact hH 30 [4] [VF] hQ h
    have b12:(!k)=true:=Eg Bool.not (zZ c11);have b122:k=false:=zZ c11;refine kc 22 (b:=(!k)) (v:=true) (by simp only[b12,b122,Es,Ep]) ?_;clear b12 b122;refine fd 2 [] [(24,Vq (((ad b).add 2).add 1))]<|have⟨xB,xN,xC,q13,h⟩:=h;hV 25 22 q13 [24]<|fd 6 [13,17,22,25] [(31,.bool ((xN:Int)==0))]<|jn h (λc14 h=>?_) (λc14 h=>?_)
    ·refine kc 31 (zK c14)<|fd 4 [] [(35,.bool ((l3 .i64 R 4) !=0))]<|jn h (λc16 h=>?_) (λc16 h=>?_)
     ·refine kc 35 (Em.mpr c16)<|fd 1 [] [(36,Vq ((ad b).add 4))]<|have⟨z,q18,h⟩:=h;hV 37 9 q18 [36]<|fd 4 [31,35,37] [(41,.bool (z.toList==(ByteArray.mk #[]).toList))]<|jn h (λc19 h=>?_) (λc19 h=>?_)
      ·refine kc 41 (zK c19)<|fd 4 [1] [(45,.bool ((l3 .i64 R 8) !=0))]<|jn h (λc21 h=>?_) (λc21 h=>?_)
       ·exact kc 45 (Em.mpr c21)<|fd 1 [2] [(46,Vq ((ad b).add 5))]<|have⟨am,s,ap,q23,h⟩:=h;hV 47 25 q23 [46]<|hH 5 [4] [.bool ((s:Int)==0)] hQ h
       exact kc 45 (En.mpr c21)<|hH 7 [4] [VT] hQ h
      exact kc 41 (zJ c19)<|hH 11 [4] [VF] hQ h
     refine kc 35 (En.mpr c16)<|fd 10 [1,31,35] [(41,VT),(45,.bool ((l3 .i64 R 8) !=0))]<|jn h (λc24 h=>?_) (λc24 h=>?_)
     ·exact kc 45 (Em.mpr c24)<|fd 1 [2] [(46,Vq ((ad b).add 5))]<|have⟨av,q,an,q26,h⟩:=h;hV 47 25 q26 [46]<|hH 5 [4] [.bool ((q:Int)==0)] hQ h
     exact kc 45 (En.mpr c24)<|hH 7 [4] [VT] hQ h
    exact kc 31 (zJ c14)<|hH 21 [4] [VF] hQ h
   refine kc 17 (En.mpr c8)<|fd 18 [13,17] [(31,VT),(35,.bool ((l3 .i64 R 4) !=0))]<|jn h (λc27 h=>?_) (λc27 h=>?_)
   ·refine kc 35 (Em.mpr c27)<|fd 1 [] [(36,Vq ((ad b).add 4))]<|have⟨aa,q29,h⟩:=h;hV 37 9 q29 [36]<|fd 4 [31,35,37] [(41,.bool (aa.toList==(ByteArray.mk #[]).toList))]<|jn h (λc30 h=>?_) (λc30 h=>?_)
    ·refine kc 41 (zK c30)<|fd 4 [1] [(45,.bool ((l3 .i64 R 8) !=0))]<|jn h (λc32 h=>?_) (λc32 h=>?_)
     ·exact kc 45 (Em.mpr c32)<|fd 1 [2] [(46,Vq ((ad b).add 5))]<|have⟨ai,t,ay,q34,h⟩:=h;hV 47 25 q34 [46]<|hH 5 [4] [.bool ((t:Int)==0)] hQ h
     exact kc 45 (En.mpr c32)<|hH 7 [4] [VT] hQ h
    exact kc 41 (zJ c30)<|hH 11 [4] [VF] hQ h
   refine kc 35 (En.mpr c27)<|fd 10 [1,31,35] [(41,VT),(45,.bool ((l3 .i64 R 8) !=0))]<|jn h (λc35 h=>?_) (λc35 h=>?_)
   ·exact kc 45 (Em.mpr c35)<|fd 1 [2] [(46,Vq ((ad b).add 5))]<|have⟨al,u,a0,q37,h⟩:=h;hV 47 25 q37 [46]<|hH 5 [4] [.bool ((u:Int)==0)] hQ h
   exact kc 45 (En.mpr c35)<|hH 7 [4] [VT] hQ h
  exact kc 13 (zJ c6)<|hH 39 [4] [VF] hQ h
 refine kc 8 (En.mpr c3)<|fd 9 [8] [(13,VT),(17,.bool ((l3 .i64 R 2) !=0))]<|jn h (λc38 h=>?_) (λc38 h=>?_)
 ·refine kc 17 (Em.mpr c38)<|fd 2 [] [(19,Vq ((ad b).add 2))]<|have⟨j,q40,h⟩:=h;hV 20 4 q40 [19]<|fd 2 [20] [(22,.bool (!j))]<|jn h (λc41 h=>?_) (λc41 h=>?_)
  ·have b42:(!j)=false:=Eg Bool.not (c41);have b422:j=true:=c41;refine kc 22 (b:=(!j)) (v:=false) (by simp only[b42,b422,Es,Ep]) ?_;clear b42 b422;exact hH 30 [4] [VF] hQ h
  have b42:(!j)=true:=Eg Bool.not (zZ c41);have b422:j=false:=zZ c41;refine kc 22 (b:=(!j)) (v:=true) (by simp only[b42,b422,Es,Ep]) ?_;clear b42 b422;refine fd 2 [] [(24,Vq (((ad b).add 2).add 1))]<|have⟨aj,g,ao,q43,h⟩:=h;hV 25 22 q43 [24]<|fd 6 [13,17,22,25] [(31,.bool ((g:Int)==0))]<|jn h (λc44 h=>?_) (λc44 h=>?_)
  ·refine kc 31 (zK c44)<|fd 4 [] [(35,.bool ((l3 .i64 R 4) !=0))]<|jn h (λc46 h=>?_) (λc46 h=>?_)
   ·refine kc 35 (Em.mpr c46)<|fd 1 [] [(36,Vq ((ad b).add 4))]<|have⟨y,q48,h⟩:=h;hV 37 9 q48 [36]<|fd 4 [31,35,37] [(41,.bool (y.toList==(ByteArray.mk #[]).toList))]<|jn h (λc49 h=>?_) (λc49 h=>?_)
    ·refine kc 41 (zK c49)<|fd 4 [1] [(45,.bool ((l3 .i64 R 8) !=0))]<|jn h (λc51 h=>?_) (λc51 h=>?_)
     ·exact kc 45 (Em.mpr c51)<|fd 1 [2] [(46,Vq ((ad b).add 5))]<|have⟨az,r,ak,q53,h⟩:=h;hV 47 25 q53 [46]<|hH 5 [4] [.bool ((r:Int)==0)] hQ h
     exact kc 45 (En.mpr c51)<|hH 7 [4] [VT] hQ h
    exact kc 41 (zJ c49)<|hH 11 [4] [VF] hQ h
   refine kc 35 (En.mpr c46)<|fd 10 [1,31,35] [(41,VT),(45,.bool ((l3 .i64 R 8) !=0))]<|jn h (λc54 h=>?_) (λc54 h=>?_)
   ·exact kc 45 (Em.mpr c54)<|fd 1 [2] [(46,Vq ((ad b).add 5))]<|have⟨aw,p,aq,q56,h⟩:=h;hV 47 25 q56 [46]<|hH 5 [4] [.bool ((p:Int)==0)] hQ h
   exact kc 45 (En.mpr c54)<|hH 7 [4] [VT] hQ h
  exact kc 31 (zJ c44)<|hH 21 [4] [VF] hQ h
 refine kc 17 (En.mpr c38)<|fd 18 [13,17] [(31,VT),(35,.bool ((l3 .i64 R 4) !=0))]<|jn h (λc57 h=>?_) (λc57 h=>?_)
 ·refine kc 35 (Em.mpr c57)<|fd 1 [] [(36,Vq ((ad b).add 4))]<|have⟨ab,q59,h⟩:=h;hV 37 9 q59 [36]<|fd 4 [31,35,37] [(41,.bool (ab.toList==(ByteArray.mk #[]).toList))]<|jn h (λc60 h=>?_) (λc60 h=>?_)
  ·refine kc 41 (zK c60)<|fd 4 [1] [(45,.bool ((l3 .i64 R 8) !=0))]<|jn h (λc62 h=>?_) (λc62 h=>?_)
   ·exact kc 45 (Em.mpr c62)<|fd 1 [2] [(46,Vq ((ad b).add 5))]<|have⟨au,v,ax,q64,h⟩:=h;hV 47 25 q64 [46]<|hH 5 [4] [.bool ((v:Int)==0)] hQ h
   exact kc 45 (En.mpr c62)<|hH 7 [4] [VT] hQ h
  exact kc 41 (zJ c60)<|hH 11 [4] [VF] hQ h
 refine kc 35 (En.mpr c57)<|fd 10 [1,31,35] [(41,VT),(45,.bool ((l3 .i64 R 8) !=0))]<|jn h (λc65 h=>?_) (λc65 h=>?_)
 ·exact kc 45 (Em.mpr c65)<|fd 1 [2] [(46,Vq ((ad b).add 5))]<|have⟨ae,i,ac,q67,h⟩:=h;hV 47 25 q67 [46]<|hH 5 [4] [.bool ((i:Int)==0)] hQ h
 exact kc 45 (En.mpr c65)<|hH 7 [4] [VT] hQ h
def cJ.K0:=GC f54
def cJ.pt(c:Int):GJ:=λH R=>
 R (.bool (((decide (c>=0)) && (decide (c<=1114111))) && ((decide (c<55296)) || (decide (c>57343))))) H
theorem cJ.link{c:Int}(h:pt c H a):C c H a:=by
 refine l2 K0 17 func54 ?_;intro w0 Q hQ;unfold pt at h;refine ki [(0,.int .i32 c)]<|ar 0<|gi 1 [] []<|ar 1<|gU [(2,.bool (((decide (c>=0)) && (decide (c<=1114111))) && ((decide (c<55296)) || (decide (c>57343)))))] ?_ ?_
 ·exact aE<|ix [2] [.bool (((decide (c>=0)) && (decide (c<=1114111))) && ((decide (c<55296)) || (decide (c>57343))))] hQ h
 refine λhk=>nb 3 [(0,.int .i32 c),(5,.bool (decide (c>=0)))] ?_;by_cases c1:c>=0
 ·have b2:(decide (c>=0))=true:=zX c1;refine bW [(0,.int .i32 c),(5,VT)] (by rw[b2])<|fd 4 [5] [(9,.bool (decide (c<=1114111)))] ?_;by_cases c3:c<=1114111
  ·have b4:(decide (c<=1114111))=true:=zX c3;refine kc 9 b4<|fd 3 [] [(12,.bool (decide (c<55296)))] ?_;by_cases c5:c<55296
   ·have b6:(decide (c<55296))=true:=zX c5;exact kc 12 b6<|nb 5 [(2,VT)]<|zq<|cW [(2,.bool (((decide (c>=0)) && (decide (c<=1114111))) && ((decide (c<55296)) || (decide (c>57343)))))] (by simp only[b2,b4,b6,BL])<|hk
   have b6:(decide (c<55296))=false:=zQ c5;exact kc 12 b6<|nb 5 [(2,.bool (decide (c>57343)))]<|zq<|cW [(2,.bool (((decide (c>=0)) && (decide (c<=1114111))) && ((decide (c<55296)) || (decide (c>57343)))))] (by simp only[b2,b4,b6,BL])<|hk
  have b4:(decide (c<=1114111))=false:=zQ c3;exact kc 9 b4<|nb 8 [(2,VF)]<|zq<|cW [(2,.bool (((decide (c>=0)) && (decide (c<=1114111))) && ((decide (c<55296)) || (decide (c>57343)))))] (by simp only[b2,b4,BL])<|hk
 have b2:(decide (c>=0))=false:=zQ c1;exact bW [(0,.int .i32 c),(5,VF)] (by rw[b2])<|nb 12 [(2,VF)]<|zq<|cW [(2,.bool (((decide (c>=0)) && (decide (c<=1114111))) && ((decide (c<55296)) || (decide (c>57343)))))] (by simp only[b2,BL])<|hk
namespace eq
def K0:=GC f56
def K2:=cb K0
def K4:=cb K2
def K5:=ca K4
def K8:=cb K5
def K9:=ca K8
def BE:=ca K9
def Bj:=cb BE
def Bu:=ca Bj
def BR:=cb Bu
def B4:=cb BR
def CJ:=cb B4
def CG:=ca CJ
def CR:=cb CG
def CW:=ca CR
def C6:=ca CW
end eq
def eq.pt(s:ByteArray):GJ:=λH R=>
 ∃(z:zW->Nat->Nat->zv) (m11:zW->Nat->Nat->Int->zV->Nat),z none 0 0 0 H/\ ∀a outN outC i H1,z a outN outC i H1->
 if i< (s.size:Int)then(
 ∃c:UInt8,((0:Int)<=i/\s[Int.toNat i]?=some c)/\
 ∃J:Int->zv,(
 if(IntKind.wrap .i32 ((c.toNat:Nat):Int))<128 then(
 J 1 (IntKind.wrap .i32 ((c.toNat:Nat):Int)) H1)
 else
 if((decide ((IntKind.wrap .i32 ((c.toNat:Nat):Int))>=194)) && (decide ((IntKind.wrap .i32 ((c.toNat:Nat):Int))<224)))=true then(
 J 2 (l3 .i32 (IntKind.wrap .i32 ((c.toNat:Nat):Int)) 31) H1)
 else
 if((decide ((IntKind.wrap .i32 ((c.toNat:Nat):Int))>=224)) && (decide ((IntKind.wrap .i32 ((c.toNat:Nat):Int))<240)))=true then(
 J 3 (l3 .i32 (IntKind.wrap .i32 ((c.toNat:Nat):Int)) 15) H1)
 else
 if((decide ((IntKind.wrap .i32 ((c.toNat:Nat):Int))>=240)) && (decide ((IntKind.wrap .i32 ((c.toNat:Nat):Int))<245)))=true then(
 J 4 (l3 .i32 (IntKind.wrap .i32 ((c.toNat:Nat):Int)) 7) H1)
 else
 R (.tuple #[VN,VF]) H1)/\ ∀nv c_2 H2,J nv c_2 H2->
 if(zY (i+nv))>(s.size:Int)then(
 R (.tuple #[VN,VF]) H2)
 else
 ∃(af:Int->zv) (m41:Int->Int->zV->Nat),af c_2 1 H2/\ ∀d k H3,af d k H3->
 if k<nv then(
 ∃y:UInt8,((0:Int)<=(zY (i+k))/\s[Int.toNat (zY (i+k))]?=some y)/\
 if(l3 .u8 ((y.toNat:Nat):Int) 192)=128 then(
 ∃u:UInt8,((0:Int)<=(zY (i+k))/\s[Int.toNat (zY (i+k))]?=some u)/\
 (af (mp .i32 (k8 .i32 d 6) (IntKind.wrap .i32 (l3 .u8 ((u.toNat:Nat):Int) 63))) (zY (k+1)) H3/\m41 (mp .i32 (k8 .i32 d 6) (IntKind.wrap .i32 (l3 .u8 ((u.toNat:Nat):Int) 63))) (zY (k+1)) H3<m41 d k H3))
 else
 R (.tuple #[VN,VF]) H3)
 else
 if nv=3 then(
 if d<2048 then(
 R (.tuple #[VN,VF]) H3)
 else
 if nv=4 then(
 if d<65536 then(
 R (.tuple #[VN,VF]) H3)
 else
 cJ.C d H3 (λv H4=> ∃x,v=.bool x/\
 if x=true then(
 ∀b H5,b=H4.size->H5=H4.push (.cells #[.int .i32 d] 21)->
 dY 1 21 4 [.int .i32 0] a outN outC (some (ad b)) 1 H5 (λap aa H6=>
 (z ap (outN+1) aa (zY (i+nv)) H6/\m11 ap (outN+1) aa (zY (i+nv)) H6<m11 a outN outC i H1)))
 else
 R (.tuple #[VN,VF]) H4))
 else
 cJ.C d H3 (λal H7=> ∃j,al=.bool j/\
 if j=true then(
 ∀ac H8,ac=H7.size->H8=H7.push (.cells #[.int .i32 d] 21)->
 dY 1 21 4 [.int .i32 0] a outN outC (some (ad ac)) 1 H8 (λp g H9=>
 (z p (outN+1) g (zY (i+nv)) H9/\m11 p (outN+1) g (zY (i+nv)) H9<m11 a outN outC i H1)))
 else
 R (.tuple #[VN,VF]) H7))
 else
 if nv=4 then(
 if d<65536 then(
 R (.tuple #[VN,VF]) H3)
 else
 cJ.C d H3 (λam ah=> ∃m,am=.bool m/\
 if m=true then(
 ∀ab H11,ab=ah.size->H11=ah.push (.cells #[.int .i32 d] 21)->
 dY 1 21 4 [.int .i32 0] a outN outC (some (ad ab)) 1 H11 (λr f aj=>
 (z r (outN+1) f (zY (i+nv)) aj/\m11 r (outN+1) f (zY (i+nv)) aj<m11 a outN outC i H1)))
 else
 R (.tuple #[VN,VF]) ah))
 else
 cJ.C d H3 (λak ag=> ∃o,ak=.bool o/\
 if o=true then(
 ∀ae H14,ae=ag.size->H14=ag.push (.cells #[.int .i32 d] 21)->
 dY 1 21 4 [.int .i32 0] a outN outC (some (ad ae)) 1 H14 (λq e ai=>
 (z q (outN+1) e (zY (i+nv)) ai/\m11 q (outN+1) e (zY (i+nv)) ai<m11 a outN outC i H1)))
 else
 R (.tuple #[VN,VF]) ag))
 else
 R (.tuple #[vs a outN outC,VT]) H1
theorem eq.link{s:ByteArray}(h:pt s H a):C s H a:=by
 refine l2 K0 102 func56 ?_;intro w0 Q hQ;unfold pt zY at h;refine ki [(0,.string s)]<|ar 0<|gi 2 [] []<|ar 1<|gi 1 [] [(4,VN)]<|gv<|ar 2<|gi 1 [] [(5,vi 0)]<|k5 0<|have⟨z,m11,i1,i2⟩:=h;bI (x:=BE) (σ:=zW×Nat×Nat×Int) (λs_=> [(0,.string s),(4,vs s_.1 s_.2.1 s_.2.2.1),(5,vi s_.2.2.2)]) (λs_ H=>z s_.1 s_.2.1 s_.2.2.1 s_.2.2.2 H) (λs_ H=>m11 s_.1 s_.2.1 s_.2.2.1 s_.2.2.2 H) ((none,0,0,0):zW×Nat×Nat×Int) GE i1 sk ?_;rintro⟨R,outN,outC,i⟩ H1 i3;have h:=i2 R outN outC i H1 i3;refine ki [(0,.string s),(4,vs R outN outC),(5,vi i)]<|gv<|ar 3<|gi 4 [] [(12,.bool (decide (i< (s.size:Int))))]<|jn h (λc4 h=>?_) (λc4 h=>?_)
 ·refine aH 12 (zX c4)<|kT<|k5 1<|gv<|mO 4<|hX 13 (.string s) [12]<|hX 14 (vi i) []<|have⟨c,q6,h⟩:=h;Bc (some 15) (fD 9 (.string s) (vi i)) (.int .u8 ((c.toNat:Nat):Int)) Et (λw _=>bM (P:=prog) (t:=9) (s:=s) (k:=.i64) (i:=i) EB q6.1 q6.2 w) [(0,.string s),(4,vs R outN outC),(5,vi i),(15,.int .u8 ((c.toNat:Nat):Int))] pk<|BU (some 16) (.int .i32 (IntKind.wrap .i32 ((c.toNat:Nat):Int))) [(0,.string s),(4,vs R outN outC),(5,vi i),(16,.int .i32 (IntKind.wrap .i32 ((c.toNat:Nat):Int)))]<|hX 6 (vi 1) []<|hX 7 (.int .i32 (IntKind.wrap .i32 ((c.toNat:Nat):Int))) [16]<|iQ [(0,.string s),(4,vs R outN outC),(5,vi i),(6,vi 1),(7,.int .i32 (IntKind.wrap .i32 ((c.toNat:Nat):Int)))] sk<|Bk<|gv<|k5 2<|ar 6<|nx 3 [(0,.string s),(4,vs R outN outC),(5,vi i),(6,vi 1),(7,.int .i32 (IntKind.wrap .i32 ((c.toNat:Nat):Int))),(17,.bool (decide ((IntKind.wrap .i32 ((c.toNat:Nat):Int))<128)))]<|have⟨J,h,j8⟩:=h;j2 (σ:=Int×Int) (λs_=> [(0,.string s),(4,vs R outN outC),(5,vi i),(6,vi s_.1),(7,.int .i32 s_.2)]) (λs_ H=>J s_.1 s_.2 H) ?_ ?_
  ·rintro⟨nv,c_2⟩ H2 j9;refine have h:=j8 nv c_2 H2 j9;ki [(0,.string s),(4,vs R outN outC),(5,vi i),(6,vi nv),(7,.int .i32 c_2)]<|aD<|aE<|gv<|ar 13<|gi 6 [] [(52,.bool (decide ((zY (i+nv))>(s.size:Int))))]<|jn h (λc10 h=>?_) (λc10 h=>?_)
   ·exact aH 52 (zX c10)<|ar 14<|hH 2 [2,3] [VN,VF] hQ h
   refine aG 52 (zQ c10)<|kT<|gv<|ar 15<|gi 1 [52] [(8,vi 1)]<|k5 3<|have⟨af,m41,i12,i13⟩:=h;bI (x:=C6) (σ:=Int×Int) (λs_=> [(0,.string s),(4,vs R outN outC),(5,vi i),(6,vi nv),(7,.int .i32 s_.1),(8,vi s_.2)]) (λs_ H=>af s_.1 s_.2 H) (λs_ H=>m41 s_.1 s_.2 H) ((c_2,1):Int×Int) GE i12 sk ?_;rintro⟨d,k⟩ H3 i14;have h:=i13 d k H3 i14;refine ki [(0,.string s),(4,vs R outN outC),(5,vi i),(6,vi nv),(7,.int .i32 d),(8,vi k)]<|gv<|ar 16<|gi 3 [] [(55,.bool (decide (k<nv)))]<|jn h (λc15 h=>?_) (λc15 h=>?_)
   ·refine aH 55 (zX c15)<|kT<|gv<|k5 4<|gv<|ar 18<|fd 4 [55] [(58,.string s),(61,vi (zY (i+k)))]<|have⟨y,q17,h⟩:=h;wd 62 (fD 9 (.string s) (vi (zY (i+k)))) (.int .u8 ((y.toNat:Nat):Int)) (λw _=>bM (P:=prog) (t:=9) (s:=s) (k:=.i64) (i:=(zY (i+k))) EB q17.1 q17.2 w) [58,61]<|gi 2 [62] [(64,.bool ((l3 .u8 ((y.toNat:Nat):Int) 192) !=128))]<|jn h (λc18 h=>?_) (λc18 h=>?_)
    ·exact aG 64 (Em.mpr c18)<|kT<|k4 20<|fd 6 [7,64] [(66,.int .i32 (k8 .i32 d 6)),(67,.string s),(70,vi (zY (i+k)))]<|have⟨u,q20,h⟩:=h;wd 71 (fD 9 (.string s) (vi (zY (i+k)))) (.int .u8 ((u.toNat:Nat):Int)) (λw _=>bM (P:=prog) (t:=9) (s:=s) (k:=.i64) (i:=(zY (i+k))) EB q20.1 q20.2 w) [67,70]<|fd 4 [66,71] [(7,.int .i32 (mp .i32 (k8 .i32 d 6) (IntKind.wrap .i32 (l3 .u8 ((u.toNat:Nat):Int) 63))))]<|zq<|aD<|aE<|k4 17<|gi 3 [8] [(8,vi (zY (k+1)))]<|aQ (((mp .i32 (k8 .i32 d 6) (IntKind.wrap .i32 (l3 .u8 ((u.toNat:Nat):Int) 63))),(zY (k+1))):Int×Int) sk h
    exact aH 64 (En.mpr c18)<|ar 19<|hH 2 [2,3] [VN,VF] hQ h
   refine aG 55 (zQ c15)<|zj 3<|aA<|aA<|aJ<|aE<|gv<|ar 21<|fd 3 [8,55] [(77,.bool (nv==3))]<|jn h (λc21 h=>?_) (λc21 h=>?_)
   ·refine kc 77 (zK c21)<|fd 4 [77] [(81,.bool (decide (d<2048)))]<|jn h (λc23 h=>?_) (λc23 h=>?_)
    ·exact kc 81 (zX c23)<|gi 12 [81] [(93,VT)]<|l7 93<|ar 22<|hH 2 [2,3] [VN,VF] hQ h
    refine kc 81 (zQ c23)<|fd 3 [] [(84,.bool (nv==4))]<|jn h (λc25 h=>?_) (λc25 h=>?_)
    ·refine kc 84 (zK c25)<|fd 5 [81,84] [(89,.bool (decide (d<65536)))]<|jn h (λc27 h=>?_) (λc27 h=>?_)
     ·exact kc 89 (zX c27)<|gi 4 [89] [(93,VT)]<|l7 93<|ar 22<|hH 2 [2,3] [VN,VF] hQ h
     refine kc 89 (zQ c27)<|fd 1 [] [(90,.int .i32 d)]<|l5 91 [90] h λx H4 h=>gi 2 [89,91] [(93,.bool (!x))]<|jn h (λc29 h=>?_) (λc29 h=>?_)
     ·refine aG 93 (Eg Bool.not (c29))<|kT<|ar 23<|fd 2 [4,7,93] [(94,vs R outN outC),(95,.int .i32 d)]<|l1 (some 96) (λb=>vs (pa b) 1 1) (.cells #[.int .i32 d] 21) ?_;intro b H5 e31 e32;replace h:=h b H5 e31 e32;refine im [95] [(96,vs (pa b) 1 1)]<|xl (some 97) (eM #[102,102] 102 #[vs R outN outC,vs (pa b) 1 1]) _ Et (cT (T:=21) (sz:=1) (bytes:=4) (zero:=(.int .i32 0:Value)) Fl Fl rfl (show prog.info? 21=some t21 from GE) GE GE GG GE (by first | exact h | (simpa only[Value.cells,EI]using h))) ?_;clear h;rintro _ H6 ⟨ap,aa,rfl,h⟩;exact im [94,96] [(97,vs ap (outN+1) aa)]<|gi 1 [97] [(4,vs ap (outN+1) aa)]<|k4 24<|fd 4 [5,6] [(5,vi (zY (i+nv)))]<|zq<|aD<|aE<|aQ ((ap,(outN+1),aa,(zY (i+nv))):zW×Nat×Nat×Int) sk h
     exact aH 93 (Eg Bool.not (zZ c29))<|ar 22<|hH 2 [2,3] [VN,VF] hQ h
    refine kc 84 (zJ c25)<|fd 6 [81,84] [(89,VF),(90,.int .i32 d)]<|l5 91 [90] h λj H7 h=>gi 2 [89,91] [(93,.bool (!j))]<|jn h (λc33 h=>?_) (λc33 h=>?_)
    ·refine aG 93 (Eg Bool.not (c33))<|kT<|ar 23<|fd 2 [4,7,93] [(94,vs R outN outC),(95,.int .i32 d)]<|l1 (some 96) (λb=>vs (pa b) 1 1) (.cells #[.int .i32 d] 21) ?_;intro ac H8 e35 e36;replace h:=h ac H8 e35 e36;refine im [95] [(96,vs (pa ac) 1 1)]<|xl (some 97) (eM #[102,102] 102 #[vs R outN outC,vs (pa ac) 1 1]) _ Et (cT (T:=21) (sz:=1) (bytes:=4) (zero:=(.int .i32 0:Value)) Fl Fl rfl (show prog.info? 21=some t21 from GE) GE GE GG GE (by first | exact h | (simpa only[Value.cells,EI]using h))) ?_;clear h;rintro _ H9 ⟨p,g,rfl,h⟩;exact im [94,96] [(97,vs p (outN+1) g)]<|gi 1 [97] [(4,vs p (outN+1) g)]<|k4 24<|fd 4 [5,6] [(5,vi (zY (i+nv)))]<|zq<|aD<|aE<|aQ ((p,(outN+1),g,(zY (i+nv))):zW×Nat×Nat×Int) sk h
    exact aH 93 (Eg Bool.not (zZ c33))<|ar 22<|hH 2 [2,3] [VN,VF] hQ h
   refine kc 77 (zJ c21)<|fd 7 [77] [(81,VF),(84,.bool (nv==4))]<|jn h (λc37 h=>?_) (λc37 h=>?_)
   ·refine kc 84 (zK c37)<|fd 5 [81,84] [(89,.bool (decide (d<65536)))]<|jn h (λc39 h=>?_) (λc39 h=>?_)
    ·exact kc 89 (zX c39)<|gi 4 [89] [(93,VT)]<|l7 93<|ar 22<|hH 2 [2,3] [VN,VF] hQ h
    refine kc 89 (zQ c39)<|fd 1 [] [(90,.int .i32 d)]<|l5 91 [90] h λm ah h=>gi 2 [89,91] [(93,.bool (!m))]<|jn h (λc41 h=>?_) (λc41 h=>?_)
    ·refine aG 93 (Eg Bool.not (c41))<|kT<|ar 23<|fd 2 [4,7,93] [(94,vs R outN outC),(95,.int .i32 d)]<|l1 (some 96) (λb=>vs (pa b) 1 1) (.cells #[.int .i32 d] 21) ?_;intro ab H11 e43 e44;replace h:=h ab H11 e43 e44;refine im [95] [(96,vs (pa ab) 1 1)]<|xl (some 97) (eM #[102,102] 102 #[vs R outN outC,vs (pa ab) 1 1]) _ Et (cT (T:=21) (sz:=1) (bytes:=4) (zero:=(.int .i32 0:Value)) Fl Fl rfl (show prog.info? 21=some t21 from GE) GE GE GG GE (by first | exact h | (simpa only[Value.cells,EI]using h))) ?_;clear h;rintro _ aj ⟨r,f,rfl,h⟩;exact im [94,96] [(97,vs r (outN+1) f)]<|gi 1 [97] [(4,vs r (outN+1) f)]<|k4 24<|fd 4 [5,6] [(5,vi (zY (i+nv)))]<|zq<|aD<|aE<|aQ ((r,(outN+1),f,(zY (i+nv))):zW×Nat×Nat×Int) sk h
    exact aH 93 (Eg Bool.not (zZ c41))<|ar 22<|hH 2 [2,3] [VN,VF] hQ h
   refine kc 84 (zJ c37)<|fd 6 [81,84] [(89,VF),(90,.int .i32 d)]<|l5 91 [90] h λo ag h=>gi 2 [89,91] [(93,.bool (!o))]<|jn h (λc45 h=>?_) (λc45 h=>?_)
   ·refine aG 93 (Eg Bool.not (c45))<|kT<|ar 23<|fd 2 [4,7,93] [(94,vs R outN outC),(95,.int .i32 d)]<|l1 (some 96) (λb=>vs (pa b) 1 1) (.cells #[.int .i32 d] 21) ?_;intro ae H14 e47 e48;replace h:=h ae H14 e47 e48;refine im [95] [(96,vs (pa ae) 1 1)]<|xl (some 97) (eM #[102,102] 102 #[vs R outN outC,vs (pa ae) 1 1]) _ Et (cT (T:=21) (sz:=1) (bytes:=4) (zero:=(.int .i32 0:Value)) Fl Fl rfl (show prog.info? 21=some t21 from GE) GE GE GG GE (by first | exact h | (simpa only[Value.cells,EI]using h))) ?_;clear h;rintro _ ai ⟨q,e,rfl,h⟩;exact im [94,96] [(97,vs q (outN+1) e)]<|gi 1 [97] [(4,vs q (outN+1) e)]<|k4 24<|fd 4 [5,6] [(5,vi (zY (i+nv)))]<|zq<|aD<|aE<|aQ ((q,(outN+1),e,(zY (i+nv))):zW×Nat×Nat×Int) sk h
   exact aH 93 (Eg Bool.not (zZ c45))<|ar 22<|hH 2 [2,3] [VN,VF] hQ h
  revert h;refine CU (λc49 h=>?_) (λc49 h=>?_)
  ·have b50:(decide ((IntKind.wrap .i32 ((c.toNat:Nat):Int))<128))=true:=zX c49;refine cW [(0,.string s),(4,vs R outN outC),(5,vi i),(6,vi 1),(7,.int .i32 (IntKind.wrap .i32 ((c.toNat:Nat):Int))),(17,VT)] (by simp only[b50,Es,Ep]) ?_;clear b50;exact l7 17<|kT<|dL ((1,(IntKind.wrap .i32 ((c.toNat:Nat):Int))):Int×Int) sk h
  have b50:(decide ((IntKind.wrap .i32 ((c.toNat:Nat):Int))<128))=false:=zQ c49;refine cW [(0,.string s),(4,vs R outN outC),(5,vi i),(6,vi 1),(7,.int .i32 (IntKind.wrap .i32 ((c.toNat:Nat):Int))),(17,VF)] (by simp only[b50,Es,Ep]) ?_;clear b50;refine pN 17<|ar 7<|gU [(0,.string s),(4,vs R outN outC),(5,vi i),(7,.int .i32 (IntKind.wrap .i32 ((c.toNat:Nat):Int))),(20,.bool ((decide ((IntKind.wrap .i32 ((c.toNat:Nat):Int))>=194)) && (decide ((IntKind.wrap .i32 ((c.toNat:Nat):Int))<224))))] ?_ ?_
  ·refine aE<|jn h (λc53 h=>?_) (λc53 h=>?_)
   ·exact aH 20 c53<|k4 8<|nx 4 [(0,.string s),(4,vs R outN outC),(5,vi i),(6,vi 2),(7,.int .i32 (l3 .i32 (IntKind.wrap .i32 ((c.toNat:Nat):Int)) 31))]<|dL ((2,(l3 .i32 (IntKind.wrap .i32 ((c.toNat:Nat):Int)) 31)):Int×Int) sk h
   refine aG 20 (zZ c53)<|ar 9<|gU [(0,.string s),(4,vs R outN outC),(5,vi i),(7,.int .i32 (IntKind.wrap .i32 ((c.toNat:Nat):Int))),(29,.bool ((decide ((IntKind.wrap .i32 ((c.toNat:Nat):Int))>=224)) && (decide ((IntKind.wrap .i32 ((c.toNat:Nat):Int))<240))))] ?_ ?_
   ·refine aE<|jn h (λc57 h=>?_) (λc57 h=>?_)
    ·exact aH 29 c57<|k4 10<|nx 4 [(0,.string s),(4,vs R outN outC),(5,vi i),(6,vi 3),(7,.int .i32 (l3 .i32 (IntKind.wrap .i32 ((c.toNat:Nat):Int)) 15))]<|dL ((3,(l3 .i32 (IntKind.wrap .i32 ((c.toNat:Nat):Int)) 15)):Int×Int) sk h
    refine aG 29 (zZ c57)<|ar 11<|gU [(0,.string s),(4,vs R outN outC),(5,vi i),(7,.int .i32 (IntKind.wrap .i32 ((c.toNat:Nat):Int))),(38,.bool ((decide ((IntKind.wrap .i32 ((c.toNat:Nat):Int))>=240)) && (decide ((IntKind.wrap .i32 ((c.toNat:Nat):Int))<245))))] ?_ ?_
    ·refine aE<|jn h (λc61 h=>?_) (λc61 h=>?_)
     ·exact aH 38 c61<|k4 12<|nx 4 [(0,.string s),(4,vs R outN outC),(5,vi i),(6,vi 4),(7,.int .i32 (l3 .i32 (IntKind.wrap .i32 ((c.toNat:Nat):Int)) 7))]<|dL ((4,(l3 .i32 (IntKind.wrap .i32 ((c.toNat:Nat):Int)) 7)):Int×Int) sk h
     exact aG 38 (zZ c61)<|ar 5<|hH 2 [2,3] [VN,VF] hQ h
    refine λhk=>nb 3 [(0,.string s),(4,vs R outN outC),(5,vi i),(7,.int .i32 (IntKind.wrap .i32 ((c.toNat:Nat):Int))),(41,.bool (decide ((IntKind.wrap .i32 ((c.toNat:Nat):Int))>=240)))] ?_;by_cases c59:(IntKind.wrap .i32 ((c.toNat:Nat):Int))>=240
    ·have b60:(decide ((IntKind.wrap .i32 ((c.toNat:Nat):Int))>=240))=true:=zX c59;exact bW [(0,.string s),(4,vs R outN outC),(5,vi i),(7,.int .i32 (IntKind.wrap .i32 ((c.toNat:Nat):Int))),(41,VT)] (by rw[b60])<|fd 4 [41] [(38,.bool (decide ((IntKind.wrap .i32 ((c.toNat:Nat):Int))<245)))]<|zq<|n7 38 (b:=(decide ((IntKind.wrap .i32 ((c.toNat:Nat):Int))<245))) (v:=((decide ((IntKind.wrap .i32 ((c.toNat:Nat):Int))>=240)) && (decide ((IntKind.wrap .i32 ((c.toNat:Nat):Int))<245)))) (by simp only[b60,BL])<|hk
    have b60:(decide ((IntKind.wrap .i32 ((c.toNat:Nat):Int))>=240))=false:=zQ c59;exact bW [(0,.string s),(4,vs R outN outC),(5,vi i),(7,.int .i32 (IntKind.wrap .i32 ((c.toNat:Nat):Int))),(41,VF)] (by rw[b60])<|fd 4 [41] [(38,VF)]<|zq<|n7 38 (b:=false) (v:=((decide ((IntKind.wrap .i32 ((c.toNat:Nat):Int))>=240)) && (decide ((IntKind.wrap .i32 ((c.toNat:Nat):Int))<245)))) (by simp only[b60,BL])<|hk
   refine λhk=>nb 3 [(0,.string s),(4,vs R outN outC),(5,vi i),(7,.int .i32 (IntKind.wrap .i32 ((c.toNat:Nat):Int))),(32,.bool (decide ((IntKind.wrap .i32 ((c.toNat:Nat):Int))>=224)))] ?_;by_cases c55:(IntKind.wrap .i32 ((c.toNat:Nat):Int))>=224
   ·have b56:(decide ((IntKind.wrap .i32 ((c.toNat:Nat):Int))>=224))=true:=zX c55;exact bW [(0,.string s),(4,vs R outN outC),(5,vi i),(7,.int .i32 (IntKind.wrap .i32 ((c.toNat:Nat):Int))),(32,VT)] (by rw[b56])<|fd 4 [32] [(29,.bool (decide ((IntKind.wrap .i32 ((c.toNat:Nat):Int))<240)))]<|zq<|n7 29 (b:=(decide ((IntKind.wrap .i32 ((c.toNat:Nat):Int))<240))) (v:=((decide ((IntKind.wrap .i32 ((c.toNat:Nat):Int))>=224)) && (decide ((IntKind.wrap .i32 ((c.toNat:Nat):Int))<240)))) (by simp only[b56,BL])<|hk
   have b56:(decide ((IntKind.wrap .i32 ((c.toNat:Nat):Int))>=224))=false:=zQ c55;exact bW [(0,.string s),(4,vs R outN outC),(5,vi i),(7,.int .i32 (IntKind.wrap .i32 ((c.toNat:Nat):Int))),(32,VF)] (by rw[b56])<|fd 4 [32] [(29,VF)]<|zq<|n7 29 (b:=false) (v:=((decide ((IntKind.wrap .i32 ((c.toNat:Nat):Int))>=224)) && (decide ((IntKind.wrap .i32 ((c.toNat:Nat):Int))<240)))) (by simp only[b56,BL])<|hk
  refine λhk=>nb 3 [(0,.string s),(4,vs R outN outC),(5,vi i),(7,.int .i32 (IntKind.wrap .i32 ((c.toNat:Nat):Int))),(23,.bool (decide ((IntKind.wrap .i32 ((c.toNat:Nat):Int))>=194)))] ?_;by_cases c51:(IntKind.wrap .i32 ((c.toNat:Nat):Int))>=194
  ·have b52:(decide ((IntKind.wrap .i32 ((c.toNat:Nat):Int))>=194))=true:=zX c51;exact bW [(0,.string s),(4,vs R outN outC),(5,vi i),(7,.int .i32 (IntKind.wrap .i32 ((c.toNat:Nat):Int))),(23,VT)] (by rw[b52])<|fd 4 [23] [(20,.bool (decide ((IntKind.wrap .i32 ((c.toNat:Nat):Int))<224)))]<|zq<|n7 20 (b:=(decide ((IntKind.wrap .i32 ((c.toNat:Nat):Int))<224))) (v:=((decide ((IntKind.wrap .i32 ((c.toNat:Nat):Int))>=194)) && (decide ((IntKind.wrap .i32 ((c.toNat:Nat):Int))<224)))) (by simp only[b52,BL])<|hk
  have b52:(decide ((IntKind.wrap .i32 ((c.toNat:Nat):Int))>=194))=false:=zQ c51;exact bW [(0,.string s),(4,vs R outN outC),(5,vi i),(7,.int .i32 (IntKind.wrap .i32 ((c.toNat:Nat):Int))),(23,VF)] (by rw[b52])<|fd 4 [23] [(20,VF)]<|zq<|n7 20 (b:=false) (v:=((decide ((IntKind.wrap .i32 ((c.toNat:Nat):Int))>=194)) && (decide ((IntKind.wrap .i32 ((c.toNat:Nat):Int))<224)))) (by simp only[b52,BL])<|hk
 exact aG 12 (zQ c4)<|zj 0<|aA<|aA<|aJ<|aE<|ar 25<|hH 3 [2,3] [vs R outN outC,VT] hQ h
end Go.Proofs.YtillhdiiglamhaaGreatDoor
namespace Go.Proofs.YtillhdiiglamhaaGreatDoor
open Go Go.Proofs.Tryz
open Int(toNat)
variable{H:zV}{a:zW}{b:zk}
namespace iB
def K0:=GC f30
def K2:=cb K0
def K4:=cb K2
def Bj:=cb K4
def BK:=ca Bj
def Bt:=cb Bj
def BF:=cb BK
def Bu:=ca BF
def BZ:=ca Bu
def Cc:=cb Bt
def Cg:=cb Cc
def CT:=cb Cg
def CL:=ca CT
def Cy:=cb CT
def CS:=cb CL
def Dx:=ca CS
def C8:=ca Dx
def DI:=ca Cy
def Dq:=cb DI
def DY:=ca Dq
def K64:=ca DY
def DZ:=cb K64
def DV:=cb DZ
def K71:=ca DV
def DB:=ca K71
def K75:=cb DB
def K77:=cb K75
end iB
def iB.pt(hv:zW)(g d o:Int):GJ:=λH R=>
 fY hv (
 R (.tuple #[vp none,vi 1]) H) (λf=>
 ∃x,hat H f=some (vp x)/\
 fY x (
 R (.tuple #[vp none,vi 1]) H) (λxA=>
 if(((((decide (g<0)) || (decide (g>=4))) || (decide (d<g))) || (decide (d>(zY (g+1))))) || (decide (o<0)))=true then(
 R (.tuple #[vp none,vi 1]) H)
 else
 ∃(b4:zW->Nat->Nat->zv) (m19:zW->Nat->Nat->Int->zV->Nat),b4 none 0 0 0 H/\ ∀e gensN gensC s54 H1,b4 e gensN gensC s54 H1->
 if s54< (zY (g+1))then(
 ∀b H2,b=H1.size->H2=H1.push (.cells #[vi s54] 3)->
 dY 1 3 8 [vi 0] e gensN gensC (some (ad b)) 1 H2 (λap be H3=>
 (b4 ap (gensN+1) be (zY (s54+1)) H3/\m19 ap (gensN+1) be (zY (s54+1)) H3<m19 e gensN gensC s54 H1)))
 else
 ∃bx,hat H1 f=some (vp bx)/\
 ∃bt,bx=some bt/\
 ∃b1,hat H1 bt=some (vp b1)/\
 ∃b0,b1=some b0/\
 ∃bc,hat H1 b0=some (vp bc)/\
 eP.C bc e gensN gensC H1 (λv H4=> ∃xB xN xC,v=vs xB xN xC/\
 ∃b2,hat H4 f=some (vp b2)/\
 ∃bu,b2=some bu/\
 ∃bw,hat H4 bu=some (vp bw)/\
 ∃bs,bw=some bs/\
 ∃bp,hat H4 bs=some (vp bp)/\
 gZ.C bp H4 (λcj H5=> ∃a6,cj=vi a6/\
 if(zY ((zY (a6-(zY (2*(xN:Int)))))-8))<o then(
 R (.tuple #[vp none,vi 2]) H5)
 else
 ∀a5 H6,a5=H5.size->H6=H5.push (.map #[] 0)->
 ∀bi H7,bi=H6.size->H7=H6.push (.map #[] 0)->
 ∀m H8,m=H7.size->H8=H7.push (.cells ([Vq f,vi d]++List.replicate 1024 (vi 0)++[.map (some a5),.map (some bi),VN,vi 0]:List Value).toArray 125)->
 ∃(bz:zv) (m48:Int->zV->Nat),bz 0 H8/\ ∀y H9,bz y H9->
 if y< (xN:Int)then(
 ∃aq,xB=some aq/\
 zw y xN/\
 ∃am,hat H9 (aq.add (toNat y*1))=some (vi am)/\
 zw am 1024/\
 (aF H9 (((ad m).add 2).add (toNat am*1)) 0 1)/\ ∀b6,b6=aL H9 (((ad m).add 2).add (toNat am*1)) [vi 1] 0->
 (bz (zY (y+1)) b6/\m48 (zY (y+1)) b6<m48 y H9))
 else
 ∃bh,hat H9 f=some (vp bh)/\
 ∃bk,bh=some bk/\
 ∃a9,hat H9 bk=some (vp a9)/\
 ∃bg,a9=some bg/\
 ∃av,hat H9 bg=some (vp av)/\
 ∀bo H11,bo=H9.size->H11=H9.push (.cells #[vi d] 3)->
 eP.C av (some (ad bo)) 1 1 H11 (λci ck=> ∃ao j r,ci=vs ao j r/\
 ∃(br:zv) (m65:Int->zV->Nat),br 0 ck/\ ∀p H13,br p H13->
 if p< (j:Int)then(
 ∃s,ao=some s/\
 zw p j/\
 ∃q,hat H13 (s.add (toNat p*1))=some (vi q)/\
 ∃bl,hat H13 f=some (vp bl)/\
 ∃bb,bl=some bb/\
 ∃bj,hat H13 bb=some (vp bj)/\
 ∃a7,bj=some a7/\
 ∃a0,hat H13 a7=some (vp a0)/\
 bX.C a0 q H13 (λcg cd=> ∃an aj a2 ab ae af ac rb,cg=.tuple #[.agg #[vi an,vi aj,vi a2,vi ab,vi ae,vi af,vi ac],.bool rb]/\
 ∀aa H15,aa=cd.size->H15=cd.push (.cells GL 127)->
 (aF H15 (ad aa) 0 7)/\ ∀ay,ay=aL H15 (ad aa) [vi an,vi aj,vi a2,vi ab,vi ae,vi af,vi ac] 0->
 ∃ah,hat ay ((ad m).add 1026)=some (.map ah)/\
 ∃ai,hat ay ((ad m).add 1027)=some (.map ai)/\
 ∃ak,hat ay ((ad aa).add 2)=some (vi ak)/\
 ∃ag,hat ay ((ad aa).add 2)=some (vi ag)/\
 ∃mr,ah=some mr/\
 ∃es cl ks,ay[mr]?=some (.map es cl)/\p8 (fB .i64) es.toList ks/\Born es cl/\
 ∀a3 cl_2 stamp x_21 H17,H17=bR ay mr (.map a3 cl_2)->p8 (fB .i64) a3.toList (vg ks q x_21)->Born a3 cl_2->lJ a3 (vi q) stamp->
 aI H17 ((ad aa).add 2) 0 [vi ak]/\aI H17 ((ad aa).add 2) 0 [vi ag]/\ ∃bn cl_3 ks_2 k,H17[mr]?=some (.map bn cl_3)/\p8 (fB .i64) bn.toList ks_2/\Born bn cl_3/\lJ bn (vi k) stamp/\
 ∀ba H18,H18=bR H17 mr (.map ba cl_3)->p8 (fB .i64) ba.toList (vg ks_2 k (vi ak))->Born ba cl_3->
 aI H18 ((ad aa).add 2) 0 [vi ag]/\ ∃al,ai=some al/\
 ∃bq cl_4 ks_3,H18[al]?=some (.map bq cl_4)/\p8 (fB .i64) bq.toList ks_3/\Born bq cl_4/\
 ∀a4 cl_5 stamp_2 x_22 H19,H19=bR H18 al (.map a4 cl_5)->p8 (fB .i64) a4.toList (vg ks_3 q x_22)->Born a4 cl_5->lJ a4 (vi q) stamp_2->
 aI H19 ((ad aa).add 2) 0 [vi ag]/\ ∃bd cl_6 ks_4 k_2,H19[al]?=some (.map bd cl_6)/\p8 (fB .i64) bd.toList ks_4/\Born bd cl_6/\lJ bd (vi k_2) stamp_2/\
 ∀a8 H20,H20=bR H19 al (.map a8 cl_6)->p8 (fB .i64) a8.toList (vg ks_4 k_2 (vi ag))->Born a8 cl_6->
 (br (zY (p+1)) H20/\m65 (zY (p+1)) H20<m65 p H13)))
 else
 ∃bf,hat H13 f=some (vp bf)/\
 ∃bm,bf=some bm/\
 ∃az,hat H13 bm=some (vp az)/\
 eW.C az e gensN gensC H13 (λ_ ce=>
 ∃a1,hat ce f=some (vp a1)/\
 fm.C a1 g ce (λch cc=> ∃au ax aw,ch=vs au ax aw/\
 (aF cc ((ad m).add 1028) 0 1)/\ ∀b8,b8=aL cc ((ad m).add 1028) [vs au ax aw] 0->
 R (.tuple #[Vq (ad m),vi 0]) b8)))))))
theorem iB.link{g d o:Int}(h:pt a g d o H b):C a g d o H b:=by
 refine l2 K0 181 func30 ?_;intro w0 Q hQ;unfold pt zY at h;refine ki [(0,vp a),(1,vi g),(2,vi d),(3,vi o)]<|ar 0<|gi 2 [] []<|gv<|ar 1<|fd 1 [] [(20,vp a)] ?_;rcases a with _ | f
 ·rw[Ev]at h;exact gi 31 [0,20] [(0,vp none),(51,VT)]<|l7 51<|ar 2<|hH 2 [8,9] [vp none,vi 1] hQ h
 rw[El]at h;refine fd 5 [0,20] [(0,Vq f),(22,VF),(25,Vq f)]<|have⟨x,q1,h⟩:=h;hV 26 50 q1 [25] ?_;rcases x with _ | xA
 ·rw[Ev]at h;exact gi 25 [22,26] [(51,VT)]<|l7 51<|ar 2<|hH 2 [8,9] [vp none,vi 1] hQ h
 rw[El]at h;refine fd 7 [22,26] [(33,.bool (decide (g<0)))]<|gU [(0,Vq f),(1,vi g),(2,vi d),(3,vi o),(51,.bool (((((decide (g<0)) || (decide (g>=4))) || (decide (d<g))) || (decide (d>(zY (g+1))))) || (decide (o<0))))] ?_ ?_
 ·refine aE<|jn h (λc10 h=>?_) (λc10 h=>?_)
  ·exact aH 51 c10<|ar 2<|hH 2 [8,9] [vp none,vi 1] hQ h
  refine aG 51 (zZ c10)<|kT<|ar 3<|nx 1 [(0,Vq f),(1,vi g),(2,vi d),(3,vi o),(10,VN)]<|gv<|ar 4<|gi 3 [] [(53,vi (zY (g+1))),(54,vi 0)]<|k5 0<|have⟨b4,m19,i12,i13⟩:=h;bI (x:=BZ) (σ:=zW×Nat×Nat×Int) (λs_=> [(0,Vq f),(1,vi g),(2,vi d),(3,vi o),(10,vs s_.1 s_.2.1 s_.2.2.1),(53,vi (zY (g+1))),(54,vi s_.2.2.2)]) (λs_ H=>b4 s_.1 s_.2.1 s_.2.2.1 s_.2.2.2 H) (λs_ H=>m19 s_.1 s_.2.1 s_.2.2.1 s_.2.2.2 H) ((none,0,0,0):zW×Nat×Nat×Int) GE i12 sk ?_;rintro⟨e,gensN,gensC,s54⟩ H1 i14;have h:=i13 e gensN gensC s54 H1 i14;refine ki [(0,Vq f),(1,vi g),(2,vi d),(3,vi o),(10,vs e gensN gensC),(53,vi (zY (g+1))),(54,vi s54)]<|ar 5<|gi 1 [] [(55,.bool (decide (s54< (zY (g+1)))))]<|gv<|jn h (λc15 h=>?_) (λc15 h=>?_)
  ·refine aH 55 (zX c15)<|kT<|gv<|k5 1<|ar 6<|gi 2 [55] [(11,vi s54)]<|k4 7<|fd 2 [10,11] [(57,vs e gensN gensC),(58,vi s54)]<|l1 (some 59) (λhv=>vs (pa hv) 1 1) (.cells #[vi s54] 3) ?_;intro hv H2 e17 e18;replace h:=h hv H2 e17 e18;refine im [58] [(59,vs (pa hv) 1 1)]<|xl (some 60) (eM #[28,28] 28 #[vs e gensN gensC,vs (pa hv) 1 1]) _ Et (cT (T:=3) (sz:=1) (bytes:=8) (zero:=(vi 0:Value)) EW EW rfl (show prog.info? 3=some t3 from GE) GE GE GG GE (by first | exact h | (simpa only[Value.cells,EI]using h))) ?_;clear h;rintro _ H3 ⟨ap,be,rfl,h⟩;exact im [57,59] [(60,vs ap (gensN+1) be)]<|fd 1 [60] [(10,vs ap (gensN+1) be)]<|zq<|aD<|aE<|k4 8<|gi 2 [54] [(54,vi (zY (s54+1)))]<|aQ ((ap,(gensN+1),be,(zY (s54+1))):zW×Nat×Nat×Int) sk h
  refine aG 55 (zQ c15)<|zj 0<|aA<|aA<|aJ<|aE<|ar 9<|fd 3 [53,54,55] [(64,Vq f)]<|have⟨bx,q19,h⟩:=h;hV 65 50 q19 [64] ?_;obtain⟨bt,rfl,ha⟩:=h;refine fd 2 [65] [(67,Vq bt)]<|have⟨b1,q20,h⟩:=ha;hV 68 79 q20 [67] ?_;obtain⟨b0,rfl,hb⟩:=h;refine fd 2 [68] [(70,Vq b0)]<|have⟨bc,q21,h⟩:=hb;hV 71 115 q21 [70]<|fd 1 [] [(72,vs e gensN gensC)]<|BO 73 [71,72] h λxB xN xC H4 h=>gi 1 [73] [(12,vs xB xN xC)]<|gv<|ar 10<|fd 3 [] [(76,Vq f)]<|have⟨b2,q22,h⟩:=h;hV 77 50 q22 [76] ?_;obtain⟨bu,rfl,hc⟩:=h;refine fd 2 [77] [(79,Vq bu)]<|have⟨bw,q23,h⟩:=hc;hV 80 79 q23 [79] ?_;obtain⟨bs,rfl,hd⟩:=h;refine fd 2 [80] [(82,Vq bs)]<|have⟨bp,q24,h⟩:=hd;hV 83 115 q24 [82]<|l5 84 [83] h λa6 H5 h=>gi 7 [3,84] [(91,.bool (decide ((zY ((zY (a6-(zY (2*(xN:Int)))))-8))<o)))]<|jn h (λc25 h=>?_) (λc25 h=>?_)
  ·exact aH 91 (zX c25)<|ar 11<|hH 2 [8,9] [vp none,vi 2] hQ h
  refine aG 91 (zQ c25)<|kT<|ar 12<|fd 2 [91] [(92,Vq f),(93,vi d)]<|l1 (some 94) (λhv=> .map (some hv)) (.map #[] 0)<|λa5 H6 e27 e28=>have h:=h a5 H6 e27 e28;im [] [(94,.map (some a5))]<|l1 (some 95) (λhv=> .map (some hv)) (.map #[] 0)<|λbi H7 e29 e30=>have h:=h bi H7 e29 e30;im [] [(95,.map (some bi))]<|fd 1 [92,93,94,95] [(96,.agg ([Vq f,vi d]++List.replicate 1024 (vi 0)++[.map (some a5),.map (some bi),VN,vi 0]:List Value).toArray)]<|l1 (some 97) (λhv=>vp (pa hv)) (.cells ([Vq f,vi d]++List.replicate 1024 (vi 0)++[.map (some a5),.map (some bi),VN,vi 0]:List Value).toArray 125)<|λm H8 e31 e32=>have h:=h m H8 e31 e32;im [96] [(97,vp (pa m))]<|gi 1 [97] [(13,vp (pa m))]<|gv<|ar 13<|gi 3 [12] [(98,vs xB xN xC),(99,vi xN),(100,vi 0)]<|k5 2<|have⟨bz,m48,i33,i34⟩:=h;bI (x:=C8) (σ:=Int) (λs_=> [(0,Vq f),(1,vi g),(2,vi d),(10,vs e gensN gensC),(13,vp (pa m)),(98,vs xB xN xC),(99,vi xN),(100,vi s_)]) (λs_ H=>bz s_ H) (λs_ H=>m48 s_ H) (0:Int) GE i33 sk ?_;rintro y H9 i35;have h:=i34 y H9 i35;refine ki [(0,Vq f),(1,vi g),(2,vi d),(10,vs e gensN gensC),(13,vp (pa m)),(98,vs xB xN xC),(99,vi xN),(100,vi y)]<|ar 14<|gi 1 [] [(101,.bool (decide (y< (xN:Int))))]<|gv<|jn h (λc36 h=>?_) (λc36 h=>?_)
  ·refine aH 101 (zX c36)<|kT<|gv<|k5 3<|ar 15<|p0 [101] [] ?_;obtain⟨aq,rfl,q38,he⟩:=h;exact ww (some 102) 28 3 1 aq xN xC .i64 y EW q38.1 q38.2 [98] [(98,vs (some aq) xN xC),(102,Vq (aq.add (toNat y*1)))]<|have⟨am,q39,h⟩:=he;hV 103 3 q39 [102]<|gi 1 [103] [(15,vi am)]<|k4 16<|fd 4 [15] [(105,vi am),(107,Vq ((ad m).add 2))]<|have⟨q40,h⟩:=h;wd 108 (bJ 122 (Vq ((ad m).add 2)) (vi am)) (Vq (((ad m).add 2).add (toNat am*1))) (λw _=>cG (P:=prog) (t:=122) (elem:=3) (sz:=1) (n:=1024) (a:=((ad m).add 2)) (k:=.i64) (i:=am) Gi Et q40.1 q40.2 w) [105,107]<|have⟨q42,h⟩:=h;fj 3 (vi 1) q42<|λb6 e41=>have h:=h b6 e41;im [108] []<|zq<|aD<|aE<|k4 17<|gi 2 [100] [(100,vi (zY (y+1)))]<|aQ ((zY (y+1)):Int) sk h
  refine aG 101 (zQ c36)<|zj 2<|aA<|aA<|aJ<|aE<|gv<|ar 18<|fd 3 [98,99,100,101] [(112,Vq f)]<|have⟨bh,q43,h⟩:=h;hV 113 50 q43 [112] ?_;obtain⟨bk,rfl,hf⟩:=h;refine fd 2 [113] [(115,Vq bk)]<|have⟨a9,q44,h⟩:=hf;hV 116 79 q44 [115] ?_;obtain⟨bg,rfl,hg⟩:=h;refine fd 2 [116] [(118,Vq bg)]<|have⟨av,q45,h⟩:=hg;hV 119 115 q45 [118]<|fd 1 [2] [(120,vi d)]<|l1 (some 121) (λhv=>vs (pa hv) 1 1) (.cells #[vi d] 3)<|λbo H11 e46 e47=>have h:=h bo H11 e46 e47;im [120] [(121,vs (pa bo) 1 1)]<|BO 122 [119,121] h λao j r ck h=>gi 2 [] [(123,vi j),(124,vi 0)]<|k5 4<|have⟨br,m65,i48,i49⟩:=h;bI (x:=K64) (σ:=Int) (λs_=> [(0,Vq f),(1,vi g),(10,vs e gensN gensC),(13,vp (pa m)),(122,vs ao j r),(123,vi j),(124,vi s_)]) (λs_ H=>br s_ H) (λs_ H=>m65 s_ H) (0:Int) GE i48 sk ?_;rintro p H13 i50;have h:=i49 p H13 i50;refine ki [(0,Vq f),(1,vi g),(10,vs e gensN gensC),(13,vp (pa m)),(122,vs ao j r),(123,vi j),(124,vi p)]<|ar 19<|gi 1 [] [(125,.bool (decide (p< (j:Int))))]<|gv<|jn h (λc51 h=>?_) (λc51 h=>?_)
  ·refine aH 125 (zX c51)<|kT<|gv<|k5 5<|ar 20<|p0 [125] [] ?_;obtain⟨s,rfl,q53,hh⟩:=h;refine ww (some 126) 28 3 1 s j r .i64 p EW q53.1 q53.2 [122] [(122,vs (some s) j r),(126,Vq (s.add (toNat p*1)))]<|have⟨q,q54,h⟩:=hh;hV 127 3 q54 [126]<|gi 1 [127] [(17,vi q)]<|ar 21<|fd 3 [] [(131,Vq f)]<|have⟨bl,q55,h⟩:=h;hV 132 50 q55 [131] ?_;obtain⟨bb,rfl,hi⟩:=h;refine fd 2 [132] [(134,Vq bb)]<|have⟨bj,q56,h⟩:=hi;hV 135 79 q56 [134] ?_;obtain⟨a7,rfl,hj⟩:=h;refine fd 2 [135] [(137,Vq a7)]<|have⟨a0,q57,h⟩:=hj;hV 138 115 q57 [137]<|fd 1 [] [(139,vi q)]<|B7 140 [138,139] h λan aj a2 ab ae af ac rb cd h=>fd 3 [140] [(141,.agg #[vi an,vi aj,vi a2,vi ab,vi ae,vi af,vi ac]),(142,.bool rb)]<|l1 (some 18) (λhv=>vp (pa hv)) (.cells GL 127)<|λaa H15 e58 e59=>have h:=h aa H15 e58 e59;im [] [(18,vp (pa aa))]<|have⟨q61,h⟩:=h;bF 127 [vi an,vi aj,vi a2,vi ab,vi ae,vi af,vi ac] q61<|λay e60=>have h:=h ay e60;im [141] []<|gi 1 [142] []<|have⟨ah,q62,ai,q63,ak,q64,ag,q65,h⟩:=h;yY 22 (Code.ops K77) [(14,((ad m).add 1026),[.map ah]),(14,((ad m).add 1027),[.map ai]),(16,((ad aa).add 2),[vi ak]),(19,((ad aa).add 2),[vi ag])] 20 (bv 20 0) (show aP _ _ _ from⟨⟨q62,GB⟩,⟨q63,GB⟩,⟨q64,GB⟩,⟨q65,GB⟩,GB⟩)<|Bp 0 (some 143) (vp (pa m)) (bv 20 1) [(0,Vq f),(1,vi g),(10,vs e gensN gensC),(13,vp (pa m)),(17,vi q),(18,vp (pa aa)),(122,vs (some s) j r),(123,vi j),(124,vi p),(143,vp (pa m))]<|aM 1 144 (vp (pa m)) (bv 20 3) [143]<|aM 2 145 (Vq ((ad m).add 1026)) (bv 20 7) [144]<|lb 3 146 (.map ah) (bv 20 15) [145] (aZ 121 (Vq ((ad m).add 1026))) (yW 14 yZ)<|aM 4 147 (vi q) (bv 20 31) []<|aM 5 148 (vp (pa m)) (bv 20 63) []<|aM 6 149 (vp (pa m)) (bv 20 127) [148]<|aM 7 150 (Vq ((ad m).add 1027)) (bv 20 255) [149]<|lb 8 151 (.map ai) (bv 20 511) [150] (aZ 121 (Vq ((ad m).add 1027))) (yW 14 yX)<|aM 9 152 (vi q) (bv 20 1023) [17]<|aM 10 153 (Vq ((ad aa).add 2)) (bv 20 2047) []<|lb 11 154 (vi ak) (bv 20 4095) [153] (aZ 3 (Vq ((ad aa).add 2))) (yW 16 yQ)<|aM 12 155 (Vq ((ad aa).add 2)) (bv 20 8191) [18]<|lb 13 156 (vi ag) (bv 20 16383) [155] (aZ 3 (Vq ((ad aa).add 2))) (yW 19 yJ) ?_;obtain⟨mr,rfl,es,cl,ks,q68,q69,q73,hl⟩:=h;refine uY 14 (some 157) (bv 20 32767) (n8 121 (.map (some mr)) (vi q)) (λu Hz=> ∃es2 cl2 sp v0,Hz=bR ay mr (.map es2 cl2)/\p8 (fB .i64) es2.toList (vg ks q v0)/\Born es2 cl2/\lJ es2 (vi q) sp/\u=.tuple #[v0,vi sp]) GE Et (qd (kk:=(fB .i64)) (z:=vi 0) Gj Fx Et q68 q69 q73) GE ?_;rintro _ H17 ⟨a3,cl_2,stamp,x_21,e71,e72,e74,e75,rfl⟩;refine have h:=hl a3 cl_2 stamp x_21 H17 e71 e72 e74 e75;have⟨f66,f67,h⟩:=h;⟨[(0,Vq f),(1,vi g),(10,vs e gensN gensC),(13,vp (pa m)),(122,vs (some s) j r),(123,vi j),(124,vi p),(146,.map (some mr)),(151,.map ai),(152,vi q),(154,vi ak),(156,vi ag),(157,.tuple #[x_21,vi stamp])],pk,(show aP _ _ _ from⟨GB,GB,f66,f67,GB⟩),?_⟩;refine BS 15 (some 158) (vi stamp) (bv 20 65535) [(0,Vq f),(1,vi g),(10,vs e gensN gensC),(13,vp (pa m)),(122,vs (some s) j r),(123,vi j),(124,vi p),(146,.map (some mr)),(151,.map ai),(152,vi q),(154,vi ak),(156,vi ag),(158,vi stamp)] (pure (.value (vi stamp)):Sem Next) (λ_ _ _ _ _=>rfl)<|have⟨bn,cl_3,ks_2,k,q77,q78,q79,q80,h⟩:=h;gR 16 none (bv 20 131071) (pP 121 (.map (some mr)) (vi stamp) (vi ak)) (λHz=> ∃es2,Hz=bR H17 mr (.map es2 cl_3)/\p8 (fB .i64) es2.toList (vg ks_2 k (vi ak))/\Born es2 cl_3) GE Et (qe (kk:=(fB .i64)) q77 q78 q79 q80) GE ?_;rintro H18 ⟨ba,e81,e82,e83⟩;refine have h:=h ba H18 e81 e82 e83;have⟨f76,h⟩:=h;⟨[(0,Vq f),(1,vi g),(10,vs e gensN gensC),(13,vp (pa m)),(122,vs (some s) j r),(123,vi j),(124,vi p),(151,.map ai),(152,vi q),(156,vi ag)],pk,(show aP _ _ _ from⟨GB,GB,GB,f76,GB⟩),?_⟩;obtain⟨al,rfl,bq,cl_4,ks_3,q85,q86,q90,hm⟩:=h;refine uY 17 (some 159) (bv 20 262143) (n8 121 (.map (some al)) (vi q)) (λu Hz=> ∃es2 cl2 sp v0,Hz=bR H18 al (.map es2 cl2)/\p8 (fB .i64) es2.toList (vg ks_3 q v0)/\Born es2 cl2/\lJ es2 (vi q) sp/\u=.tuple #[v0,vi sp]) GE Et (qd (kk:=(fB .i64)) (z:=vi 0) Gj Fx Et q85 q86 q90) GE ?_;rintro _ H19 ⟨a4,cl_5,stamp_2,x_22,e88,e89,e91,e92,rfl⟩;refine have h:=hm a4 cl_5 stamp_2 x_22 H19 e88 e89 e91 e92;have⟨f84,h⟩:=h;⟨[(0,Vq f),(1,vi g),(10,vs e gensN gensC),(13,vp (pa m)),(122,vs (some s) j r),(123,vi j),(124,vi p),(151,.map (some al)),(156,vi ag),(159,.tuple #[x_22,vi stamp_2])],pk,(show aP _ _ _ from⟨GB,GB,GB,f84,GB⟩),?_⟩;refine BS 18 (some 160) (vi stamp_2) (bv 20 524287) [(0,Vq f),(1,vi g),(10,vs e gensN gensC),(13,vp (pa m)),(122,vs (some s) j r),(123,vi j),(124,vi p),(151,.map (some al)),(156,vi ag),(160,vi stamp_2)] (pure (.value (vi stamp_2)):Sem Next) (λ_ _ _ _ _=>rfl)<|have⟨bd,cl_6,ks_4,k_2,q93,q94,q95,q96,h⟩:=h;gR 19 none (bv 20 1048575) (pP 121 (.map (some al)) (vi stamp_2) (vi ag)) (λHz=> ∃es2,Hz=bR H19 al (.map es2 cl_6)/\p8 (fB .i64) es2.toList (vg ks_4 k_2 (vi ag))/\Born es2 cl_6) GE Et (qe (kk:=(fB .i64)) q93 q94 q95 q96) GE ?_;rintro H20 ⟨a8,e97,e98,e99⟩;refine have h:=h a8 H20 e97 e98 e99;⟨[(0,Vq f),(1,vi g),(10,vs e gensN gensC),(13,vp (pa m)),(122,vs (some s) j r),(123,vi j),(124,vi p)],pk,(show aP _ _ _ from⟨GB,GB,GB,GB,GB⟩),?_⟩;exact gm [(0,Vq f),(1,vi g),(10,vs e gensN gensC),(13,vp (pa m)),(122,vs (some s) j r),(123,vi j),(124,vi p)] sk<|yx<|aD<|aE<|k4 23<|nx 2 [(0,Vq f),(1,vi g),(10,vs e gensN gensC),(13,vp (pa m)),(122,vs (some s) j r),(123,vi j),(124,vi (zY (p+1)))]<|aQ ((zY (p+1)):Int) sk h
  refine aG 125 (zQ c51)<|zj 4<|aA<|aA<|aJ<|aE<|ar 24<|fd 3 [122,123,124,125] [(164,Vq f)]<|have⟨bf,q100,h⟩:=h;hV 165 50 q100 [164] ?_;obtain⟨bm,rfl,hn⟩:=h;refine fd 2 [165] [(167,Vq bm)] ?_;obtain⟨az,q101,h⟩:=hn;refine hV 168 79 q101 [167]<|fd 1 [10] [(169,vs e gensN gensC)]<|Bs (some 170) h ?_;clear h;exact λv_5 ce h=>im [168,169] []<|ue<|ar 25<|fd 4 [0] [(171,vp (pa m)),(174,Vq f)]<|have⟨a1,q102,h⟩:=h;hV 175 50 q102 [174]<|fd 1 [1] [(176,vi g)]<|BO 177 [175,176] h λau ax aw cc h=>fd 2 [171] [(179,Vq ((ad m).add 1028))]<|have⟨q104,h⟩:=h;fj 123 (vs au ax aw) q104<|λb8 e103=>have h:=h b8 e103;im [177,179] []<|ue<|ar 26<|hH 3 [8,9] [vp (pa m),vi 0] hQ h
 refine λhk=>BM [(0,Vq f),(1,vi g),(2,vi d),(3,vi o),(33,.bool (decide (g<0)))] ?_;by_cases c2:g<0
 ·have b3:(decide (g<0))=true:=zX c2;exact bW [(0,Vq f),(1,vi g),(2,vi d),(3,vi o),(33,VT)] (by rw[b3])<|fd 18 [33] [(51,VT)]<|zq<|n7 51 (b:=true) (v:=(((((decide (g<0)) || (decide (g>=4))) || (decide (d<g))) || (decide (d>(zY (g+1))))) || (decide (o<0)))) (by simp only[b3,BL])<|hk
 have b3:(decide (g<0))=false:=zQ c2;refine bW [(0,Vq f),(1,vi g),(2,vi d),(3,vi o),(33,VF)] (by rw[b3])<|fd 4 [33] [(37,.bool (decide (g>=4)))] ?_;by_cases c4:g>=4
 ·have b5:(decide (g>=4))=true:=zX c4;exact kc 37 b5<|fd 14 [37] [(51,VT)]<|zq<|n7 51 (b:=true) (v:=(((((decide (g<0)) || (decide (g>=4))) || (decide (d<g))) || (decide (d>(zY (g+1))))) || (decide (o<0)))) (by simp only[b3,b5,BL])<|hk
 have b5:(decide (g>=4))=false:=zQ c4;refine kc 37 b5<|fd 5 [37] [(42,.bool (decide (d<g)))] ?_;by_cases c6:d<g
 ·have b7:(decide (d<g))=true:=zX c6;exact kc 42 b7<|fd 9 [42] [(51,VT)]<|zq<|n7 51 (b:=true) (v:=(((((decide (g<0)) || (decide (g>=4))) || (decide (d<g))) || (decide (d>(zY (g+1))))) || (decide (o<0)))) (by simp only[b3,b5,b7,BL])<|hk
 have b7:(decide (d<g))=false:=zQ c6;refine kc 42 b7<|fd 6 [42] [(48,.bool (decide (d>(zY (g+1)))))] ?_;by_cases c8:d>(zY (g+1))
 ·have b9:(decide (d>(zY (g+1))))=true:=zX c8;exact kc 48 b9<|fd 3 [48] [(51,VT)]<|zq<|n7 51 (b:=true) (v:=(((((decide (g<0)) || (decide (g>=4))) || (decide (d<g))) || (decide (d>(zY (g+1))))) || (decide (o<0)))) (by simp only[b3,b5,b7,b9,BL])<|hk
 have b9:(decide (d>(zY (g+1))))=false:=zQ c8;exact kc 48 b9<|fd 3 [48] [(51,.bool (decide (o<0)))]<|zq<|n7 51 (b:=(decide (o<0))) (v:=(((((decide (g<0)) || (decide (g>=4))) || (decide (d<g))) || (decide (d>(zY (g+1))))) || (decide (o<0)))) (by simp only[b3,b5,b7,b9,BL])<|hk
namespace eI
def K0:=GC f32
def K2:=cb K0
def K7:=ca K2
def K8:=cb K2
def BE:=cb K7
def Cq:=ca BE
def Bj:=ca Cq
def CJ:=ca K8
def Cc:=cb CJ
def Cx:=ca Cc
def Cg:=ca Cx
def CG:=cb Cg
def C3:=cb CG
def C6:=ca C3
def CL:=ca C6
def Dl:=cb CL
end eI
def eI.pt(tv:zW):GJ:=λH R=>
 cK.C tv H (λv H1=> ∃x,v=.bool x/\
 if x=true then(
 R (.tuple #[]) H1)
 else
 ∃d,tv=some d/\
 ∃g:List Value,g.length=1024/\aI H1 (d.add 2) 0 g/\
 ∃(ae:zv) (m13:Int->zV->Nat),ae 0 H1/\ ∀e H2,ae e H2->
 if e<1024 then(
 ∃s,((0<=e/\e< (1024:Int))/\((g:List Value).toArray)[toNat e]?=some (vi s))/\
 if s=1 then(
 ∃af,hat H2 d=some (vp af)/\
 ∃ac,af=some ac/\
 ∃ab,hat H2 ac=some (vp ab)/\
 ∃aa,ab=some aa/\
 ∃z,hat H2 aa=some (vp z)/\
 fo.C z e H2 (λaj H3=> ∃al,aj=vi al/\
 (ae (zY (e+1)) H3/\m13 (zY (e+1)) H3<m13 e H2)))
 else
 (ae (zY (e+1)) H2/\m13 (zY (e+1)) H2<m13 e H2))
 else
 ∃xB xN xC,hat H2 (d.add 1028)=some (vs xB xN xC)/\
 ∃(ag:zv) (m34:Int->zV->Nat),ag 0 H2/\ ∀f H4,ag f H4->
 if f< (xN:Int)then(
 ∃j,xB=some j/\
 zw f xN/\
 ∃q m,aI H4 (j.add (toNat f*2)) 0 [vi q,vi m]/\
 ∀b H5,b=H4.size->H5=H4.push (.cells #[vi 0,vi 0] 134)->
 (aF H5 (ad b) 0 2)/\ ∀H6,H6=aL H5 (ad b) [vi q,vi m] 0->
 ∃ai,hat H6 d=some (vp ai)/\
 ∃o,ai=some o/\
 ∃r,hat H6 o=some (vp r)/\
 ∃p,hat H6 (ad b)=some (vi p)/\
 ∃u,hat H6 ((ad b).add 1)=some (vi u)/\
 fp.C r p u H6 (λak H7=> ∃ah,ak=vi ah/\
 (ag (zY (f+1)) H7/\m34 (zY (f+1)) H7<m34 f H4)))
 else
 ∃y,hat H4 d=some (vp y)/\
 gE.C y H4 (λ_ H8=>
 (aF H8 (d.add 1029) 0 1)/\ ∀H9,H9=aL H8 (d.add 1029) [vi 1] 0->
 R (.tuple #[]) H9))
theorem eI.link(h:pt a H b):C a H b:=by
 refine l2 K0 61 func32 ?_;intro w0 Q hQ;unfold pt zY at h;refine ki [(0,vp a)]<|gv<|ar 0<|fd 1 [] [(6,vp a)]<|l5 7 [6] h λx H1 h=>ue<|jn h (λc1 h=>?_) (λc1 h=>?_)
 ·exact aH 7 c1<|ix [] [] hQ h
 refine aG 7 (zZ c1)<|kT<|gv<|ar 1<|fd 1 [7] [(8,vp a)] ?_;obtain⟨d,rfl,ha⟩:=h;refine nb 2 [(0,Vq d),(10,Vq (d.add 2))] ?_;obtain⟨g,l4,q3,h⟩:=ha;refine wd 11 (aZ 122 (Vq (d.add 2))) (.agg (g).toArray) (jC (aR Et (λw=>by rw[l4];kernel_rfl) q3)) [10]<|gi 1 [] [(12,vi 0)]<|k5 0 ?_;refine have⟨ae,m13,i5,i6⟩:=h;bI (x:=Bj) (σ:=Int) (λs_=> [(0,Vq d),(11,.agg (g).toArray),(12,vi s_)]) (λs_ H=>ae s_ H) (λs_ H=>m13 s_ H) (0:Int) GE i5 sk ?_;rintro e H2 i7;have h:=i6 e H2 i7;refine ki [(0,Vq d),(11,.agg (g).toArray),(12,vi e)]<|ar 2<|gi 1 [] [(13,.bool (decide (e<1024)))]<|gv<|jn h (λc8 h=>?_) (λc8 h=>?_)
 ·refine aH 13 (zX c8)<|kT<|gv<|k5 1<|ar 3<|fd 1 [13] [(14,vi e)]<|have⟨s,q10,h⟩:=h;wd 15 (fD 122 (.agg (g).toArray) (vi e)) (vi s) (λw _=>kX (P:=prog) (t:=122) (elem:=3) (n:=1024) Gi Et Et q10.1.1 q10.1.2 q10.2 w) []<|gi 2 [14,15] [(2,vi e),(3,vi s)]<|ar 4<|gi 2 [3] [(17,.bool (s==1))]<|jn h (λc11 h=>?_) (λc11 h=>?_)
  ·refine aH 17 (zK c11)<|k4 5<|fd 3 [17] [(20,Vq d)]<|have⟨af,q13,h⟩:=h;hV 21 31 q13 [20] ?_;obtain⟨ac,rfl,hb⟩:=h;refine fd 2 [21] [(23,Vq ac)]<|have⟨ab,q14,h⟩:=hb;hV 24 50 q14 [23] ?_;obtain⟨aa,rfl,hc⟩:=h;refine fd 2 [24] [(26,Vq aa)] ?_;obtain⟨z,q15,h⟩:=hc;refine hV 27 79 q15 [26]<|fd 1 [2] [(28,vi e)]<|Bs (some 29) h ?_;clear h;rintro aj H3 ⟨al,rfl,h⟩;exact im [27,28] []<|zq<|aD<|aE<|k4 6<|gi 2 [12] [(12,vi (zY (e+1)))]<|aQ ((zY (e+1)):Int) sk h
  exact aG 17 (zJ c11)<|Bn<|aD<|aE<|k4 6<|gi 2 [2,12,17] [(12,vi (zY (e+1)))]<|aQ ((zY (e+1)):Int) sk h
 refine aG 13 (zQ c8)<|zj 0<|aA<|aA<|aJ<|aE<|gv<|ar 7<|fd 3 [11,12,13] [(33,Vq (d.add 1028))]<|have⟨xB,xN,xC,q16,h⟩:=h;hV 34 123 q16 [33]<|gi 2 [] [(35,vi xN),(36,vi 0)]<|k5 2<|have⟨ag,m34,i17,i18⟩:=h;bI (x:=Cg) (σ:=Int) (λs_=> [(0,Vq d),(34,vs xB xN xC),(35,vi xN),(36,vi s_)]) (λs_ H=>ag s_ H) (λs_ H=>m34 s_ H) (0:Int) GE i17 sk ?_;rintro f H4 i19;have h:=i18 f H4 i19;refine ki [(0,Vq d),(34,vs xB xN xC),(35,vi xN),(36,vi f)]<|ar 8<|gi 1 [] [(37,.bool (decide (f< (xN:Int))))]<|gv<|jn h (λc20 h=>?_) (λc20 h=>?_)
 ·refine aH 37 (zX c20)<|kT<|gv<|k5 3<|ar 9<|p0 [37] [] ?_;obtain⟨j,rfl,q22,hd⟩:=h;refine ww (some 38) 123 134 2 j xN xC .i64 f F8 q22.1 q22.2 [34] [(34,vs (some j) xN xC),(38,Vq (j.add (toNat f*2)))]<|have⟨q,m,q23,h⟩:=hd;na 39 134 q23 [38]<|l1 (some 5) (λR=>vp (pa R)) (.cells #[vi 0,vi 0] 134)<|λR H5 e24 e25=>have h:=h R H5 e24 e25;im [] [(5,vp (pa R))]<|have⟨q27,h⟩:=h;bF 134 [vi q,vi m] q27<|λH6 e26=>have h:=h H6 e26;im [39] []<|ue ?_;obtain⟨ai,q28,o,rfl,r,q29,p,q30,u,q31,he⟩:=h;refine yY 10 (Code.ops Dl) [(11,d,[Vq o]),(11,o,[vp r]),(11,(ad R),[vi p]),(11,((ad R).add 1),[vi u])] 12 (bv 12 0) (show aP _ _ _ from⟨⟨q28,GB⟩,⟨q29,GB⟩,⟨q30,GB⟩,⟨q31,GB⟩,GB⟩)<|Bp 0 (some 40) (Vq d) (bv 12 1) [(0,Vq d),(5,vp (pa R)),(34,vs (some j) xN xC),(35,vi xN),(36,vi f),(40,Vq d)]<|aM 1 41 (Vq d) (bv 12 3) [40]<|aM 2 42 (Vq d) (bv 12 7) [41]<|lb 3 43 (Vq o) (bv 12 15) [42] (aZ 31 (Vq d)) (yW 11 yZ)<|aM 4 44 (Vq o) (bv 12 31) [43]<|aM 5 45 (Vq o) (bv 12 63) [44]<|lb 6 46 (vp r) (bv 12 127) [45] (aZ 50 (Vq o)) (yW 11 yX)<|aM 7 47 (vp (pa R)) (bv 12 255) []<|lb 8 48 (vi p) (bv 12 511) [47] (aZ 3 (vp (pa R))) (yW 11 yQ)<|aM 9 49 (Vq ((ad R).add 1)) (bv 12 1023) [5]<|lb 10 50 (vi u) (bv 12 2047) [49] (aZ 3 (Vq ((ad R).add 1))) (yW 11 yJ)<|yq 11 (some 51) (bv 12 4095) 74 #[vp r,vi p,vi u] he ?_;clear he;rintro ak H7 ⟨ah,rfl,h⟩;refine⟨[(0,Vq d),(34,vs (some j) xN xC),(35,vi xN),(36,vi f)],pk,(show aP _ _ _ from⟨GB,GB,GB,GB,GB⟩),?_⟩;exact gm [(0,Vq d),(34,vs (some j) xN xC),(35,vi xN),(36,vi f)] sk<|yx<|aD<|aE<|k4 11<|nx 2 [(0,Vq d),(34,vs (some j) xN xC),(35,vi xN),(36,vi (zY (f+1)))]<|aQ ((zY (f+1)):Int) sk h
 refine aG 37 (zQ c20)<|zj 2<|aA<|aA<|aJ<|aE<|ar 12<|nb 3 [(0,Vq d),(55,Vq d)] ?_;obtain⟨y,q32,h⟩:=h;refine hV 56 31 q32 [55]<|Bs (some 57) h ?_;clear h;refine λv_4 H8 h=>im [56] []<|ue<|k4 13<|nb 3 [(60,Vq (d.add 1029))]<|have⟨q34,h⟩:=h;fj 3 (vi 1) q34<|λH9 e33=>have h:=h H9 e33;⟨[],pk,?_⟩;exact zq<|jD (fn:=f32) [] hQ (show bG _ _ _ [] _ from .nil) h
theorem eI.linkD{tv:zW}{H:zV}{R:zk}(h:pt tv H R):CD tv H (λH=> ∃v,R v H):=by
 refine ye (fn:=f32) (c:=K0) 61 func32 GE GE (Nat.le_of_ble_eq_true GE) ?_;intro w0 Q hQ;unfold pt zY at h;refine ki [(0,vp tv)]<|gv<|ar 0<|fd 1 [] [(6,vp tv)]<|l5 7 [6] h λx H1 h=>ue<|jn h (λc1 h=>?_) (λc1 h=>?_)
 ·refine aH 7 c1<|zx ?_;show At _ _ _ _ _ (Q .ret);exact zl (fn:=f32) [] hQ (show bG _ _ _ [] _ from .nil) h
 refine aG 7 (zZ c1)<|kT<|gv<|ar 1<|fd 1 [7] [(8,vp tv)] ?_;obtain⟨d,rfl,ha⟩:=h;refine nb 2 [(0,Vq d),(10,Vq (d.add 2))] ?_;obtain⟨g,l4,q3,h⟩:=ha;refine wd 11 (aZ 122 (Vq (d.add 2))) (.agg (g).toArray) (jC (aR Et (λw=>by rw[l4];kernel_rfl) q3)) [10]<|gi 1 [] [(12,vi 0)]<|k5 0 ?_;refine have⟨ae,m13,i5,i6⟩:=h;bI (x:=Bj) (σ:=Int) (λs_=> [(0,Vq d),(11,.agg (g).toArray),(12,vi s_)]) (λs_ H=>ae s_ H) (λs_ H=>m13 s_ H) (0:Int) GE i5 sk ?_;rintro e H2 i7;have h:=i6 e H2 i7;refine ki [(0,Vq d),(11,.agg (g).toArray),(12,vi e)]<|ar 2<|gi 1 [] [(13,.bool (decide (e<1024)))]<|gv<|jn h (λc8 h=>?_) (λc8 h=>?_)
 ·refine aH 13 (zX c8)<|kT<|gv<|k5 1<|ar 3<|fd 1 [13] [(14,vi e)]<|have⟨s,q10,h⟩:=h;wd 15 (fD 122 (.agg (g).toArray) (vi e)) (vi s) (λw _=>kX (P:=prog) (t:=122) (elem:=3) (n:=1024) Gi Et Et q10.1.1 q10.1.2 q10.2 w) []<|gi 2 [14,15] [(2,vi e),(3,vi s)]<|ar 4<|gi 2 [3] [(17,.bool (s==1))]<|jn h (λc11 h=>?_) (λc11 h=>?_)
  ·refine aH 17 (zK c11)<|k4 5<|fd 3 [17] [(20,Vq d)]<|have⟨af,q13,h⟩:=h;hV 21 31 q13 [20] ?_;obtain⟨ac,rfl,hb⟩:=h;refine fd 2 [21] [(23,Vq ac)]<|have⟨ab,q14,h⟩:=hb;hV 24 50 q14 [23] ?_;obtain⟨aa,rfl,hc⟩:=h;refine fd 2 [24] [(26,Vq aa)] ?_;obtain⟨z,q15,h⟩:=hc;refine hV 27 79 q15 [26]<|fd 1 [2] [(28,vi e)]<|Bs (some 29) h ?_;clear h;rintro aj H3 ⟨al,rfl,h⟩;exact im [27,28] []<|zq<|aD<|aE<|k4 6<|gi 2 [12] [(12,vi (zY (e+1)))]<|aQ ((zY (e+1)):Int) sk h
  exact aG 17 (zJ c11)<|Bn<|aD<|aE<|k4 6<|gi 2 [2,12,17] [(12,vi (zY (e+1)))]<|aQ ((zY (e+1)):Int) sk h
 refine aG 13 (zQ c8)<|zj 0<|aA<|aA<|aJ<|aE<|gv<|ar 7<|fd 3 [11,12,13] [(33,Vq (d.add 1028))]<|have⟨xB,xN,xC,q16,h⟩:=h;hV 34 123 q16 [33]<|gi 2 [] [(35,vi xN),(36,vi 0)]<|k5 2<|have⟨ag,m34,i17,i18⟩:=h;bI (x:=Cg) (σ:=Int) (λs_=> [(0,Vq d),(34,vs xB xN xC),(35,vi xN),(36,vi s_)]) (λs_ H=>ag s_ H) (λs_ H=>m34 s_ H) (0:Int) GE i17 sk ?_;rintro f H4 i19;have h:=i18 f H4 i19;refine ki [(0,Vq d),(34,vs xB xN xC),(35,vi xN),(36,vi f)]<|ar 8<|gi 1 [] [(37,.bool (decide (f< (xN:Int))))]<|gv<|jn h (λc20 h=>?_) (λc20 h=>?_)
 ·refine aH 37 (zX c20)<|kT<|gv<|k5 3<|ar 9<|p0 [37] [] ?_;obtain⟨j,rfl,q22,hd⟩:=h;refine ww (some 38) 123 134 2 j xN xC .i64 f F8 q22.1 q22.2 [34] [(34,vs (some j) xN xC),(38,Vq (j.add (toNat f*2)))]<|have⟨q,m,q23,h⟩:=hd;na 39 134 q23 [38]<|l1 (some 5) (λb=>vp (pa b)) (.cells #[vi 0,vi 0] 134)<|λb H5 e24 e25=>have h:=h b H5 e24 e25;im [] [(5,vp (pa b))]<|have⟨q27,h⟩:=h;bF 134 [vi q,vi m] q27<|λH6 e26=>have h:=h H6 e26;im [39] []<|ue ?_;obtain⟨ai,q28,o,rfl,r,q29,p,q30,u,q31,he⟩:=h;refine yY 10 (Code.ops Dl) [(11,d,[Vq o]),(11,o,[vp r]),(11,(ad b),[vi p]),(11,((ad b).add 1),[vi u])] 12 (bv 12 0) (show aP _ _ _ from⟨⟨q28,GB⟩,⟨q29,GB⟩,⟨q30,GB⟩,⟨q31,GB⟩,GB⟩)<|Bp 0 (some 40) (Vq d) (bv 12 1) [(0,Vq d),(5,vp (pa b)),(34,vs (some j) xN xC),(35,vi xN),(36,vi f),(40,Vq d)]<|aM 1 41 (Vq d) (bv 12 3) [40]<|aM 2 42 (Vq d) (bv 12 7) [41]<|lb 3 43 (Vq o) (bv 12 15) [42] (aZ 31 (Vq d)) (yW 11 yZ)<|aM 4 44 (Vq o) (bv 12 31) [43]<|aM 5 45 (Vq o) (bv 12 63) [44]<|lb 6 46 (vp r) (bv 12 127) [45] (aZ 50 (Vq o)) (yW 11 yX)<|aM 7 47 (vp (pa b)) (bv 12 255) []<|lb 8 48 (vi p) (bv 12 511) [47] (aZ 3 (vp (pa b))) (yW 11 yQ)<|aM 9 49 (Vq ((ad b).add 1)) (bv 12 1023) [5]<|lb 10 50 (vi u) (bv 12 2047) [49] (aZ 3 (Vq ((ad b).add 1))) (yW 11 yJ)<|yq 11 (some 51) (bv 12 4095) 74 #[vp r,vi p,vi u] he ?_;clear he;rintro ak H7 ⟨ah,rfl,h⟩;refine⟨[(0,Vq d),(34,vs (some j) xN xC),(35,vi xN),(36,vi f)],pk,(show aP _ _ _ from⟨GB,GB,GB,GB,GB⟩),?_⟩;exact gm [(0,Vq d),(34,vs (some j) xN xC),(35,vi xN),(36,vi f)] sk<|yx<|aD<|aE<|k4 11<|nx 2 [(0,Vq d),(34,vs (some j) xN xC),(35,vi xN),(36,vi (zY (f+1)))]<|aQ ((zY (f+1)):Int) sk h
 refine aG 37 (zQ c20)<|zj 2<|aA<|aA<|aJ<|aE<|ar 12<|nb 3 [(0,Vq d),(55,Vq d)] ?_;obtain⟨y,q32,h⟩:=h;refine hV 56 31 q32 [55]<|Bs (some 57) h ?_;clear h;refine λv_4 H8 h=>im [56] []<|ue<|k4 13<|nb 3 [(60,Vq (d.add 1029))]<|have⟨q34,h⟩:=h;fj 3 (vi 1) q34<|λH9 e33=>have h:=h H9 e33;⟨[],pk,?_⟩;exact zq<|yf (fn:=f32) [] hQ (show bG _ _ _ [] _ from .nil) h
namespace cH
def K0:=GC f33
def K2:=cb K0
def K4:=cb K2
def BE:=cb K4
def Co:=cb BE
def B6:=cb Co
def Do:=cb B6
def Cx:=cb Do
def Cg:=ca Cx
def C7:=cb Cx
def CY:=cb C7
def CT:=ca CY
def Dl:=cb CT
def CS:=ca Dl
def Dx:=ca CS
end cH
def cH.pt(tv:zW)(wv:Int):GJ:=λH R=>
 eJ.C tv wv H (λv H1=> ∃x,v=.bool x/\
 if x=true then(
 dQ.C tv wv H1 (λbz H2=> ∃ra rb,bz=.tuple #[vu ra,.bool rb]/\
 if rb=true then(
 R (vu ra) H2)
 else
 ∃d,tv=some d/\
 ∃aw,hat H2 d=some (vp aw)/\
 gF.C aw wv H2 (λbx H3=> ∃f,bx=vi f/\
 if f=0 then(
 R (vu wv) H3)
 else
 gO.C wv H3 (λbs H4=> ∃a bi,bs=.tuple #[vi a,.bool bi]/\
 ∃ba,hat H4 d=some (vp ba)/\
 ∃a8,ba=some a8/\
 ∃be,hat H4 a8=some (vp be)/\
 ∃bb,be=some bb/\
 ∃bc,hat H4 bb=some (vp bc)/\
 ∃a9,bc=some a9/\
 ∃a4,hat H4 a9=some (vp a4)/\
 bX.C a4 (zY (Int.tdiv a 64)) H4 (λb1 H5=> ∃t s ag i k m j ah,b1=.tuple #[.agg #[vi t,vi s,vi ag,vi i,vi k,vi m,vi j],.bool ah]/\
 ∀b H6,b=H5.size->H6=H5.push (.cells GL 127)->
 (aF H6 (ad b) 0 7)/\ ∀H7,H7=aL H6 (ad b) [vi t,vi s,vi ag,vi i,vi k,vi m,vi j] 0->
 ∃bp,hat H7 d=some (vp bp)/\
 ∃u,bp=some u/\
 ∃bq,hat H7 u=some (vp bq)/\
 ∃y,bq=some y/\
 ∃r,hat H7 y=some (vp r)/\
 ∃z,hat H7 (d.add 1)=some (vi z)/\
 ∃aa,hat H7 ((ad b).add 1)=some (vi aa)/\
 dR.C r z aa f H7 (λbw H8=> ∃e o,bw=.tuple #[vi e,vi o]/\
 if o=0 then(
 ∃(bd:zv) (m47:Int->zV->Nat),bd 0 H8/\ ∀g H9,bd g H9->
 if g<f then(
 ∃au,hat H9 d=some (vp au)/\
 ∃ap,au=some ap/\
 ∃a2,hat H9 ap=some (vp a2)/\
 ∃am,a2=some am/\
 ∃ax,hat H9 am=some (vp ax)/\
 ∃ak,ax=some ak/\
 ∃ac,hat H9 ak=some (vp ac)/\
 cS.C ac (zY (a+g)) H9 (λb5 a7=> ∃p bh,b5=.tuple #[vu p,vi bh]/\
 ∃a0,hat a7 d=some (vp a0)/\
 ∃a5,a0=some a5/\
 ∃ay,hat a7 a5=some (vp ay)/\
 ∃az,ay=some az/\
 ∃aj,hat a7 az=some (vp aj)/\
 ∃a1,aj=some a1/\
 ∃ab,hat a7 a1=some (vp ab)/\
 dS.C ab (zY (e+g)) p a7 (λbu bm=> ∃bl,bu=vi bl/\
 (bd (zY (g+1)) bm/\m47 (zY (g+1)) bm<m47 g H9))))
 else
 j1.C 6 e H9 (λb0 a6=> ∃q bf,b0=.tuple #[vu q,vi bf]/\
 ∃al,hat a6 d=some (vp al)/\
 ∃ao,al=some ao/\
 ∃aq,hat a6 ao=some (vp aq)/\
 ∃a3,aq=some a3/\
 ∃av,hat a6 a3=some (vp av)/\
 ∃an,av=some an/\
 ∃af,hat a6 an=some (vp af)/\
 dS.C af a q a6 (λbk b3=> ∃bo,bk=vi bo/\
 fF.C wv b3 (λbj br=> ∃ai,bj=vi ai/\
 j1.C ai e br (λbn bt=> ∃ae bg,bn=.tuple #[vu ae,vi bg]/\
 R (vu ae) bt)))))
 else
 R (vu wv) H8))))))
 else
 R (vu wv) H1)
theorem cH.link{wv:Int}(h:pt a wv H b):C a wv H b:=by
 refine l2 K0 163 func33 ?_;intro w0 Q hQ;unfold pt zY at h;refine ki [(0,vp a),(1,vu wv)]<|ar 0<|gi 1 [] []<|gv<|ar 1<|fd 2 [] [(21,vp a),(22,vu wv)]<|l5 23 [21,22] h λx H1 h=>gi 1 [23] [(24,.bool (!x))]<|jn h (λc1 h=>?_) (λc1 h=>?_)
 ·refine aG 24 (Eg Bool.not (c1))<|kT<|gv<|ar 3<|fd 2 [24] [(27,vp a),(28,vu wv)]<|vr 29 [27,28] h λra rb H2 h=>gi 5 [29] [(5,vu ra),(6,.bool rb)]<|ar 4<|gi 1 [6] [(32,.bool rb)]<|jn h (λc3 h=>?_) (λc3 h=>?_)
  ·exact aH 32 c3<|ar 5<|hH 2 [4] [vu ra] hQ h
  refine aG 32 (zZ c3)<|kT<|ar 6<|fd 1 [5,32] [(34,vp a)] ?_;obtain⟨d,rfl,ha⟩:=h;refine fd 2 [0,34] [(0,Vq d),(36,Vq d)]<|have⟨aw,q5,h⟩:=ha;hV 37 31 q5 [36]<|fd 1 [] [(38,vu wv)]<|l5 39 [37,38] h λf H3 h=>gi 1 [39] [(7,vi f)]<|gv<|ar 7<|gi 2 [] [(41,.bool (f==0))]<|jn h (λc6 h=>?_) (λc6 h=>?_)
  ·exact aH 41 (zK c6)<|ar 8<|hH 2 [4] [vu wv] hQ h
  refine aG 41 (zJ c6)<|kT<|ar 9<|fd 1 [41] [(44,vu wv)]<|vr 45 [44] h λR bi H4 h=>gi 5 [45] [(8,vi R)]<|ar 10<|fd 3 [] [(51,Vq d)]<|have⟨ba,q8,h⟩:=h;hV 52 31 q8 [51] ?_;obtain⟨a8,rfl,hb⟩:=h;refine fd 2 [52] [(54,Vq a8)]<|have⟨be,q9,h⟩:=hb;hV 55 50 q9 [54] ?_;obtain⟨bb,rfl,hc⟩:=h;refine fd 2 [55] [(57,Vq bb)]<|have⟨bc,q10,h⟩:=hc;hV 58 79 q10 [57] ?_;obtain⟨a9,rfl,hd⟩:=h;refine fd 2 [58] [(60,Vq a9)]<|have⟨a4,q11,h⟩:=hd;hV 61 115 q11 [60]<|fd 2 [] [(63,vi (zY (Int.tdiv R 64)))]<|B7 64 [61,63] h λt s ag i k m j ah H5 h=>fd 3 [64] [(65,.agg #[vi t,vi s,vi ag,vi i,vi k,vi m,vi j]),(66,.bool ah)]<|l1 (some 10) (λtv=>vp (pa tv)) (.cells GL 127)<|λtv H6 e12 e13=>have h:=h tv H6 e12 e13;im [] [(10,vp (pa tv))]<|have⟨q15,h⟩:=h;bF 127 [vi t,vi s,vi ag,vi i,vi k,vi m,vi j] q15<|λH7 e14=>have h:=h H7 e14;im [65] []<|gi 1 [66] []<|gv ?_;obtain⟨bp,q16,u,rfl,bq,q17,y,rfl,r,q18,z,q19,aa,q20,he⟩:=h;refine yY 11 (Code.ops Cg) [(17,d,[Vq u]),(17,u,[Vq y]),(17,y,[vp r]),(17,(d.add 1),[vi z]),(17,((ad tv).add 1),[vi aa])] 23 (bv 23 0) (show aP _ _ _ from⟨⟨q16,GB⟩,⟨q17,GB⟩,⟨q18,GB⟩,⟨q19,GB⟩,⟨q20,GB⟩,GB⟩)<|Bp 0 (some 68) (Vq d) (bv 23 1) [(0,Vq d),(1,vu wv),(7,vi f),(8,vi R),(10,vp (pa tv)),(68,Vq d)]<|aM 1 69 (Vq d) (bv 23 3) [68]<|aM 2 70 (Vq d) (bv 23 7) [69]<|lb 3 71 (Vq u) (bv 23 15) [70] (aZ 31 (Vq d)) (yW 17 yZ)<|aM 4 72 (Vq u) (bv 23 31) [71]<|aM 5 73 (Vq u) (bv 23 63) [72]<|lb 6 74 (Vq y) (bv 23 127) [73] (aZ 50 (Vq u)) (yW 17 yX)<|aM 7 75 (Vq y) (bv 23 255) [74]<|aM 8 76 (Vq y) (bv 23 511) [75]<|lb 9 77 (vp r) (bv 23 1023) [76] (aZ 79 (Vq y)) (yW 17 yQ)<|aM 10 78 (Vq d) (bv 23 2047) []<|aM 11 79 (Vq d) (bv 23 4095) [78]<|aM 12 80 (Vq (d.add 1)) (bv 23 8191) [79]<|lb 13 81 (vi z) (bv 23 16383) [80] (aZ 3 (Vq (d.add 1))) (yW 17 yJ)<|aM 14 82 (Vq ((ad tv).add 1)) (bv 23 32767) [10]<|lb 15 83 (vi aa) (bv 23 65535) [82] (aZ 3 (Vq ((ad tv).add 1))) (yW 17 yK)<|aM 16 84 (vi f) (bv 23 131071) []<|yq 17 (some 85) (bv 23 262143) 80 #[vp r,vi z,vi aa,vi f] he ?_;clear he;rintro bw H8 ⟨e,o,rfl,h⟩;refine⟨[(0,Vq d),(1,vu wv),(7,vi f),(8,vi R),(85,.tuple #[vi e,vi o])],pk,(show aP _ _ _ from⟨GB,GB,GB,GB,GB,GB⟩),?_⟩;refine BS 18 (some 67) (.tuple #[vi e,vi o]) (bv 23 524287) [(0,Vq d),(1,vu wv),(7,vi f),(8,vi R),(67,.tuple #[vi e,vi o])] (pure (.value (.tuple #[vi e,vi o])):Sem Next) (λ_ _ _ _ _=>rfl)<|lb 19 86 (vi e) (bv 23 1048575) [] (pure (.value (vi e)):Sem Next) (λ_ _ _ _ _=>rfl)<|lb 20 87 (vi o) (bv 23 2097151) [67] (pure (.value (vi o)):Sem Next) (λ_ _ _ _ _=>rfl)<|lb 21 12 (vi e) (bv 23 4194303) [86] (pure (.value (vi e)):Sem Next) (λ_ _ _ _ _=>rfl)<|lb 22 13 (vi o) (bv 23 8388607) [87] (pure (.value (vi o)):Sem Next) (λ_ _ _ _ _=>rfl)<|gm [(0,Vq d),(1,vu wv),(7,vi f),(8,vi R),(12,vi e),(13,vi o)] sk<|yx<|aE<|gv<|ar 12<|nx 2 [(0,Vq d),(1,vu wv),(7,vi f),(8,vi R),(12,vi e),(89,.bool (o !=0))]<|jn h (λc21 h=>?_) (λc21 h=>?_)
  ·refine aG 89 (Em.mpr c21)<|kT<|gv<|ar 14<|gi 2 [7,89] [(91,vi f),(92,vi 0)]<|k5 0<|have⟨bd,m47,i23,i24⟩:=h;bI (x:=Dx) (σ:=Int) (λs_=> [(0,Vq d),(1,vu wv),(8,vi R),(12,vi e),(91,vi f),(92,vi s_)]) (λs_ H=>bd s_ H) (λs_ H=>m47 s_ H) (0:Int) GE i23 sk ?_;rintro g H9 i25;have h:=i24 g H9 i25;refine ki [(0,Vq d),(1,vu wv),(8,vi R),(12,vi e),(91,vi f),(92,vi g)]<|ar 15<|gi 1 [] [(93,.bool (decide (g<f)))]<|gv<|jn h (λc26 h=>?_) (λc26 h=>?_)
   ·refine aH 93 (zX c26)<|kT<|gv<|k5 1<|ar 16<|gi 2 [93] [(14,vi g)]<|ar 17<|fd 3 [] [(98,Vq d)]<|have⟨au,q28,h⟩:=h;hV 99 31 q28 [98] ?_;obtain⟨ap,rfl,hf⟩:=h;refine fd 2 [99] [(101,Vq ap)]<|have⟨a2,q29,h⟩:=hf;hV 102 50 q29 [101] ?_;obtain⟨am,rfl,hg⟩:=h;refine fd 2 [102] [(104,Vq am)]<|have⟨ax,q30,h⟩:=hg;hV 105 79 q30 [104] ?_;obtain⟨ak,rfl,hh⟩:=h;refine fd 2 [105] [(107,Vq ak)]<|have⟨ac,q31,h⟩:=hh;hV 108 115 q31 [107]<|fd 3 [] [(111,vi (zY (R+g)))]<|vr 112 [108,111] h λp bh a7 h=>gi 5 [112] [(15,vu p)]<|k4 18<|fd 3 [] [(117,Vq d)]<|have⟨a0,q32,h⟩:=h;hV 118 31 q32 [117] ?_;obtain⟨a5,rfl,hi⟩:=h;refine fd 2 [118] [(120,Vq a5)]<|have⟨ay,q33,h⟩:=hi;hV 121 50 q33 [120] ?_;obtain⟨az,rfl,hj⟩:=h;refine fd 2 [121] [(123,Vq az)]<|have⟨aj,q34,h⟩:=hj;hV 124 79 q34 [123] ?_;obtain⟨a1,rfl,hk⟩:=h;refine fd 2 [124] [(126,Vq a1)] ?_;obtain⟨ab,q35,h⟩:=hk;refine hV 127 115 q35 [126]<|fd 4 [14,15] [(130,vi (zY (e+g))),(131,vu p)]<|Bs (some 132) h ?_;clear h;rintro bu bm ⟨bl,rfl,h⟩;exact im [127,130,131] []<|zq<|aD<|aE<|k4 19<|gi 2 [92] [(92,vi (zY (g+1)))]<|aQ ((zY (g+1)):Int) sk h
   refine aG 93 (zQ c26)<|zj 0<|aA<|aA<|aJ<|aE<|ar 20<|fd 1 [91,92,93] [(135,vi e)]<|vr 136 [135] h λq bf a6 h=>gi 5 [136] [(17,vu q)]<|ar 21<|fd 3 [0] [(141,Vq d)]<|have⟨al,q36,h⟩:=h;hV 142 31 q36 [141] ?_;obtain⟨ao,rfl,hl⟩:=h;refine fd 2 [142] [(144,Vq ao)]<|have⟨aq,q37,h⟩:=hl;hV 145 50 q37 [144] ?_;obtain⟨a3,rfl,hm⟩:=h;refine fd 2 [145] [(147,Vq a3)]<|have⟨av,q38,h⟩:=hm;hV 148 79 q38 [147] ?_;obtain⟨an,rfl,hn⟩:=h;refine fd 2 [148] [(150,Vq an)] ?_;obtain⟨af,q39,h⟩:=hn;refine hV 151 115 q39 [150]<|fd 2 [8,17] [(152,vi R),(153,vu q)]<|Bs (some 154) h ?_;clear h;rintro bk b3 ⟨bo,rfl,h⟩;exact im [151,152,153] []<|ue<|ar 22<|fd 1 [1] [(156,vu wv)]<|l5 157 [156] h λai br h=>fd 1 [12] [(158,vi e)]<|Bh 159 (λae bg=>[(159,.tuple #[vu ae,vi bg])]) h λae bg bt h=>nx 5 [(19,vu ae)]<|ar 23<|hH 2 [4] [vu ae] hQ h
  exact aH 89 (En.mpr c21)<|ar 13<|hH 2 [4] [vu wv] hQ h
 exact aH 24 (Eg Bool.not (zZ c1))<|ar 2<|hH 2 [4] [vu wv] hQ h
end Go.Proofs.YtillhdiiglamhaaGreatDoor
namespace Go.Proofs.YtillhdiiglamhaaGreatDoor
open Go Go.Proofs.Tryz
open Int(tdiv tmod toNat)
variable{H:zV}{a:zW}{b:zk}{d:Int}
namespace eS
def K0:=GC f34
def K2:=cb K0
def K8:=cb K2
def K9:=ca K8
def BE:=ca K9
def Bj:=cb BE
def Bt:=cb Bj
def Bu:=ca Bt
def BR:=ca Bu
def B4:=cb BR
def B6:=ca B4
end eS
def eS.pt(tv:zW):GJ:=λH R=>
 cK.C tv H (λv H1=> ∃x,v=.bool x/\
 if x=true then(
 R (.tuple #[]) H1)
 else
 ∃d,tv=some d/\
 ∃xB xN xC,hat H1 (d.add 1028)=some (vs xB xN xC)/\
 ∃(a2:zv) (m11:Int->zV->Nat),a2 0 H1/\ ∀e H2,a2 e H2->
 if e< (xN:Int)then(
 ∃f,xB=some f/\
 zw e xN/\
 ∃aw ap,aI H2 (f.add (toNat e*2)) 0 [vi aw,vi ap]/\
 ∀b H3,b=H2.size->H3=H2.push (.cells #[vi 0,vi 0] 134)->
 (aF H3 (ad b) 0 2)/\ ∀H4,H4=aL H3 (ad b) [vi aw,vi ap] 0->
 ∃a4,hat H4 d=some (vp a4)/\
 ∃ao,a4=some ao/\
 ∃a6,hat H4 ao=some (vp a6)/\
 ∃al,a6=some al/\
 ∃a7,hat H4 al=some (vp a7)/\
 ∃am,a7=some am/\
 ∃av,hat H4 am=some (vp av)/\
 ∃ay,hat H4 (ad b)=some (vi ay)/\
 (
 bX.C av ay H4 (λa9 H5=> ∃ab z an s q r p rb,a9=.tuple #[.agg #[vi ab,vi z,vi an,vi s,vi q,vi r,vi p],.bool rb]/\
 ∀ae H6,ae=H5.size->H6=H5.push (.cells GL 127)->
 (aF H6 (ad ae) 0 7)/\ ∀H7,H7=aL H6 (ad ae) [vi ab,vi z,vi an,vi s,vi q,vi r,vi p] 0->
 ∃au,hat H7 (ad b)=some (vi au)/\
 ∃ax,hat H7 ((ad b).add 1)=some (vi ax)/\
 ∃aq,hat H7 ((ad ae).add 2)=some (vi aq)/\
 ∃aj,hat H7 ((ad b).add 1)=some (vi aj)/\
 ∃a0,hat H7 ((ad ae).add 1)=some (vi a0)/\
 cY.C (some d) au (zY (ax*16)) (if(zY ((zY (aj+1))*16))<aq then(zY ((zY (aj+1))*16))else aq) a0 H7 (λ_ H8=>
 (a2 (zY (e+1)) H8/\m11 (zY (e+1)) H8<m11 e H2))))/\(
 ∀aa H9,aa=H4.size->H9=H4.push (.cells GL 127)->aI H9 d 0 [Vq ao]/\aI H9 ao 0 [Vq al]/\aI H9 al 0 [Vq am]/\aI H9 am 0 [vp av]/\aI H9 (ad b) 0 [vi ay]/\
 bX.C av ay H9 (λa8 a3=> ∃y u ac j m o g ah,a8=.tuple #[.agg #[vi y,vi u,vi ac,vi j,vi m,vi o,vi g],.bool ah]/\
 (aF a3 (ad aa) 0 7)/\ ∀az,az=aL a3 (ad aa) [vi y,vi u,vi ac,vi j,vi m,vi o,vi g] 0->
 ∃ag,hat az (ad b)=some (vi ag)/\
 ∃ai,hat az ((ad b).add 1)=some (vi ai)/\
 ∃af,hat az ((ad aa).add 2)=some (vi af)/\
 ∃ak,hat az ((ad b).add 1)=some (vi ak)/\
 ∃a1,hat az ((ad aa).add 1)=some (vi a1)/\
 cY.C (some d) ag (zY (ai*16)) (if(zY ((zY (ak+1))*16))<af then(zY ((zY (ak+1))*16))else af) a1 az (λ_ a5=>
 (a2 (zY (e+1)) a5/\m11 (zY (e+1)) a5<m11 e H2)))))
 else
 R (.tuple #[]) H2)
theorem eS.link(h:pt a H b):C a H b:=by
 refine l2 K0 53 func34 ?_;intro w0 Q hQ;unfold pt zY at h;refine ki [(0,vp a)]<|gv<|ar 0<|fd 1 [] [(6,vp a)]<|l5 7 [6] h λx H1 h=>ue<|jn h (λc1 h=>?_) (λc1 h=>?_)
 ·exact aH 7 c1<|ix [] [] hQ h
 refine aG 7 (zZ c1)<|kT<|ar 1<|fd 1 [7] [(8,vp a)] ?_;obtain⟨d,rfl,ha⟩:=h;refine nb 2 [(0,Vq d),(10,Vq (d.add 1028))]<|have⟨xB,xN,xC,q3,h⟩:=ha;hV 11 123 q3 [10]<|gi 2 [] [(12,vi xN),(13,vi 0)]<|k5 0<|have⟨a2,m11,i4,i5⟩:=h;bI (x:=BE) (σ:=Int) (λs_=> [(0,Vq d),(11,vs xB xN xC),(12,vi xN),(13,vi s_)]) (λs_ H=>a2 s_ H) (λs_ H=>m11 s_ H) (0:Int) GE i4 sk ?_;rintro e H2 i6;have h:=i5 e H2 i6;refine ki [(0,Vq d),(11,vs xB xN xC),(12,vi xN),(13,vi e)]<|ar 2<|gi 1 [] [(14,.bool (decide (e< (xN:Int))))]<|gv<|jn h (λc7 h=>?_) (λc7 h=>?_)
 ·refine aH 14 (zX c7)<|kT<|gv<|k5 1<|ar 3<|p0 [14] [] ?_;obtain⟨f,rfl,q9,hb⟩:=h;refine ww (some 15) 123 134 2 f xN xC .i64 e F8 q9.1 q9.2 [11] [(11,vs (some f) xN xC),(15,Vq (f.add (toNat e*2)))]<|have⟨aw,ap,q10,h⟩:=hb;na 16 134 q10 [15]<|l1 (some 3) (λR=>vp (pa R)) (.cells #[vi 0,vi 0] 134)<|λR H3 e11 e12=>have h:=h R H3 e11 e12;im [] [(3,vp (pa R))]<|have⟨q14,h⟩:=h;bF 134 [vi aw,vi ap] q14<|λH4 e13=>have h:=h H4 e13;im [16] []<|ue<|gv ?_;obtain⟨a4,q15,ao,rfl,a6,q16,al,rfl,a7,q17,am,rfl,av,q18,ay,q19,hc⟩:=h;have h:=hc;refine yY 4 (Code.ops B6) [(15,d,[Vq ao]),(15,ao,[Vq al]),(15,al,[Vq am]),(15,am,[vp av]),(15,(ad R),[vi ay])] 22 (bv 22 0) (show aP _ _ _ from⟨⟨q15,GB⟩,⟨q16,GB⟩,⟨q17,GB⟩,⟨q18,GB⟩,⟨q19,GB⟩,GB⟩)<|Bp 0 (some 18) (Vq d) (bv 22 1) [(0,Vq d),(3,vp (pa R)),(11,vs (some f) xN xC),(12,vi xN),(13,vi e),(18,Vq d)]<|aM 1 19 (Vq d) (bv 22 3) [18]<|aM 2 20 (Vq d) (bv 22 7) [19]<|lb 3 21 (Vq ao) (bv 22 15) [20] (aZ 31 (Vq d)) (yW 15 yZ)<|aM 4 22 (Vq ao) (bv 22 31) [21]<|aM 5 23 (Vq ao) (bv 22 63) [22]<|lb 6 24 (Vq al) (bv 22 127) [23] (aZ 50 (Vq ao)) (yW 15 yX)<|aM 7 25 (Vq al) (bv 22 255) [24]<|aM 8 26 (Vq al) (bv 22 511) [25]<|lb 9 27 (Vq am) (bv 22 1023) [26] (aZ 79 (Vq al)) (yW 15 yQ)<|aM 10 28 (Vq am) (bv 22 2047) [27]<|aM 11 29 (Vq am) (bv 22 4095) [28]<|lb 12 30 (vp av) (bv 22 8191) [29] (aZ 115 (Vq am)) (yW 15 yJ)<|aM 13 31 (vp (pa R)) (bv 22 16383) []<|lb 14 32 (vi ay) (bv 22 32767) [31] (aZ 3 (vp (pa R))) (yW 15 yK)<|x7 15 19 GE ?fa1 ?fb1
  case' fa1=>
   replace h:=h.1;refine ya 15 (some 33) (bv 22 65535) 69 #[vp av,vi ay] GE Et h GE ?_;clear h;rintro a9 H5 ⟨ab,z,an,s,q,r,p,rb,rfl,h⟩;refine⟨[(0,Vq d),(3,vp (pa R)),(11,vs (some f) xN xC),(12,vi xN),(13,vi e),(33,.tuple #[.agg #[vi ab,vi z,vi an,vi s,vi q,vi r,vi p],.bool rb])],pk,(show aP _ _ _ from⟨GB,GB,GB,GB,GB,GB⟩),?_⟩;refine BS 16 (some 17) (.tuple #[.agg #[vi ab,vi z,vi an,vi s,vi q,vi r,vi p],.bool rb]) (bv 22 131071) [(0,Vq d),(3,vp (pa R)),(11,vs (some f) xN xC),(12,vi xN),(13,vi e),(17,.tuple #[.agg #[vi ab,vi z,vi an,vi s,vi q,vi r,vi p],.bool rb])] (pure (.value (.tuple #[.agg #[vi ab,vi z,vi an,vi s,vi q,vi r,vi p],.bool rb])):Sem Next) (λ_ _ _ _ _=>rfl)<|lb 17 34 (.agg #[vi ab,vi z,vi an,vi s,vi q,vi r,vi p]) (bv 22 262143) [] (pure (.value (.agg #[vi ab,vi z,vi an,vi s,vi q,vi r,vi p])):Sem Next) (λ_ _ _ _ _=>rfl)<|lb 18 35 (.bool rb) (bv 22 524287) [17] (pure (.value (.bool rb)):Sem Next) (λ_ _ _ _ _=>rfl)<|rQ 19 (some 4) (bv 22 1048575) (λR=>vp (pa R)) (.cells GL 127) GE Et GE<|λae H6 e20 e21=>have h:=h ae H6 e20 e21;⟨[(0,Vq d),(3,vp (pa R)),(4,vp (pa ae)),(11,vs (some f) xN xC),(12,vi xN),(13,vi e),(34,.agg #[vi ab,vi z,vi an,vi s,vi q,vi r,vi p]),(35,.bool rb)],pk,(show aP _ _ _ from⟨GB,GB,GB,GB,GB,GB⟩),?_⟩
  case' fb1=>
   refine have h:=h.2;Ah 19 (some 4) (bv 22 557055) (λR=>vp (pa R)) (.cells GL 127) GE Et GE<|λae H9 e34 e35=>have h:=h ae H9 e34 e35;have⟨f29,f30,f31,f32,f33,h⟩:=h;⟨[(0,Vq d),(3,vp (pa R)),(4,vp (pa ae)),(11,vs (some f) xN xC),(12,vi xN),(13,vi e),(30,vp av),(32,vi ay)],pk,(show aP _ _ _ from⟨f29,f30,f31,f32,f33,GB⟩),?_⟩;refine yq 15 (some 33) (bv 22 589823) 69 #[vp av,vi ay] h ?_;clear h;rintro a8 H6 ⟨ab,z,an,s,q,r,p,rb,rfl,h⟩;refine⟨[(0,Vq d),(3,vp (pa R)),(4,vp (pa ae)),(11,vs (some f) xN xC),(12,vi xN),(13,vi e),(33,.tuple #[.agg #[vi ab,vi z,vi an,vi s,vi q,vi r,vi p],.bool rb])],pk,(show aP _ _ _ from⟨GB,GB,GB,GB,GB,GB⟩),?_⟩;refine BS 16 (some 17) (.tuple #[.agg #[vi ab,vi z,vi an,vi s,vi q,vi r,vi p],.bool rb]) (bv 22 655359) [(0,Vq d),(3,vp (pa R)),(4,vp (pa ae)),(11,vs (some f) xN xC),(12,vi xN),(13,vi e),(17,.tuple #[.agg #[vi ab,vi z,vi an,vi s,vi q,vi r,vi p],.bool rb])] (pure (.value (.tuple #[.agg #[vi ab,vi z,vi an,vi s,vi q,vi r,vi p],.bool rb])):Sem Next) (λ_ _ _ _ _=>rfl)<|lb 17 34 (.agg #[vi ab,vi z,vi an,vi s,vi q,vi r,vi p]) (bv 22 786431) [] (pure (.value (.agg #[vi ab,vi z,vi an,vi s,vi q,vi r,vi p])):Sem Next) (λ_ _ _ _ _=>rfl)<|lb 18 35 (.bool rb) (bv 22 1048575) [17] (pure (.value (.bool rb)):Sem Next) (λ_ _ _ _ _=>rfl) ?_
  all_goals
   refine have⟨q23,h⟩:=h;gR 20 none (bv 22 2097151) (jR 127 (vp (pa ae)) (.agg #[vi ab,vi z,vi an,vi s,vi q,vi r,vi p])) (λHz=>Hz=aL H6 (ad ae) [vi ab,vi z,vi an,vi s,vi q,vi r,vi p] 0) GE Et (ji [vi ab,vi z,vi an,vi s,vi q,vi r,vi p] 7 GE GE Et GE q23) GE<|λH7 e22=>have h:=h H7 e22;⟨[(0,Vq d),(3,vp (pa R)),(4,vp (pa ae)),(11,vs (some f) xN xC),(12,vi xN),(13,vi e),(35,.bool rb)],pk,(show aP _ _ _ from⟨GB,GB,GB,GB,GB,GB⟩),?_⟩;refine BS 21 (some 5) (.bool rb) (bv 22 4194303) [(0,Vq d),(3,vp (pa R)),(4,vp (pa ae)),(11,vs (some f) xN xC),(12,vi xN),(13,vi e)] (pure (.value (.bool rb)):Sem Next) (λ_ _ _ _ _=>rfl)<|gm [(0,Vq d),(3,vp (pa R)),(4,vp (pa ae)),(11,vs (some f) xN xC),(12,vi xN),(13,vi e)] sk<|yx<|aE<|k4 5<|nb 2 [(0,Vq d),(3,vp (pa R)),(4,vp (pa ae)),(11,vs (some f) xN xC),(12,vi xN),(13,vi e),(36,Vq d),(37,vp (pa R))]<|have⟨au,q24,h⟩:=h;hV 38 3 q24 [37]<|fd 1 [] [(39,Vq ((ad R).add 1))]<|have⟨ax,q25,h⟩:=h;hV 40 3 q25 [39]<|fd 2 [40] [(41,vi (zY (ax*16))),(42,Vq ((ad ae).add 2))]<|have⟨aq,q26,h⟩:=h;hV 43 3 q26 [42]<|fd 1 [3] [(44,Vq ((ad R).add 1))]<|have⟨aj,q27,h⟩:=h;hV 45 3 q27 [44]<|fd 4 [4,43,45] [(48,vi (if(zY ((zY (aj+1))*16))<aq then(zY ((zY (aj+1))*16))else aq)),(49,Vq ((ad ae).add 1))] ?_;obtain⟨a0,q28,h⟩:=h;refine hV 50 3 q28 [49]<|Bs (some 51) h ?_;clear h;exact λv_3 H8 h=>im [36,38,41,48,50] []<|zq<|aD<|aE<|k4 6<|gi 2 [13] [(13,vi (zY (e+1)))]<|aQ ((zY (e+1)):Int) sk h
 exact aG 14 (zQ c7)<|zj 0<|aA<|aA<|aJ<|jD (fn:=f34) [] hQ (show bG _ _ _ [] _ from .nil) h
def eV.K0:=GC f35
def eV.K1:=ca K0
def eV.K2:=ca K1
def eV.pt(tv:zW):GJ:=λH R=>
 ∃(I3:zV->Prop) (m3:zV->Nat),I3 H/\ ∀H1,I3 H1->
 cK.C tv H1 (λv H2=> ∃x,v=.bool x/\
 if x=true then(
 R (.tuple #[]) H2)
 else
 eX.C tv H2 (λb H3=> ∃a,b=.bool a/\
 if a=true then(
 (I3 H3/\m3 H3<m3 H1))
 else
 R (.tuple #[]) H3))
theorem eV.link(h:pt a H b):C a H b:=by
 refine l2 K0 9 func35 ?_;intro w0 Q hQ;unfold pt at h;refine ki [(0,vp a)]<|k5 0<|have⟨I3,m3,i1,i2⟩:=h;bI (x:=K2) (σ:=Unit) (λs_=> [(0,vp a)]) (λs_ H=>I3 H) (λs_ H=>m3 H) (():Unit) GE i1 sk ?_;rintro _ H1 i3;have h:=i2 H1 i3;refine ki [(0,vp a)]<|gv<|ar 0<|fd 1 [] [(2,vp a)]<|l5 3 [2] h λx H2 h=>fd 2 [3] [(5,.bool (!x))]<|jn h (λc4 h=>?_) (λc4 h=>?_)
 ·have b5:(!x)=false:=Eg Bool.not (c4);have b52:x=true:=c4;refine kc 5 (b:=(!x)) (v:=false) (by simp only[b5,b52,Es,Ep]) ?_;clear b5 b52;exact gi 3 [5] [(8,VF)]<|pN 8<|zj 0<|aA<|aA<|aJ<|jD (fn:=f35) [] hQ (show bG _ _ _ [] _ from .nil) h
 have b5:(!x)=true:=Eg Bool.not (zZ c4);have b52:x=false:=zZ c4;refine kc 5 (b:=(!x)) (v:=true) (by simp only[b5,b52,Es,Ep]) ?_;clear b5 b52;refine fd 1 [] [(6,vp a)]<|l5 7 [6] h λR H3 h=>gi 1 [5,7] [(8,.bool R)]<|jn h (λc6 h=>?_) (λc6 h=>?_)
 ·exact aH 8 c6<|kT<|k5 1<|Bn<|aD<|aE<|aQ (s:=()) (():Unit) sk h
 exact aG 8 (zZ c6)<|zj 0<|aA<|aA<|aJ<|jD (fn:=f35) [] hQ (show bG _ _ _ [] _ from .nil) h
def cK.K0:=GC f72
def cK.pt(tv:zW):GJ:=λH R=>
 fY tv (
 R VT H) (λa=>
 ∃x,hat H a=some (vp x)/\
 fY x (
 R VT H) (λxA=>
 ∃b,hat H (a.add 1029)=some (vi b)/\
 R (.bool (b==1)) H))
theorem cK.link(h:pt a H b):C a H b:=by
 refine l2 K0 19 func72 ?_;intro w0 Q hQ;unfold pt at h;refine ki [(0,vp a)]<|ar 0<|gi 1 [] []<|ar 1<|fd 1 [] [(3,vp a)] ?_;rcases a with _ | R
 ·rw[Ev]at h;exact hH 16 [2] [VT] hQ h
 rw[El]at h;refine nb 5 [(0,Vq R),(5,VF),(8,Vq R)]<|have⟨x,q1,h⟩:=h;hV 9 31 q1 [8] ?_;rcases x with _ | xA
 ·rw[Ev]at h;exact hH 10 [2] [VT] hQ h
 rw[El]at h;exact nb 6 [(12,VF),(15,Vq (R.add 1029))]<|have⟨tv,q2,h⟩:=h;hV 16 3 q2 [15]<|hH 3 [2] [.bool (tv==1)] hQ h
def eJ.K0:=GC f76
def eJ.pt(tv:zW)(wv:Int):GJ:=λH R=>
 gO.C wv H (λv H1=> ∃ra rb,v=.tuple #[vi ra,.bool rb]/\
 cK.C tv H1 (λf H2=> ∃x,f=.bool x/\
 if x=true then(
 R VF H2)
 else
 if rb=true then(
 fF.C wv H2 (λg H3=> ∃d,g=vi d/\
 if d=6 then(
 R VF H3)
 else
 ∃b,tv=some b/\
 ((0:Int)<=(zY (tdiv ra 64))/\(zY (tdiv ra 64))< (1024:Int))/\
 ∃e,hat H3 ((b.add 2).add (toNat (zY (tdiv ra 64))*1))=some (vi e)/\
 R (.bool (e==1)) H3))
 else
 R VF H2))
theorem eJ.link(h:pt a d H b):C a d H b:=by
 refine l2 K0 33 func76 ?_;intro w0 Q hQ;unfold pt zY at h;refine ki [(0,vp a),(1,vu d)]<|ar 0<|gi 1 [] []<|ar 1<|fd 1 [] [(8,vu d)]<|vr 9 [8] h λra rb H1 h=>gi 5 [9] [(5,vi ra),(6,.bool rb)]<|ar 2<|fd 1 [] [(12,vp a)]<|l5 13 [12] h λx H2 h=>fd 2 [13] [(15,.bool (!x))]<|jn h (λc1 h=>?_) (λc1 h=>?_)
 ·have b2:(!x)=false:=Eg Bool.not (c1);have b22:x=true:=c1;refine kc 15 (b:=(!x)) (v:=false) (by simp only[b2,b22,Es,Ep]) ?_;clear b2 b22;exact hH 18 [4] [VF] hQ h
 have b2:(!x)=true:=Eg Bool.not (zZ c1);have b22:x=false:=zZ c1;refine kc 15 (b:=(!x)) (v:=true) (by simp only[b2,b22,Es,Ep]) ?_;clear b2 b22;refine fd 3 [6,15] [(18,.bool rb)]<|jn h (λc3 h=>?_) (λc3 h=>?_)
 ·refine kc 18 c3<|fd 1 [1] [(19,vu d)]<|l5 20 [19] h λtv H3 h=>fd 3 [18,20] [(23,.bool (tv !=6))]<|jn h (λc5 h=>?_) (λc5 h=>?_)
  ·exact kc 23 (Em.mpr c5)<|hH 10 [4] [VF] hQ h
  refine kc 23 (En.mpr c5)<|fd 3 [0,5] [(24,vp a),(26,vi (zY (tdiv ra 64)))] ?_;obtain⟨wv,rfl,ha⟩:=h;exact fd 2 [24] [(28,Vq (wv.add 2))]<|have⟨q7,h⟩:=ha;wd 29 (bJ 122 (Vq (wv.add 2)) (vi (zY (tdiv ra 64)))) (vp (some ((wv.add 2).add (toNat (zY (tdiv ra 64))*1)))) (λw _=>cG (P:=prog) (t:=122) (elem:=3) (sz:=1) (n:=1024) (a:=(wv.add 2)) (k:=.i64) (i:=(zY (tdiv ra 64))) Gi Et q7.1 q7.2 w) [26,28]<|have⟨e,q8,h⟩:=h;hV 30 3 q8 [29]<|hH 3 [4] [.bool (e==1)] hQ h
 exact kc 18 (zZ c3)<|hH 15 [4] [VF] hQ h
def dQ.K0:=GC f77
def dQ.pt(tv:zW)(wv:Int):GJ:=λH R=>
 gO.C wv H (λv H1=> ∃ra rb,v=.tuple #[vi ra,.bool rb]/\
 ∃k,tv=some k/\
 ∃x,hat H1 k=some (vp x)/\
 ∃xA,x=some xA/\
 ∃o,hat H1 xA=some (vp o)/\
 ∃q,o=some q/\
 ∃p,hat H1 q=some (vp p)/\
 ∃m,p=some m/\
 ∃i,hat H1 m=some (vp i)/\
 cS.C i ra H1 (λy H2=> ∃b e,y=.tuple #[vu b,vi e]/\
 gO.C b H2 (λz H3=> ∃a d,z=.tuple #[vi a,.bool d]/\
 if e=0 then(
 if d=true then(
 fF.C b H3 (λu H4=> ∃g,u=vi g/\
 if g=6 then(
 fF.C wv H4 (λs H5=> ∃j,s=vi j/\
 j1.C j a H5 (λt H6=> ∃f r,t=.tuple #[vu f,vi r]/\
 R (.tuple #[vu f,VT]) H6)))
 else
 R (.tuple #[vu wv,VF]) H4))
 else
 R (.tuple #[vu wv,VF]) H3)
 else
 R (.tuple #[vu wv,VF]) H3)))
theorem dQ.link(h:pt a d H b):C a d H b:=by
 refine l2 K0 62 func77 ?_;intro w0 Q hQ;unfold pt at h;refine ki [(0,vp a),(1,vu d)]<|ar 0<|gi 2 [] []<|ar 1<|fd 1 [] [(15,vu d)]<|vr 16 [15] h λra rb H1 h=>gi 5 [16] [(6,vi ra)]<|ar 2<|fd 1 [0] [(20,vp a)] ?_;obtain⟨k,rfl,ha⟩:=h;refine fd 2 [20] [(22,Vq k)]<|have⟨x,q1,h⟩:=ha;hV 23 31 q1 [22] ?_;obtain⟨xA,rfl,hb⟩:=h;refine fd 2 [23] [(25,Vq xA)]<|have⟨o,q2,h⟩:=hb;hV 26 50 q2 [25] ?_;obtain⟨q,rfl,hc⟩:=h;refine fd 2 [26] [(28,Vq q)]<|have⟨p,q3,h⟩:=hc;hV 29 79 q3 [28] ?_;obtain⟨m,rfl,hd⟩:=h;refine fd 2 [29] [(31,Vq m)]<|have⟨i,q4,h⟩:=hd;hV 32 115 q4 [31]<|fd 1 [6] [(33,vi ra)]<|vr 34 [32,33] h λwv e H2 h=>gi 5 [34] [(8,vu wv),(9,vi e)]<|ar 3<|fd 1 [] [(38,vu wv)]<|vr 39 [38] h λR tv H3 h=>gi 5 [39] [(10,vi R),(11,.bool tv)]<|gv<|ar 4<|fd 3 [9] [(44,.bool (e !=0))]<|jn h (λc5 h=>?_) (λc5 h=>?_)
 ·refine kc 44 (Em.mpr c5)<|fd 4 [11,44] [(48,.bool (!tv))]<|jn h (λc7 h=>?_) (λc7 h=>?_)
  ·have b8:(!tv)=false:=Eg Bool.not (c7);have b82:tv=true:=c7;refine kc 48 (b:=(!tv)) (v:=false) (by simp only[b8,b82,Es,Ep]) ?_;clear b8 b82;refine fd 1 [8] [(49,vu wv)]<|l5 50 [49] h λg H4 h=>gi 2 [48,50] [(52,.bool (g !=6))]<|jn h (λc9 h=>?_) (λc9 h=>?_)
   ·exact aG 52 (Em.mpr c9)<|kT<|ar 6<|fd 1 [1,52] [(55,vu d)]<|l5 56 [55] h λj H5 h=>fd 1 [10] [(57,vi R)]<|Bh 58 (λf r=>[(58,.tuple #[vu f,vi r])]) h λf r H6 h=>nx 5 [(12,vu f)]<|ar 7<|hH 3 [4,5] [vu f,VT] hQ h
   exact aH 52 (En.mpr c9)<|ar 5<|hH 3 [4,5] [vu d,VF] hQ h
  have b8:(!tv)=true:=Eg Bool.not (zZ c7);have b82:tv=false:=zZ c7;refine kc 48 (b:=(!tv)) (v:=true) (by simp only[b8,b82,Es,Ep]) ?_;clear b8 b82;exact gi 4 [8,48] [(52,VT)]<|l7 52<|ar 5<|hH 3 [4,5] [vu d,VF] hQ h
 exact kc 44 (En.mpr c5)<|gi 8 [8,11,44] [(52,VT)]<|l7 52<|ar 5<|hH 3 [4,5] [vu d,VF] hQ h
def cY.K0:=GC f84
def cY.K2:=cb K0
def cY.K4:=cb K2
def cY.K6:=cb K4
def cY.K7:=ca K6
def cY.K8:=ca K7
def cY.pt(tv:zW)(d e to a:Int):GJ:=λH R=>
 ∀b H1,b=H.size->H1=H.push (.cells #[vp tv] 70)->
 ∃(I9:zv) (m9:Int->zV->Nat),I9 e H1/\ ∀i H2,I9 i H2->
 if((decide (i<to)) && (a !=3))=true then(
 if((a !=1) || ((tmod i 2)==1))=true then(
 eF.C (zY ((zY (d*64))+i)) (some (ad b)) H2 (λ_ H3=>
 (I9 (zY (i+1)) H3/\m9 (zY (i+1)) H3<m9 i H2)))
 else
 (I9 (zY (i+1)) H2/\m9 (zY (i+1)) H2<m9 i H2))
 else
 R (.tuple #[]) H2
theorem cY.link{e to R:Int}(h:pt a d e to R H b):C a d e to R H b:=by
 refine l2 K0 36 func84 ?_;intro w0 Q hQ;unfold pt zY at h;refine ki [(0,vp a),(1,vi d),(2,vi e),(3,vi to),(4,vi R)]<|ar 0<|l1 (some 5) (λtv=>vp (pa tv)) (.cells #[vp a] 70)<|λtv H1 e1 e2=>have h:=h tv H1 e1 e2;im [0] [(5,vp (pa tv))]<|ue<|ar 1<|gi 2 [5] [(10,.func (.func 136) #[] #[vp (pa tv)])]<|ar 2<|gi 2 [2] [(11,vi e)]<|k5 0<|have⟨I9,m9,i3,i4⟩:=h;bI (x:=K8) (σ:=Int) (λs_=> [(1,vi d),(3,vi to),(4,vi R),(10,.func (.func 136) #[] #[vp (pa tv)]),(11,vi s_)]) (λs_ H=>I9 s_ H) (λs_ H=>m9 s_ H) (e:Int) GE i3 sk ?_;rintro i H2 i5;have h:=i4 i H2 i5;refine ki [(1,vi d),(3,vi to),(4,vi R),(10,.func (.func 136) #[] #[vp (pa tv)]),(11,vi i)]<|gv<|ar 3<|gU [(1,vi d),(3,vi to),(4,vi R),(10,.func (.func 136) #[] #[vp (pa tv)]),(11,vi i),(20,.bool ((decide (i<to)) && (R !=3)))] ?_ ?_
 ·refine aE<|jn h (λc8 h=>?_) (λc8 h=>?_)
  ·refine aH 20 c8<|kT<|gv<|k5 1<|ar 5<|gU [(1,vi d),(3,vi to),(4,vi R),(10,.func (.func 136) #[] #[vp (pa tv)]),(11,vi i),(29,.bool ((R !=1) || ((tmod i 2)==1)))] ?_ ?_
   ·refine aE<|jn h (λc12 h=>?_) (λc12 h=>?_)
    ·refine aH 29 c12<|k4 6<|nb 5 [(1,vi d),(3,vi to),(4,vi R),(10,.func (.func 136) #[] #[vp (pa tv)]),(11,vi i),(30,.func (.func 136) #[] #[vp (pa tv)]),(34,vi (zY ((zY (d*64))+i)))]<|Bs (some 35) h ?_;clear h;exact λv H3 h=>im [30,34] []<|zq<|aD<|aE<|k4 4<|gi 3 [11] [(11,vi (zY (i+1)))]<|aQ ((zY (i+1)):Int) sk h
    exact aG 29 (zZ c12)<|Bn<|aD<|aE<|k4 4<|nx 3 [(1,vi d),(3,vi to),(4,vi R),(10,.func (.func 136) #[] #[vp (pa tv)]),(11,vi (zY (i+1)))]<|aQ ((zY (i+1)):Int) sk h
   refine λhk=>nb 3 [(1,vi d),(3,vi to),(4,vi R),(10,.func (.func 136) #[] #[vp (pa tv)]),(11,vi i),(25,.bool (R !=1))] ?_;by_cases c10:R=1
   ·have b11:(R !=1)=false:=Em.mpr c10;exact bW [(1,vi d),(3,vi to),(4,vi R),(10,.func (.func 136) #[] #[vp (pa tv)]),(11,vi i),(25,VF)] (by rw[b11])<|fd 4 [25] [(29,.bool ((tmod i 2)==1))]<|zq<|n7 29 (b:=((tmod i 2)==1)) (v:=((R !=1) || ((tmod i 2)==1))) (by simp only[b11,BL])<|hk
   have b11:(R !=1)=true:=En.mpr c10;exact bW [(1,vi d),(3,vi to),(4,vi R),(10,.func (.func 136) #[] #[vp (pa tv)]),(11,vi i),(25,VT)] (by rw[b11])<|fd 4 [25] [(29,VT)]<|zq<|n7 29 (b:=true) (v:=((R !=1) || ((tmod i 2)==1))) (by simp only[b11,BL])<|hk
  exact aG 20 (zZ c8)<|zj 0<|aA<|aA<|aJ<|jD (fn:=f84) [] hQ (show bG _ _ _ [] _ from .nil) h
 refine λhk=>nb 4 [(1,vi d),(3,vi to),(4,vi R),(10,.func (.func 136) #[] #[vp (pa tv)]),(11,vi i),(17,.bool (decide (i<to)))] ?_;by_cases c6:i<to
 ·have b7:(decide (i<to))=true:=zX c6;exact bW [(1,vi d),(3,vi to),(4,vi R),(10,.func (.func 136) #[] #[vp (pa tv)]),(11,vi i),(17,VT)] (by rw[b7])<|fd 3 [17] [(20,.bool (R !=3))]<|zq<|n7 20 (b:=(R !=3)) (v:=((decide (i<to)) && (R !=3))) (by simp only[b7,BL])<|hk
 have b7:(decide (i<to))=false:=zQ c6;exact bW [(1,vi d),(3,vi to),(4,vi R),(10,.func (.func 136) #[] #[vp (pa tv)]),(11,vi i),(17,VF)] (by rw[b7])<|fd 3 [17] [(20,VF)]<|zq<|n7 20 (b:=false) (v:=((decide (i<to)) && (R !=3))) (by simp only[b7,BL])<|hk
namespace eX
def K0:=GC f85
def K2:=cb K0
def K4:=cb K2
def K5:=ca K4
def K7:=ca K5
def K8:=cb K5
def K9:=ca K8
def BE:=ca K9
def Bj:=cb BE
def Bt:=cb Bj
def Bu:=ca Bt
def BR:=ca Bu
def B4:=cb BR
def Ch:=cb B4
def CN:=cb Ch
def Do:=ca CN
def Cc:=ca Do
def Cg:=cb Cc
def CR:=ca Cg
def C6:=ca CR
def CL:=cb C6
def Cy:=ca CL
end eX
def eX.pt(tv:zW):GJ:=λH R=>
 ∃d,tv=some d/\
 ∃x,hat H d=some (vp x)/\
 ∃xA,x=some xA/\
 ∃bz,hat H xA=some (vp bz)/\
 ∃am,bz=some am/\
 ∃b0,hat H am=some (vp b0)/\
 ∃an,b0=some an/\
 ∃au,hat H an=some (vp au)/\
 ∃bb,hat H (d.add 1)=some (vi bb)/\
 ∀b H1,b=H.size->H1=H.push (.cells #[vi bb] 3)->aI H1 d 0 [Vq xA]/\aI H1 xA 0 [Vq am]/\aI H1 am 0 [Vq an]/\aI H1 an 0 [vp au]/\
 eP.C au (some (ad b)) 1 1 H1 (λv H2=> ∃xB xN xC,v=vs xB xN xC/\
 ∃(bk:Bool->zv) (m11:Bool->Int->zV->Nat),bk false 0 H2/\ ∀g s29 H3,bk g s29 H3->
 if s29< (xN:Int)then(
 ∃f,xB=some f/\
 zw s29 xN/\
 ∃e,hat H3 (f.add (toNat s29*1))=some (vi e)/\
 zw e 1024/\
 ∃a5,hat H3 ((d.add 2).add (toNat e*1))=some (vi a5)/\
 if a5=1 then(
 (bk g (zY (s29+1)) H3/\m11 g (zY (s29+1)) H3<m11 g s29 H3))
 else
 ∃bq,hat H3 d=some (vp bq)/\
 ∃bn,bq=some bn/\
 ∃bs,hat H3 bn=some (vp bs)/\
 ∃bp,bs=some bp/\
 ∃bg,hat H3 bp=some (vp bg)/\
 ∃bh,bg=some bh/\
 ∃a2,hat H3 bh=some (vp a2)/\
 bX.C a2 e H3 (λb2 H4=> ∃ap ak a4 r y aa u rb,b2=.tuple #[.agg #[vi ap,vi ak,vi a4,vi r,vi y,vi aa,vi u],.bool rb]/\
 ∀a0 H5,a0=H4.size->H5=H4.push (.cells GL 127)->
 (aF H5 (ad a0) 0 7)/\ ∀H6,H6=aL H5 (ad a0) [vi ap,vi ak,vi a4,vi r,vi y,vi aa,vi u] 0->
 ∃(bo:Bool->zW->zV->Prop) (m32:Bool->zW->zV->Nat),bo g (some (ad a0)) H6/\ ∀j s H7,bo j s H7->
 ∃a7,hat H7 (d.add 1027)=some (.map a7)/\
 ∃mr,a7=some mr/\
 ∃es cl ks,H7[mr]?=some (.map es cl)/\p8 (fB .i64) es.toList ks/\
 ∃al,(Bb ks e).getD (vi 0)=vi al/\
 ∃sA,s=some sA/\
 ∃aq,hat H7 (sA.add 2)=some (vi aq)/\
 if al<aq then(
 ∃a8,hat H7 (d.add 1027)=some (.map a8)/\
 ∃bm,a8=some bm/\
 ∃bu cl_2 ks_2,H7[bm]?=some (.map bu cl_2)/\p8 (fB .i64) bu.toList ks_2/\
 ∃ac,(Bb ks_2 e).getD (vi 0)=vi ac/\
 ∃az,hat H7 (d.add 1027)=some (.map az)/\
 ∃ay,hat H7 (sA.add 2)=some (vi ay)/\
 ∃a9,az=some a9/\
 ∃bw cl_3 ks_3,H7[a9]?=some (.map bw cl_3)/\p8 (fB .i64) bw.toList ks_3/\
 ∀bl cl_4 H8,H8=bR H7 a9 (.map bl cl_4)->p8 (fB .i64) bl.toList (vg ks_3 e (vi ay))->
 ∃a1,hat H8 (sA.add 2)=some (vi a1)/\
 ∃a6,hat H8 (sA.add 1)=some (vi a6)/\
 cY.C (some d) e ac a1 a6 H8 (λ_ H9=>
 ∃ax ao aw ah ae af ag,aI H9 sA 0 [vi ax,vi ao,vi aw,vi ah,vi ae,vi af,vi ag]/\
 ∀ab H10,ab=H9.size->H10=H9.push (.cells GL 127)->
 (aF H10 (ad ab) 0 7)/\ ∀ba,ba=aL H10 (ad ab) [vi ax,vi ao,vi aw,vi ah,vi ae,vi af,vi ag] 0->
 ∃bd,hat ba d=some (vp bd)/\
 ∃bi,bd=some bi/\
 ∃bc,hat ba bi=some (vp bc)/\
 ∃be,bc=some be/\
 ∃bf,hat ba be=some (vp bf)/\
 ∃bj,bf=some bj/\
 ∃a3,hat ba bj=some (vp a3)/\
 bX.C a3 e ba (λb1 bx=> ∃aj ai av q o p m bt,b1=.tuple #[.agg #[vi aj,vi ai,vi av,vi q,vi o,vi p,vi m],.bool bt]/\
 (aF bx (ad ab) 0 7)/\ ∀br,br=aL bx (ad ab) [vi aj,vi ai,vi av,vi q,vi o,vi p,vi m] 0->
 (bo true (some (ad ab)) br/\m32 true (some (ad ab)) br<m32 j s H7))))
 else
 (bk j (zY (s29+1)) H7/\m11 j (zY (s29+1)) H7<m11 g s29 H3)))
 else
 R (.bool g) H3)
theorem eX.link(h:pt a H b):C a H b:=by
 refine l2 K0 109 func85 ?_;intro w0 Q hQ;unfold pt zY at h;refine ki [(0,vp a)]<|ar 0<|gi 1 [] []<|ar 1<|gi 1 [] [(3,VF)]<|gv<|gv ?_;obtain⟨d,rfl,x,q1,xA,rfl,bz,q2,am,rfl,b0,q3,an,rfl,au,q4,bb,q5,ha⟩:=h;refine yY 2 (Code.ops K7) [(18,d,[Vq xA]),(18,xA,[Vq am]),(18,am,[Vq an]),(18,an,[vp au]),(17,(d.add 1),[vi bb])] 21 (bv 21 0) (show aP _ _ _ from⟨⟨q1,GB⟩,⟨q2,GB⟩,⟨q3,GB⟩,⟨q4,GB⟩,⟨q5,GB⟩,GB⟩)<|Bp 0 (some 9) (Vq d) (bv 21 1) [(0,Vq d),(3,VF),(9,Vq d)]<|aM 1 10 (Vq d) (bv 21 3) [9]<|aM 2 11 (Vq d) (bv 21 7) [10]<|lb 3 12 (Vq xA) (bv 21 15) [11] (aZ 31 (Vq d)) (yW 18 yZ)<|aM 4 13 (Vq xA) (bv 21 31) [12]<|aM 5 14 (Vq xA) (bv 21 63) [13]<|lb 6 15 (Vq am) (bv 21 127) [14] (aZ 50 (Vq xA)) (yW 18 yX)<|aM 7 16 (Vq am) (bv 21 255) [15]<|aM 8 17 (Vq am) (bv 21 511) [16]<|lb 9 18 (Vq an) (bv 21 1023) [17] (aZ 79 (Vq am)) (yW 18 yQ)<|aM 10 19 (Vq an) (bv 21 2047) [18]<|aM 11 20 (Vq an) (bv 21 4095) [19]<|lb 12 21 (vp au) (bv 21 8191) [20] (aZ 115 (Vq an)) (yW 18 yJ)<|aM 13 22 (Vq d) (bv 21 16383) []<|aM 14 23 (Vq d) (bv 21 32767) [22]<|aM 15 24 (Vq (d.add 1)) (bv 21 65535) [23]<|lb 16 25 (vi bb) (bv 21 131071) [24] (aZ 3 (Vq (d.add 1))) (yW 17 yK)<|aM 20 29 (vi 0) (bv 21 1179647) []<|rQ 17 (some 26) (bv 21 1310719) (λtv=>vs (pa tv) 1 1) (.cells #[vi bb] 3) GE Et GE<|λtv H1 e10 e11=>have h:=ha tv H1 e10 e11;have⟨f6,f7,f8,f9,h⟩:=h;⟨[(0,Vq d),(3,VF),(21,vp au),(26,vs (pa tv) 1 1),(29,vi 0)],pk,(show aP _ _ _ from⟨f6,f7,f8,f9,GB,GB⟩),?_⟩;refine yq 18 (some 27) (bv 21 1572863) 67 #[vp au,vs (pa tv) 1 1] h ?_;clear h;rintro v H2 ⟨xB,xN,xC,rfl,h⟩;refine⟨[(0,Vq d),(3,VF),(27,vs xB xN xC),(29,vi 0)],pk,(show aP _ _ _ from⟨GB,GB,GB,GB,GB,GB⟩),?_⟩;refine BS 19 (some 28) (vi xN) (bv 21 2097151) [(0,Vq d),(3,VF),(27,vs xB xN xC),(28,vi xN),(29,vi 0)] (pure (.value (vi xN)):Sem Next) (λ_ _ _ _ _=>rfl)<|gm [(0,Vq d),(3,VF),(27,vs xB xN xC),(28,vi xN),(29,vi 0)] sk<|yx<|aE<|k5 0<|have⟨bk,m11,i12,i13⟩:=h;bI (x:=BE) (σ:=Bool×Int) (λs_=> [(0,Vq d),(3,.bool s_.1),(27,vs xB xN xC),(28,vi xN),(29,vi s_.2)]) (λs_ H=>bk s_.1 s_.2 H) (λs_ H=>m11 s_.1 s_.2 H) ((false,0):Bool×Int) GE i12 sk ?_;rintro⟨g,s29⟩ H3 i14;have h:=i13 g s29 H3 i14;refine ki [(0,Vq d),(3,.bool g),(27,vs xB xN xC),(28,vi xN),(29,vi s29)]<|ar 3<|gi 1 [] [(30,.bool (decide (s29< (xN:Int))))]<|gv<|jn h (λc15 h=>?_) (λc15 h=>?_)
 ·refine aH 30 (zX c15)<|kT<|gv<|k5 1<|ar 4<|p0 [30] [] ?_;obtain⟨f,rfl,q17,hb⟩:=h;refine ww (some 31) 28 3 1 f xN xC .i64 s29 EW q17.1 q17.2 [27] [(27,vs (some f) xN xC),(31,Vq (f.add (toNat s29*1)))]<|have⟨e,q18,h⟩:=hb;hV 32 3 q18 [31]<|gi 1 [32] [(5,vi e)]<|gv<|ar 5<|fd 4 [] [(34,vi e),(36,Vq (d.add 2))]<|have⟨q19,h⟩:=h;wd 37 (bJ 122 (Vq (d.add 2)) (vi e)) (Vq ((d.add 2).add (toNat e*1))) (λw _=>cG (P:=prog) (t:=122) (elem:=3) (sz:=1) (n:=1024) (a:=(d.add 2)) (k:=.i64) (i:=e) Gi Et q19.1 q19.2 w) [34,36]<|have⟨a5,q20,h⟩:=h;hV 38 3 q20 [37]<|gi 1 [38] [(39,.bool (a5==1))]<|jn h (λc21 h=>?_) (λc21 h=>?_)
  ·exact aH 39 (zK c21)<|zj 1<|aA<|aJ<|aE<|k4 15<|gi 2 [5,29,39] [(29,vi (zY (s29+1)))]<|aQ ((g,(zY (s29+1))):Bool×Int) sk h
  refine aG 39 (zJ c21)<|kT<|ar 6<|fd 3 [39] [(43,Vq d)]<|have⟨bq,q23,h⟩:=h;hV 44 31 q23 [43] ?_;obtain⟨bn,rfl,hc⟩:=h;refine fd 2 [44] [(46,Vq bn)]<|have⟨bs,q24,h⟩:=hc;hV 47 50 q24 [46] ?_;obtain⟨bp,rfl,hd⟩:=h;refine fd 2 [47] [(49,Vq bp)]<|have⟨bg,q25,h⟩:=hd;hV 50 79 q25 [49] ?_;obtain⟨bh,rfl,he⟩:=h;refine fd 2 [50] [(52,Vq bh)]<|have⟨a2,q26,h⟩:=he;hV 53 115 q26 [52]<|fd 1 [] [(54,vi e)]<|B7 55 [53,54] h λap ak a4 r y aa u rb H4 h=>fd 3 [55] [(56,.agg #[vi ap,vi ak,vi a4,vi r,vi y,vi aa,vi u]),(57,.bool rb)]<|l1 (some 6) (λtv=>vp (pa tv)) (.cells GL 127)<|λa0 H5 e27 e28=>have h:=h a0 H5 e27 e28;im [] [(6,vp (pa a0))]<|have⟨q30,h⟩:=h;bF 127 [vi ap,vi ak,vi a4,vi r,vi y,vi aa,vi u] q30<|λH6 e29=>have h:=h H6 e29;im [56] []<|gi 1 [57] []<|k5 2<|have⟨bo,m32,i31,i32⟩:=h;bI (x:=Cc) (σ:=Bool×zW) (λs_=> [(0,Vq d),(3,.bool s_.1),(5,vi e),(6,vp s_.2),(27,vs (some f) xN xC),(28,vi xN),(29,vi s29)]) (λs_ H=>bo s_.1 s_.2 H) (λs_ H=>m32 s_.1 s_.2 H) ((g,(pa a0)):Bool×zW) GE i31 sk ?_;rintro⟨j,s⟩ H7 i33;have h:=i32 j s H7 i33;refine ki [(0,Vq d),(3,.bool j),(5,vi e),(6,vp s),(27,vs (some f) xN xC),(28,vi xN),(29,vi s29)]<|gv<|gv<|mO 7<|hX 58 (Vq d) []<|hX 59 (Vq d) [58]<|hX 60 (Vq (d.add 1027)) [59]<|have⟨a7,q34,h⟩:=h;lw (some 61) 121 q34 [60] [(61,.map a7)]<|BU (some 62) (vi e) [(0,Vq d),(3,.bool j),(5,vi e),(6,vp s),(27,vs (some f) xN xC),(28,vi xN),(29,vi s29),(61,.map a7),(62,vi e)] ?_;obtain⟨mr,rfl,es,cl,ks,q35,q36,al,e67,hf⟩:=h;refine Bc (some 63) (nZ 121 (.map (some mr)) (vi e) false) (vi al) Et (λw hw=>(nG (kk:=(fB .i64)) (z:=vi 0) Gj Fx Et (by rw[hw];exact q35) q36 false).trans (by simp only[EE,EV,EM,e67])) [(0,vp (some d)),(3,.bool j),(5,vi e),(6,vp s),(27,vs (some f) xN xC),(28,vi xN),(29,vi s29),(63,vi al)] pk ?_;obtain⟨sA,rfl,hg⟩:=hf;refine BU (some 64) (Vq (sA.add 2)) [(0,Vq d),(3,.bool j),(5,vi e),(6,Vq sA),(27,vs (some f) xN xC),(28,vi xN),(29,vi s29),(63,vi al),(64,Vq (sA.add 2))]<|have⟨aq,q38,h⟩:=hg;lw (some 65) 3 q38 [64] [(65,vi aq)]<|hX 66 (.bool (decide (al<aq))) [63,65]<|iQ [(0,Vq d),(3,.bool j),(5,vi e),(6,Vq sA),(27,vs (some f) xN xC),(28,vi xN),(29,vi s29),(66,.bool (decide (al<aq)))] sk<|Bk<|jn h (λc39 h=>?_) (λc39 h=>?_)
  ·refine aH 66 (zX c39)<|kT<|gv<|k5 3<|ar 9<|nb 3 [(0,Vq d),(5,vi e),(6,Vq sA),(27,vs (some f) xN xC),(28,vi xN),(29,vi s29),(87,Vq (d.add 1027))]<|have⟨a8,q41,h⟩:=h;hV 88 121 q41 [87]<|fd 1 [] [(89,vi e)] ?_;obtain⟨bm,rfl,bu,cl_2,ks_2,q42,q43,ac,e65,hh⟩:=h;refine wd 90 (nZ 121 (.map (some bm)) (vi e) false) (vi ac) (λw hw=>(nG (kk:=(fB .i64)) (z:=vi 0) Gj Fx Et (by rw[hw];exact q42) q43 false).trans (by simp only[EE,EV,EM,e65])) [88,89]<|gi 1 [90] [(8,vi ac)]<|gv ?_;refine have⟨az,q45,ay,q46,h⟩:=hh;yY 10 (Code.ops Cy) [(7,(d.add 1027),[.map az]),(7,(sA.add 2),[vi ay])] 8 (bv 8 0) (show aP _ _ _ from⟨⟨q45,GB⟩,⟨q46,GB⟩,GB⟩)<|Bp 0 (some 91) (Vq d) (bv 8 1) [(0,Vq d),(5,vi e),(6,Vq sA),(8,vi ac),(27,vs (some f) xN xC),(28,vi xN),(29,vi s29),(91,Vq d)]<|aM 1 92 (Vq d) (bv 8 3) [91]<|aM 2 93 (Vq (d.add 1027)) (bv 8 7) [92]<|lb 3 94 (.map az) (bv 8 15) [93] (aZ 121 (Vq (d.add 1027))) (yW 7 yZ)<|aM 4 95 (vi e) (bv 8 31) []<|aM 5 96 (Vq (sA.add 2)) (bv 8 63) []<|lb 6 97 (vi ay) (bv 8 127) [96] (aZ 3 (Vq (sA.add 2))) (yW 7 yX) ?_;obtain⟨a9,rfl,bw,cl_3,ks_3,q47,q48,hi⟩:=h;refine gR 7 none (bv 8 255) (pO 121 (.map (some a9)) (vi e) (vi ay)) (λHz=> ∃es2 cl2,Hz=bR H7 a9 (.map es2 cl2)/\p8 (fB .i64) es2.toList (vg ks_3 e (vi ay))) GE Et (λw hw=>by obtain⟨es2,cl2,q1,q2⟩:=u0 (kk:=(fB .i64)) (P:=prog) (w:=w) (k:=e) (v:=vi ay) Gj Fx (by rw[hw];exact q47) q48;exact⟨_,q1,⟨rfl,rfl,rfl,Er _⟩,es2,cl2,by rw[<-hw],q2⟩) GE ?_;rintro H8 ⟨bl,cl_4,e50,e51⟩;refine have h:=hi bl cl_4 H8 e50 e51;⟨[(0,Vq d),(5,vi e),(6,Vq sA),(8,vi ac),(27,vs (some f) xN xC),(28,vi xN),(29,vi s29)],pk,(show aP _ _ _ from⟨GB,GB,GB⟩),?_⟩;refine gm [(0,Vq d),(5,vi e),(6,Vq sA),(8,vi ac),(27,vs (some f) xN xC),(28,vi xN),(29,vi s29)] sk<|yx<|aE<|ar 11<|nb 4 [(0,Vq d),(5,vi e),(6,Vq sA),(27,vs (some f) xN xC),(28,vi xN),(29,vi s29),(98,Vq d),(99,vi e),(100,vi ac),(101,Vq (sA.add 2))]<|have⟨a1,q52,h⟩:=h;hV 102 3 q52 [101]<|fd 1 [] [(103,Vq (sA.add 1))] ?_;obtain⟨a6,q53,h⟩:=h;refine hV 104 3 q53 [103]<|Bs (some 105) h ?_;clear h;refine λv_3 H9 h=>im [98,99,100,102,104] []<|ue<|k4 12<|fd 1 [] [(3,VT)]<|zq<|aD<|aE<|gv<|ar 13<|have⟨ax,ao,aw,ah,ae,af,ag,q54,h⟩:=h;na 106 127 q54 [6]<|ue<|k4 14<|l1 (some 6) (λtv=>vp (pa tv)) (.cells GL 127)<|λab H10 e55 e56=>have h:=h ab H10 e55 e56;im [] [(6,vp (pa ab))]<|have⟨q58,h⟩:=h;bF 127 [vi ax,vi ao,vi aw,vi ah,vi ae,vi af,vi ag] q58<|λba e57=>have h:=h ba e57;im [106] []<|ue<|k4 8<|fd 3 [] [(70,Vq d)]<|have⟨bd,q59,h⟩:=h;hV 71 31 q59 [70] ?_;obtain⟨bi,rfl,hj⟩:=h;refine fd 2 [71] [(73,Vq bi)]<|have⟨bc,q60,h⟩:=hj;hV 74 50 q60 [73] ?_;obtain⟨be,rfl,hk⟩:=h;refine fd 2 [74] [(76,Vq be)]<|have⟨bf,q61,h⟩:=hk;hV 77 79 q61 [76] ?_;obtain⟨bj,rfl,hl⟩:=h;exact fd 2 [77] [(79,Vq bj)]<|have⟨a3,q62,h⟩:=hl;hV 80 115 q62 [79]<|fd 1 [] [(81,vi e)]<|B7 82 [80,81] h λaj ai av q o p m bt bx h=>fd 3 [82] [(83,.agg #[vi aj,vi ai,vi av,vi q,vi o,vi p,vi m])]<|have⟨q64,h⟩:=h;bF 127 [vi aj,vi ai,vi av,vi q,vi o,vi p,vi m] q64<|λbr e63=>have h:=h br e63;im [83] []<|ue<|aQ ((true,(pa ab)):Bool×zW) sk h
  exact aG 66 (zQ c39)<|zj 2<|aA<|aA<|aJ<|aD<|aE<|k4 15<|nx 2 [(0,Vq d),(3,.bool j),(27,vs (some f) xN xC),(28,vi xN),(29,vi (zY (s29+1)))]<|aQ ((j,(zY (s29+1))):Bool×Int) sk h
 exact aG 30 (zQ c15)<|zj 0<|aA<|aA<|aJ<|aE<|ar 16<|hH 2 [2] [.bool g] hQ h
def cU.K0:=GC f88
def cU.pt(tv:zW)(wv:Int):GJ:=λH R=>
 eJ.C tv wv H (λv H1=> ∃x,v=.bool x/\
 if x=true then(
 dQ.C tv wv H1 (λa H2=> ∃ra rb,a=.tuple #[vu ra,.bool rb]/\
 R (.bool rb) H2))
 else
 R VT H1)
theorem cU.link(h:pt a d H b):C a d H b:=by
 refine l2 K0 18 func88 ?_;intro w0 Q hQ;unfold pt at h;refine ki [(0,vp a),(1,vu d)]<|ar 0<|gi 1 [] []<|gv<|ar 1<|fd 2 [] [(7,vp a),(8,vu d)]<|l5 9 [7,8] h λx H1 h=>gi 1 [9] [(10,.bool (!x))]<|jn h (λc1 h=>?_) (λc1 h=>?_)
 ·exact aG 10 (Eg Bool.not (c1))<|kT<|ar 3<|nb 2 [(12,vp a),(13,vu d)]<|Bh 14 (λra rb=>[(14,.tuple #[vu ra,.bool rb])]) h λra rb H2 h=>nx 5 [(6,.bool rb)]<|ar 4<|hH 2 [4] [.bool rb] hQ h
 exact aH 10 (Eg Bool.not (zZ c1))<|ar 2<|hH 1 [4] [VT] hQ h
end Go.Proofs.YtillhdiiglamhaaGreatDoor
namespace Go.Proofs.YtillhdiiglamhaaGreatDoor
open Go Go.Proofs.Tryz
open Int(toNat)
variable{H:zV}{a:zW}{b:zk}
namespace eY
def K0:=GC f91
def K2:=cb K0
def K4:=cb K2
def Bj:=cb K4
def Bt:=cb Bj
def B1:=ca Bt
def BF:=cb Bt
def Bu:=ca B1
def BZ:=cb B1
def BR:=ca BZ
def Co:=ca BR
def B6:=cb Co
def CH:=cb B6
def B8:=ca CH
def CN:=ca B8
def Cc:=cb CN
def Cg:=cb Cc
def CG:=cb Cg
def CY:=ca CG
def CR:=ca BF
def CT:=cb CR
def CL:=ca CT
def Cy:=ca CL
def CS:=cb Cy
def C8:=cb CS
def K50:=ca C8
def D9:=ca K50
def DJ:=cb D9
def K55:=ca DJ
end eY
def eY.pt(tv:zW):GJ:=λH R=>
 cK.C tv H (λv H1=> ∃x,v=.bool x/\
 if x=true then(
 R VN H1)
 else
 ∀b H2,b=H1.size->H2=H1.push (.cells #[VN] 28)->
 ∃e,tv=some e/\
 ∃cm,hat H2 e=some (vp cm)/\
 ∃a9,cm=some a9/\
 ∃co,hat H2 a9=some (vp co)/\
 ∃ba,co=some ba/\
 ∃cj,hat H2 ba=some (vp cj)/\
 ∃a8,cj=some a8/\
 ∃bg,hat H2 a8=some (vp bg)/\
 ∃b1,hat H2 (e.add 1)=some (vi b1)/\
 ∀b7 H3,b7=H2.size->H3=H2.push (.cells #[vi b1] 3)->aI H3 e 0 [Vq a9]/\aI H3 a9 0 [Vq ba]/\aI H3 ba 0 [Vq a8]/\aI H3 a8 0 [vp bg]/\
 eP.C bg (some (ad b7)) 1 1 H3 (λcr H4=> ∃xB xN xC,cr=vs xB xN xC/\
 ∃(b5:zv) (m21:Int->zV->Nat),b5 0 H4/\ ∀o H5,b5 o H5->
 if o< (xN:Int)then(
 ∃af,xB=some af/\
 zw o xN/\
 ∃p,hat H5 (af.add (toNat o*1))=some (vi p)/\
 ∃cc,hat H5 e=some (vp cc)/\
 ∃b8,cc=some b8/\
 ∃cd,hat H5 b8=some (vp cd)/\
 ∃b9,cd=some b9/\
 ∃b4,hat H5 b9=some (vp b4)/\
 ∃b6,b4=some b6/\
 ∃bt,hat H5 b6=some (vp bt)/\
 bX.C bt p H5 (λcq H6=> ∃bc a0 bz am ao ap an rb,cq=.tuple #[.agg #[vi bc,vi a0,vi bz,vi am,vi ao,vi ap,vi an],.bool rb]/\
 ∀ai H7,ai=H6.size->H7=H6.push (.cells GL 127)->
 (aF H7 (ad ai) 0 7)/\ ∀H8,H8=aL H7 (ad ai) [vi bc,vi a0,vi bz,vi am,vi ao,vi ap,vi an] 0->
 ∃bm,hat H8 ((ad ai).add 1)=some (vi bm)/\
 if bm=1 then(
 zw p 1024/\
 ∃bk,hat H8 ((e.add 2).add (toNat p*1))=some (vi bk)/\
 if bk=0 then(
 ∃bo,hat H8 (e.add 1026)=some (.map bo)/\
 ∃bn,hat H8 ((ad ai).add 2)=some (vi bn)/\
 ∃mr,bo=some mr/\
 ∃es cl ks,H8[mr]?=some (.map es cl)/\p8 (fB .i64) es.toList ks/\
 ∃b0,(Bb ks p).getD (vi 0)=vi b0/\
 aI H8 ((ad ai).add 2) 0 [vi bn]/\cE.C p b0 bn (some (ad b)) H8 (λ_ H9=>
 (b5 (zY (o+1)) H9/\m21 (zY (o+1)) H9<m21 o H5)))
 else
 (b5 (zY (o+1)) H8/\m21 (zY (o+1)) H8<m21 o H5))
 else
 (b5 (zY (o+1)) H8/\m21 (zY (o+1)) H8<m21 o H5)))
 else
 ∃a5 d f,hat H5 (e.add 1028)=some (vs a5 d f)/\
 ∃(b3:zv) (m44:Int->zV->Nat),b3 0 H5/\ ∀g H10,b3 g H10->
 if g< (d:Int)then(
 ∃j,a5=some j/\
 zw g d/\
 ∃bl bb,aI H10 (j.add (toNat g*2)) 0 [vi bl,vi bb]/\
 ∀m H11,m=H10.size->H11=H10.push (.cells #[vi 0,vi 0] 134)->
 (aF H11 (ad m) 0 2)/\ ∀bs,bs=aL H11 (ad m) [vi bl,vi bb] 0->
 ∃ch,hat bs e=some (vp ch)/\
 ∃ay,ch=some ay/\
 ∃cg,hat bs ay=some (vp cg)/\
 ∃aw,cg=some aw/\
 ∃ce,hat bs aw=some (vp ce)/\
 ∃ax,ce=some ax/\
 ∃a2,hat bs ax=some (vp a2)/\
 ∃bd,hat bs (ad m)=some (vi bd)/\
 (
 bX.C a2 bd bs (λcs cp=> ∃aj ag aq y r s q az,cs=.tuple #[.agg #[vi aj,vi ag,vi aq,vi y,vi r,vi s,vi q],.bool az]/\
 ∀au H14,au=cp.size->H14=cp.push (.cells GL 127)->
 (aF H14 (ad au) 0 7)/\ ∀bq,bq=aL H14 (ad au) [vi aj,vi ag,vi aq,vi y,vi r,vi s,vi q] 0->
 ∃bj,hat bq ((ad au).add 1)=some (vi bj)/\
 if bj=1 then(
 ∃a1,hat bq (ad m)=some (vi a1)/\
 ∃be,hat bq ((ad m).add 1)=some (vi be)/\
 ∃a7,hat bq ((ad au).add 2)=some (vi a7)/\
 ∃bi,hat bq ((ad m).add 1)=some (vi bi)/\
 cE.C a1 (zY (be*16)) (if(zY ((zY (bi+1))*16))<a7 then(zY ((zY (bi+1))*16))else a7) (some (ad b)) bq (λ_ cn=>
 (b3 (zY (g+1)) cn/\m44 (zY (g+1)) cn<m44 g H10)))
 else
 (b3 (zY (g+1)) bq/\m44 (zY (g+1)) bq<m44 g H10)))/\(
 ∀al H17,al=bs.size->H17=bs.push (.cells GL 127)->aI H17 e 0 [Vq ay]/\aI H17 ay 0 [Vq aw]/\aI H17 aw 0 [Vq ax]/\aI H17 ax 0 [vp a2]/\aI H17 (ad m) 0 [vi bd]/\
 bX.C a2 bd H17 (λct ci=> ∃ak ah av ae ab aa ac a3,ct=.tuple #[.agg #[vi ak,vi ah,vi av,vi ae,vi ab,vi aa,vi ac],.bool a3]/\
 (aF ci (ad al) 0 7)/\ ∀br,br=aL ci (ad al) [vi ak,vi ah,vi av,vi ae,vi ab,vi aa,vi ac] 0->
 ∃bp,hat br ((ad al).add 1)=some (vi bp)/\
 if bp=1 then(
 ∃a4,hat br (ad m)=some (vi a4)/\
 ∃bf,hat br ((ad m).add 1)=some (vi bf)/\
 ∃a6,hat br ((ad al).add 2)=some (vi a6)/\
 ∃bh,hat br ((ad m).add 1)=some (vi bh)/\
 cE.C a4 (zY (bf*16)) (if(zY ((zY (bh+1))*16))<a6 then(zY ((zY (bh+1))*16))else a6) (some (ad b)) br (λ_ ck=>
 (b3 (zY (g+1)) ck/\m44 (zY (g+1)) ck<m44 g H10)))
 else
 (b3 (zY (g+1)) br/\m44 (zY (g+1)) br<m44 g H10))))
 else
 ∃bu bx bw,hat H10 (ad b)=some (vs bu bx bw)/\
 R (vs bu bx bw) H10))
theorem eY.link(h:pt a H b):C a H b:=by
 refine l2 K0 129 func91 ?_;intro w0 Q hQ;unfold pt zY at h;refine ki [(0,vp a)]<|ar 0<|gi 1 [] []<|gv<|ar 1<|fd 1 [] [(13,vp a)]<|l5 14 [13] h λx H1 h=>ue<|jn h (λc1 h=>?_) (λc1 h=>?_)
 ·exact aH 14 c1<|ar 2<|hH 1 [2] [VN] hQ h
 refine aG 14 (zZ c1)<|kT<|ar 3<|p0 [14] []<|l1 (some 3) (λtv=>vp (pa tv)) (.cells #[VN] 28)<|λtv H2 e3 e4=>have h:=h tv H2 e3 e4;im [] [(3,vp (pa tv))]<|ue<|ar 4<|gi 2 [] [(4,.func (.func 141) #[] #[vp (pa tv)])]<|gv<|gv ?_;obtain⟨e,rfl,cm,q5,a9,rfl,co,q6,ba,rfl,cj,q7,a8,rfl,bg,q8,b1,q9,ha⟩:=h;refine yY 5 (Code.ops Bu) [(18,e,[Vq a9]),(18,a9,[Vq ba]),(18,ba,[Vq a8]),(18,a8,[vp bg]),(17,(e.add 1),[vi b1])] 21 (bv 21 0) (show aP _ _ _ from⟨⟨q5,GB⟩,⟨q6,GB⟩,⟨q7,GB⟩,⟨q8,GB⟩,⟨q9,GB⟩,GB⟩)<|Bp 0 (some 16) (Vq e) (bv 21 1) [(0,Vq e),(3,vp (pa tv)),(4,.func (.func 141) #[] #[vp (pa tv)]),(16,Vq e)]<|aM 1 17 (Vq e) (bv 21 3) [16]<|aM 2 18 (Vq e) (bv 21 7) [17]<|lb 3 19 (Vq a9) (bv 21 15) [18] (aZ 31 (Vq e)) (yW 18 yZ)<|aM 4 20 (Vq a9) (bv 21 31) [19]<|aM 5 21 (Vq a9) (bv 21 63) [20]<|lb 6 22 (Vq ba) (bv 21 127) [21] (aZ 50 (Vq a9)) (yW 18 yX)<|aM 7 23 (Vq ba) (bv 21 255) [22]<|aM 8 24 (Vq ba) (bv 21 511) [23]<|lb 9 25 (Vq a8) (bv 21 1023) [24] (aZ 79 (Vq ba)) (yW 18 yQ)<|aM 10 26 (Vq a8) (bv 21 2047) [25]<|aM 11 27 (Vq a8) (bv 21 4095) [26]<|lb 12 28 (vp bg) (bv 21 8191) [27] (aZ 115 (Vq a8)) (yW 18 yJ)<|aM 13 29 (Vq e) (bv 21 16383) []<|aM 14 30 (Vq e) (bv 21 32767) [29]<|aM 15 31 (Vq (e.add 1)) (bv 21 65535) [30]<|lb 16 32 (vi b1) (bv 21 131071) [31] (aZ 3 (Vq (e.add 1))) (yW 17 yK)<|aM 20 36 (vi 0) (bv 21 1179647) []<|rQ 17 (some 33) (bv 21 1310719) (λtv=>vs (pa tv) 1 1) (.cells #[vi b1] 3) GE Et GE<|λb7 H3 e14 e15=>have h:=ha b7 H3 e14 e15;have⟨f10,f11,f12,f13,h⟩:=h;⟨[(0,Vq e),(3,vp (pa tv)),(4,.func (.func 141) #[] #[vp (pa tv)]),(28,vp bg),(33,vs (pa b7) 1 1),(36,vi 0)],pk,(show aP _ _ _ from⟨f10,f11,f12,f13,GB,GB⟩),?_⟩;refine yq 18 (some 34) (bv 21 1572863) 67 #[vp bg,vs (pa b7) 1 1] h ?_;clear h;rintro cr H4 ⟨xB,xN,xC,rfl,h⟩;refine⟨[(0,Vq e),(3,vp (pa tv)),(4,.func (.func 141) #[] #[vp (pa tv)]),(34,vs xB xN xC),(36,vi 0)],pk,(show aP _ _ _ from⟨GB,GB,GB,GB,GB,GB⟩),?_⟩;refine BS 19 (some 35) (vi xN) (bv 21 2097151) [(0,Vq e),(3,vp (pa tv)),(4,.func (.func 141) #[] #[vp (pa tv)]),(34,vs xB xN xC),(35,vi xN),(36,vi 0)] (pure (.value (vi xN)):Sem Next) (λ_ _ _ _ _=>rfl)<|gm [(0,Vq e),(3,vp (pa tv)),(4,.func (.func 141) #[] #[vp (pa tv)]),(34,vs xB xN xC),(35,vi xN),(36,vi 0)] sk<|yx<|aE<|k5 0<|have⟨b5,m21,i16,i17⟩:=h;bI (x:=Co) (σ:=Int) (λs_=> [(0,Vq e),(3,vp (pa tv)),(4,.func (.func 141) #[] #[vp (pa tv)]),(34,vs xB xN xC),(35,vi xN),(36,vi s_)]) (λs_ H=>b5 s_ H) (λs_ H=>m21 s_ H) (0:Int) GE i16 sk ?_;rintro o H5 i18;have h:=i17 o H5 i18;refine ki [(0,Vq e),(3,vp (pa tv)),(4,.func (.func 141) #[] #[vp (pa tv)]),(34,vs xB xN xC),(35,vi xN),(36,vi o)]<|ar 6<|gi 1 [] [(37,.bool (decide (o< (xN:Int))))]<|gv<|jn h (λc19 h=>?_) (λc19 h=>?_)
 ·refine aH 37 (zX c19)<|kT<|gv<|k5 1<|ar 7<|p0 [37] [] ?_;obtain⟨af,rfl,q21,hb⟩:=h;refine ww (some 38) 28 3 1 af xN xC .i64 o EW q21.1 q21.2 [34] [(34,vs (some af) xN xC),(38,Vq (af.add (toNat o*1)))]<|have⟨p,q22,h⟩:=hb;hV 39 3 q22 [38]<|gi 1 [39] [(6,vi p)]<|ar 8<|fd 3 [] [(43,Vq e)]<|have⟨cc,q23,h⟩:=h;hV 44 31 q23 [43] ?_;obtain⟨b8,rfl,hc⟩:=h;refine fd 2 [44] [(46,Vq b8)]<|have⟨cd,q24,h⟩:=hc;hV 47 50 q24 [46] ?_;obtain⟨b9,rfl,hd⟩:=h;refine fd 2 [47] [(49,Vq b9)]<|have⟨b4,q25,h⟩:=hd;hV 50 79 q25 [49] ?_;obtain⟨b6,rfl,he⟩:=h;refine fd 2 [50] [(52,Vq b6)]<|have⟨bt,q26,h⟩:=he;hV 53 115 q26 [52]<|fd 1 [] [(54,vi p)]<|B7 55 [53,54] h λbc a0 bz am ao ap an rb H6 h=>fd 3 [55] [(56,.agg #[vi bc,vi a0,vi bz,vi am,vi ao,vi ap,vi an]),(57,.bool rb)]<|l1 (some 7) (λtv=>vp (pa tv)) (.cells GL 127)<|λai H7 e27 e28=>have h:=h ai H7 e27 e28;im [] [(7,vp (pa ai))]<|have⟨q30,h⟩:=h;bF 127 [vi bc,vi a0,vi bz,vi am,vi ao,vi ap,vi an] q30<|λH8 e29=>have h:=h H8 e29;im [56] []<|gi 1 [57] []<|ar 9<|fd 1 [] [(58,Vq ((ad ai).add 1))]<|have⟨bm,q31,h⟩:=h;hV 59 3 q31 [58]<|fd 2 [59] [(61,.bool (bm==1))]<|jn h (λc32 h=>?_) (λc32 h=>?_)
  ·refine kc 61 (zK c32)<|fd 4 [] [(63,vi p),(65,Vq (e.add 2))]<|have⟨q34,h⟩:=h;wd 66 (bJ 122 (Vq (e.add 2)) (vi p)) (Vq ((e.add 2).add (toNat p*1))) (λw _=>cG (P:=prog) (t:=122) (elem:=3) (sz:=1) (n:=1024) (a:=(e.add 2)) (k:=.i64) (i:=p) Gi Et q34.1 q34.2 w) [63,65]<|have⟨bk,q35,h⟩:=h;hV 67 3 q35 [66]<|gi 2 [61,67] [(69,.bool (bk==0))]<|jn h (λc36 h=>?_) (λc36 h=>?_)
   ·refine aH 69 (zK c36)<|have⟨bo,q38,bn,q39,h⟩:=h;yY 10 (Code.ops CY) [(7,(e.add 1026),[.map bo]),(10,((ad ai).add 2),[vi bn])] 11 (bv 11 0) (show aP _ _ _ from⟨⟨q38,GB⟩,⟨q39,GB⟩,GB⟩)<|Bp 0 (some 70) (.func (.func 141) #[] #[vp (pa tv)]) (bv 11 1) [(0,Vq e),(3,vp (pa tv)),(4,.func (.func 141) #[] #[vp (pa tv)]),(6,vi p),(7,vp (pa ai)),(34,vs (some af) xN xC),(35,vi xN),(36,vi o),(70,.func (.func 141) #[] #[vp (pa tv)])]<|aM 1 71 (vi p) (bv 11 3) []<|aM 2 72 (Vq e) (bv 11 7) []<|aM 3 73 (Vq e) (bv 11 15) [72]<|aM 4 74 (Vq (e.add 1026)) (bv 11 31) [73]<|lb 5 75 (.map bo) (bv 11 63) [74] (aZ 121 (Vq (e.add 1026))) (yW 7 yZ)<|aM 6 76 (vi p) (bv 11 127) [6]<|aM 8 78 (Vq ((ad ai).add 2)) (bv 11 383) [7]<|lb 9 79 (vi bn) (bv 11 895) [78] (aZ 3 (Vq ((ad ai).add 2))) (yW 10 yX) ?_;obtain⟨mr,rfl,es,cl,ks,q41,q42,b0,e44,hf⟩:=h;refine uY 7 (some 77) (bv 11 1023) (nZ 121 (.map (some mr)) (vi p) false) (λu H1=>u=vi b0/\H1=H8) GE Et (λw hw=>⟨_,w,(nG (kk:=(fB .i64)) (z:=vi 0) Gj Fx Et (by rw[hw];exact q41) q42 false),Fy w,by simp only[EV,EM,e44],hw⟩) GE ?_;rintro _ _ ⟨rfl,rfl⟩;refine have⟨f40,h⟩:=hf;⟨[(0,Vq e),(3,vp (pa tv)),(4,.func (.func 141) #[] #[vp (pa tv)]),(34,vs (some af) xN xC),(35,vi xN),(36,vi o),(70,.func (.func 141) #[] #[vp (pa tv)]),(71,vi p),(77,vi b0),(79,vi bn)],pk,(show aP _ _ _ from⟨GB,f40,GB⟩),?_⟩;refine yq 10 (some 80) (bv 11 2047) 141 #[vi p,vi b0,vi bn,vp (pa tv)] h ?_;clear h;refine λv_4 H9 h=>⟨[(0,Vq e),(3,vp (pa tv)),(4,.func (.func 141) #[] #[vp (pa tv)]),(34,vs (some af) xN xC),(35,vi xN),(36,vi o)],pk,(show aP _ _ _ from⟨GB,GB,GB⟩),?_⟩;exact gm [(0,Vq e),(3,vp (pa tv)),(4,.func (.func 141) #[] #[vp (pa tv)]),(34,vs (some af) xN xC),(35,vi xN),(36,vi o)] sk<|yx<|aD<|aE<|k4 11<|nx 2 [(0,Vq e),(3,vp (pa tv)),(4,.func (.func 141) #[] #[vp (pa tv)]),(34,vs (some af) xN xC),(35,vi xN),(36,vi (zY (o+1)))]<|aQ ((zY (o+1)):Int) sk h
   exact aG 69 (zJ c36)<|Bn<|aD<|aE<|k4 11<|gi 2 [6,7,36,69] [(36,vi (zY (o+1)))]<|aQ ((zY (o+1)):Int) sk h
  exact kc 61 (zJ c32)<|gi 8 [61] [(69,VF)]<|pN 69<|Bn<|aD<|aE<|k4 11<|gi 2 [6,7,36,69] [(36,vi (zY (o+1)))]<|aQ ((zY (o+1)):Int) sk h
 refine aG 37 (zQ c19)<|zj 0<|aA<|aA<|aJ<|aE<|gv<|ar 12<|fd 3 [34,35,36,37] [(84,Vq (e.add 1028))]<|have⟨a5,d,f,q45,h⟩:=h;hV 85 123 q45 [84]<|gi 2 [] [(86,vi d),(87,vi 0)]<|k5 2<|have⟨b3,m44,i46,i47⟩:=h;bI (x:=Cy) (σ:=Int) (λs_=> [(0,Vq e),(3,vp (pa tv)),(4,.func (.func 141) #[] #[vp (pa tv)]),(85,vs a5 d f),(86,vi d),(87,vi s_)]) (λs_ H=>b3 s_ H) (λs_ H=>m44 s_ H) (0:Int) GE i46 sk ?_;rintro g H10 i48;have h:=i47 g H10 i48;refine ki [(0,Vq e),(3,vp (pa tv)),(4,.func (.func 141) #[] #[vp (pa tv)]),(85,vs a5 d f),(86,vi d),(87,vi g)]<|ar 13<|gi 1 [] [(88,.bool (decide (g< (d:Int))))]<|gv<|jn h (λc49 h=>?_) (λc49 h=>?_)
 ·refine aH 88 (zX c49)<|kT<|gv<|k5 3<|ar 14<|p0 [88] [] ?_;obtain⟨j,rfl,q51,hg⟩:=h;refine ww (some 89) 123 134 2 j d f .i64 g F8 q51.1 q51.2 [85] [(85,vs (some j) d f),(89,Vq (j.add (toNat g*2)))]<|have⟨bl,bb,q52,h⟩:=hg;na 90 134 q52 [89]<|l1 (some 10) (λtv=>vp (pa tv)) (.cells #[vi 0,vi 0] 134)<|λm H11 e53 e54=>have h:=h m H11 e53 e54;im [] [(10,vp (pa m))]<|have⟨q56,h⟩:=h;bF 134 [vi bl,vi bb] q56<|λbs e55=>have h:=h bs e55;im [90] []<|ue<|gv ?_;obtain⟨ch,q57,ay,rfl,cg,q58,aw,rfl,ce,q59,ax,rfl,a2,q60,bd,q61,hh⟩:=h;have h:=hh;refine yY 15 (Code.ops K55) [(15,e,[Vq ay]),(15,ay,[Vq aw]),(15,aw,[Vq ax]),(15,ax,[vp a2]),(15,(ad m),[vi bd])] 22 (bv 22 0) (show aP _ _ _ from⟨⟨q57,GB⟩,⟨q58,GB⟩,⟨q59,GB⟩,⟨q60,GB⟩,⟨q61,GB⟩,GB⟩)<|Bp 0 (some 92) (Vq e) (bv 22 1) [(0,Vq e),(3,vp (pa tv)),(4,.func (.func 141) #[] #[vp (pa tv)]),(10,vp (pa m)),(85,vs (some j) d f),(86,vi d),(87,vi g),(92,Vq e)]<|aM 1 93 (Vq e) (bv 22 3) [92]<|aM 2 94 (Vq e) (bv 22 7) [93]<|lb 3 95 (Vq ay) (bv 22 15) [94] (aZ 31 (Vq e)) (yW 15 yZ)<|aM 4 96 (Vq ay) (bv 22 31) [95]<|aM 5 97 (Vq ay) (bv 22 63) [96]<|lb 6 98 (Vq aw) (bv 22 127) [97] (aZ 50 (Vq ay)) (yW 15 yX)<|aM 7 99 (Vq aw) (bv 22 255) [98]<|aM 8 100 (Vq aw) (bv 22 511) [99]<|lb 9 101 (Vq ax) (bv 22 1023) [100] (aZ 79 (Vq aw)) (yW 15 yQ)<|aM 10 102 (Vq ax) (bv 22 2047) [101]<|aM 11 103 (Vq ax) (bv 22 4095) [102]<|lb 12 104 (vp a2) (bv 22 8191) [103] (aZ 115 (Vq ax)) (yW 15 yJ)<|aM 13 105 (vp (pa m)) (bv 22 16383) []<|lb 14 106 (vi bd) (bv 22 32767) [105] (aZ 3 (vp (pa m))) (yW 15 yK)<|x7 15 19 GE ?fa1 ?fb1
  case' fa1=>
   replace h:=h.1;refine ya 15 (some 107) (bv 22 65535) 69 #[vp a2,vi bd] GE Et h GE ?_;clear h;rintro cs cp ⟨aj,ag,aq,y,r,s,q,az,rfl,h⟩;refine⟨[(0,Vq e),(3,vp (pa tv)),(4,.func (.func 141) #[] #[vp (pa tv)]),(10,vp (pa m)),(85,vs (some j) d f),(86,vi d),(87,vi g),(107,.tuple #[.agg #[vi aj,vi ag,vi aq,vi y,vi r,vi s,vi q],.bool az])],pk,(show aP _ _ _ from⟨GB,GB,GB,GB,GB,GB⟩),?_⟩;refine BS 16 (some 91) (.tuple #[.agg #[vi aj,vi ag,vi aq,vi y,vi r,vi s,vi q],.bool az]) (bv 22 131071) [(0,Vq e),(3,vp (pa tv)),(4,.func (.func 141) #[] #[vp (pa tv)]),(10,vp (pa m)),(85,vs (some j) d f),(86,vi d),(87,vi g),(91,.tuple #[.agg #[vi aj,vi ag,vi aq,vi y,vi r,vi s,vi q],.bool az])] (pure (.value (.tuple #[.agg #[vi aj,vi ag,vi aq,vi y,vi r,vi s,vi q],.bool az])):Sem Next) (λ_ _ _ _ _=>rfl)<|lb 17 108 (.agg #[vi aj,vi ag,vi aq,vi y,vi r,vi s,vi q]) (bv 22 262143) [] (pure (.value (.agg #[vi aj,vi ag,vi aq,vi y,vi r,vi s,vi q])):Sem Next) (λ_ _ _ _ _=>rfl)<|lb 18 109 (.bool az) (bv 22 524287) [91] (pure (.value (.bool az)):Sem Next) (λ_ _ _ _ _=>rfl)<|rQ 19 (some 11) (bv 22 1048575) (λtv=>vp (pa tv)) (.cells GL 127) GE Et GE<|λau H14 e62 e63=>have h:=h au H14 e62 e63;⟨[(0,Vq e),(3,vp (pa tv)),(4,.func (.func 141) #[] #[vp (pa tv)]),(10,vp (pa m)),(11,vp (pa au)),(85,vs (some j) d f),(86,vi d),(87,vi g),(108,.agg #[vi aj,vi ag,vi aq,vi y,vi r,vi s,vi q]),(109,.bool az)],pk,(show aP _ _ _ from⟨GB,GB,GB,GB,GB,GB⟩),?_⟩
  case' fb1=>
   refine have h:=h.2;Ah 19 (some 11) (bv 22 557055) (λtv=>vp (pa tv)) (.cells GL 127) GE Et GE<|λau H17 e78 e79=>have h:=h au H17 e78 e79;have⟨f73,f74,f75,f76,f77,h⟩:=h;⟨[(0,Vq e),(3,vp (pa tv)),(4,.func (.func 141) #[] #[vp (pa tv)]),(10,vp (pa m)),(11,vp (pa au)),(85,vs (some j) d f),(86,vi d),(87,vi g),(104,vp a2),(106,vi bd)],pk,(show aP _ _ _ from⟨f73,f74,f75,f76,f77,GB⟩),?_⟩;refine yq 15 (some 107) (bv 22 589823) 69 #[vp a2,vi bd] h ?_;clear h;rintro ct H14 ⟨aj,ag,aq,y,r,s,q,az,rfl,h⟩;refine⟨[(0,Vq e),(3,vp (pa tv)),(4,.func (.func 141) #[] #[vp (pa tv)]),(10,vp (pa m)),(11,vp (pa au)),(85,vs (some j) d f),(86,vi d),(87,vi g),(107,.tuple #[.agg #[vi aj,vi ag,vi aq,vi y,vi r,vi s,vi q],.bool az])],pk,(show aP _ _ _ from⟨GB,GB,GB,GB,GB,GB⟩),?_⟩;refine BS 16 (some 91) (.tuple #[.agg #[vi aj,vi ag,vi aq,vi y,vi r,vi s,vi q],.bool az]) (bv 22 655359) [(0,Vq e),(3,vp (pa tv)),(4,.func (.func 141) #[] #[vp (pa tv)]),(10,vp (pa m)),(11,vp (pa au)),(85,vs (some j) d f),(86,vi d),(87,vi g),(91,.tuple #[.agg #[vi aj,vi ag,vi aq,vi y,vi r,vi s,vi q],.bool az])] (pure (.value (.tuple #[.agg #[vi aj,vi ag,vi aq,vi y,vi r,vi s,vi q],.bool az])):Sem Next) (λ_ _ _ _ _=>rfl)<|lb 17 108 (.agg #[vi aj,vi ag,vi aq,vi y,vi r,vi s,vi q]) (bv 22 786431) [] (pure (.value (.agg #[vi aj,vi ag,vi aq,vi y,vi r,vi s,vi q])):Sem Next) (λ_ _ _ _ _=>rfl)<|lb 18 109 (.bool az) (bv 22 1048575) [91] (pure (.value (.bool az)):Sem Next) (λ_ _ _ _ _=>rfl) ?_
  all_goals
   refine have⟨q65,h⟩:=h;gR 20 none (bv 22 2097151) (jR 127 (vp (pa au)) (.agg #[vi aj,vi ag,vi aq,vi y,vi r,vi s,vi q])) (λHz=>Hz=aL H14 (ad au) [vi aj,vi ag,vi aq,vi y,vi r,vi s,vi q] 0) GE Et (ji [vi aj,vi ag,vi aq,vi y,vi r,vi s,vi q] 7 GE GE Et GE q65) GE<|λbq e64=>have h:=h bq e64;⟨[(0,Vq e),(3,vp (pa tv)),(4,.func (.func 141) #[] #[vp (pa tv)]),(10,vp (pa m)),(11,vp (pa au)),(85,vs (some j) d f),(86,vi d),(87,vi g),(109,.bool az)],pk,(show aP _ _ _ from⟨GB,GB,GB,GB,GB,GB⟩),?_⟩;refine BS 21 (some 12) (.bool az) (bv 22 4194303) [(0,Vq e),(3,vp (pa tv)),(4,.func (.func 141) #[] #[vp (pa tv)]),(10,vp (pa m)),(11,vp (pa au)),(85,vs (some j) d f),(86,vi d),(87,vi g)] (pure (.value (.bool az)):Sem Next) (λ_ _ _ _ _=>rfl)<|gm [(0,Vq e),(3,vp (pa tv)),(4,.func (.func 141) #[] #[vp (pa tv)]),(10,vp (pa m)),(11,vp (pa au)),(85,vs (some j) d f),(86,vi d),(87,vi g)] sk<|yx<|aE<|ar 16<|nb 1 [(0,Vq e),(3,vp (pa tv)),(4,.func (.func 141) #[] #[vp (pa tv)]),(10,vp (pa m)),(11,vp (pa au)),(85,vs (some j) d f),(86,vi d),(87,vi g),(110,Vq ((ad au).add 1))]<|have⟨bj,q66,h⟩:=h;hV 111 3 q66 [110]<|gi 1 [111] [(112,.bool (bj==1))]<|jn h (λc67 h=>?_) (λc67 h=>?_)
   ·refine aH 112 (zK c67)<|k4 17<|fd 2 [112] [(113,.func (.func 141) #[] #[vp (pa tv)]),(114,vp (pa m))]<|have⟨a1,q69,h⟩:=h;hV 115 3 q69 [114]<|fd 1 [] [(116,Vq ((ad m).add 1))]<|have⟨be,q70,h⟩:=h;hV 117 3 q70 [116]<|fd 2 [11,117] [(118,vi (zY (be*16))),(119,Vq ((ad au).add 2))]<|have⟨a7,q71,h⟩:=h;hV 120 3 q71 [119]<|fd 1 [10] [(121,Vq ((ad m).add 1))] ?_;obtain⟨bi,q72,h⟩:=h;refine hV 122 3 q72 [121]<|fd 3 [120,122] [(125,vi (if(zY ((zY (bi+1))*16))<a7 then(zY ((zY (bi+1))*16))else a7))]<|Bs (some 126) h ?_;clear h;exact λv_6 cn h=>im [113,115,118,125] []<|zq<|aD<|aE<|k4 18<|gi 2 [87] [(87,vi (zY (g+1)))]<|aQ ((zY (g+1)):Int) sk h
   exact aG 112 (zJ c67)<|Bn<|aD<|aE<|k4 18<|gi 2 [10,11,87,112] [(87,vi (zY (g+1)))]<|aQ ((zY (g+1)):Int) sk h
 exact aG 88 (zQ c49)<|zj 2<|aA<|aA<|aJ<|aE<|ar 19<|BM [(3,vp (pa tv))]<|have⟨bu,bx,bw,q89,h⟩:=h;hV 128 28 q89 [3]<|hH 1 [2] [vs bu bx bw] hQ h
def eF.K0:=GC f136
def eF.K2:=cb K0
def eF.pt(b:Int)(o:zW):GJ:=λH R=>
 ∃a,o=some a/\
 ∃x,hat H a=some (vp x)/\
 ∃xA,x=some xA/\
 ∃q,hat H xA=some (vp q)/\
 ∃t,q=some t/\
 ∃s,hat H t=some (vp s)/\
 ∃p,s=some p/\
 ∃u,hat H p=some (vp u)/\
 ∃r,u=some r/\
 ∃k,hat H r=some (vp k)/\
 cS.C k b H (λv H1=> ∃ra rb,v=.tuple #[vu ra,vi rb]/\
 ∃aa,hat H1 a=some (vp aa)/\
 ∃g,aa=some g/\
 ∃ac,hat H1 g=some (vp ac)/\
 ∃i,ac=some i/\
 ∃y,hat H1 i=some (vp y)/\
 ∃f,y=some f/\
 ∃ab,hat H1 f=some (vp ab)/\
 ∃e,ab=some e/\
 ∃d,hat H1 e=some (vp d)/\
 ∃j,hat H1 a=some (vp j)/\
 cH.C j ra H1 (λae H2=> ∃m,ae=vu m/\aI H2 a 0 [Vq g]/\aI H2 g 0 [Vq i]/\aI H2 i 0 [Vq f]/\aI H2 f 0 [Vq e]/\aI H2 e 0 [vp d]/\
 dS.C d b m H2 (λaf H3=> ∃z,af=vi z/\
 R (.tuple #[]) H3)))
theorem eF.link{o:Int}(h:pt o a H b):C o a H b:=by
 refine l2 K0 41 func136 ?_;intro w0 Q hQ;unfold pt at h;refine ki [(0,vi o),(1,vp a)]<|ar 0 ?_;obtain⟨R,rfl,x,q1,ha⟩:=h;refine Cp (some 6) 70 q1 [1] [(1,Vq R),(6,vp x)] ?_;obtain⟨xA,rfl,hb⟩:=ha;refine fd 2 [6] [(8,Vq xA)]<|have⟨q,q2,h⟩:=hb;hV 9 31 q2 [8] ?_;obtain⟨t,rfl,hc⟩:=h;refine fd 2 [9] [(11,Vq t)]<|have⟨s,q3,h⟩:=hc;hV 12 50 q3 [11] ?_;obtain⟨p,rfl,hd⟩:=h;refine fd 2 [12] [(14,Vq p)]<|have⟨u,q4,h⟩:=hd;hV 15 79 q4 [14] ?_;obtain⟨r,rfl,he⟩:=h;refine fd 2 [15] [(17,Vq r)]<|have⟨k,q5,h⟩:=he;hV 18 115 q5 [17]<|fd 1 [] [(19,vi o)]<|vr 20 [18,19] h λra rb H1 h=>gi 5 [20] [(3,vu ra)] ?_;obtain⟨aa,q6,g,rfl,ac,q7,i,rfl,y,q8,f,rfl,ab,q9,e,rfl,d,q10,j,q11,hf⟩:=h;refine yY 1 (Code.ops K2) [(17,R,[Vq g]),(17,g,[Vq i]),(17,i,[Vq f]),(17,f,[Vq e]),(17,e,[vp d]),(16,R,[vp j])] 18 (bv 18 0) (show aP _ _ _ from⟨⟨q6,GB⟩,⟨q7,GB⟩,⟨q8,GB⟩,⟨q9,GB⟩,⟨q10,GB⟩,⟨q11,GB⟩,GB⟩)<|BS 0 (some 23) (Vq g) (bv 18 1) [(0,vi o),(1,Vq R),(3,vu ra),(23,Vq g)] (aZ 70 (Vq R)) (yW 17 yZ)<|aM 1 24 (Vq g) (bv 18 3) [23]<|aM 2 25 (Vq g) (bv 18 7) [24]<|lb 3 26 (Vq i) (bv 18 15) [25] (aZ 31 (Vq g)) (yW 17 yX)<|aM 4 27 (Vq i) (bv 18 31) [26]<|aM 5 28 (Vq i) (bv 18 63) [27]<|lb 6 29 (Vq f) (bv 18 127) [28] (aZ 50 (Vq i)) (yW 17 yQ)<|aM 7 30 (Vq f) (bv 18 255) [29]<|aM 8 31 (Vq f) (bv 18 511) [30]<|lb 9 32 (Vq e) (bv 18 1023) [31] (aZ 79 (Vq f)) (yW 17 yJ)<|aM 10 33 (Vq e) (bv 18 2047) [32]<|aM 11 34 (Vq e) (bv 18 4095) [33]<|lb 12 35 (vp d) (bv 18 8191) [34] (aZ 115 (Vq e)) (yW 17 yK)<|aM 13 36 (vi o) (bv 18 16383) [0]<|lb 14 37 (vp j) (bv 18 32767) [1] (aZ 70 (Vq R)) (yW 16 yV)<|aM 15 38 (vu ra) (bv 18 65535) [3]<|yq 16 (some 39) (bv 18 131071) 33 #[vp j,vu ra] hf ?_;clear hf;rintro ae H2 ⟨m,rfl,f12,f13,f14,f15,f16,h⟩;refine⟨[(35,vp d),(36,vi o),(39,vu m)],pk,(show aP _ _ _ from⟨f12,f13,f14,f15,f16,GB,GB⟩),?_⟩;refine yq 17 (some 40) (bv 18 262143) 82 #[vp d,vi o,vu m] h ?_;clear h;rintro af H3 ⟨z,rfl,h⟩;refine⟨[],pk,(show aP _ _ _ from⟨GB,GB,GB,GB,GB,GB,GB⟩),?_⟩;exact gm [] sk<|yx<|jD (fn:=f136) [] hQ (show bG _ _ _ [] _ from .nil) h
def eZ.K0:=GC f137
def eZ.pt(tv:zW):GJ:=λH R=>
 cK.C tv H (λv H1=> ∃x,v=.bool x/\
 R (.bool x) H1)
theorem eZ.link(h:pt a H b):C a H b:=by
 refine l2 K0 5 func137 ?_;intro w0 Q hQ;unfold pt at h;exact ki [(0,vp a)]<|ar 0<|gi 1 [] []<|ar 1<|nb 1 [(3,vp a)]<|BD 4 (λx=>[(4,.bool x)]) h λx H1 h=>hH 1 [2] [.bool x] hQ h
def cE.K0:=GC f141
def cE.K2:=cb K0
def cE.K3:=ca K2
def cE.K4:=ca K3
def cE.pt(d f to:Int)(e:zW):GJ:=λH R=>
 ∃(I5:zv) (m5:Int->zV->Nat),I5 f H/\ ∀i H1,I5 i H1->
 if i<to then(
 ∃a,e=some a/\
 ∃xB xN xC,hat H1 a=some (vs xB xN xC)/\
 ∀b H2,b=H1.size->H2=H1.push (.cells #[vi (zY ((zY (d*64))+i))] 3)->
 dY 1 3 8 [vi 0] xB xN xC (some (ad b)) 1 H2 (λap g H3=>
 (aF H3 a 0 1)/\ ∀H4,H4=aL H3 a [vs ap (xN+1) g] 0->
 (I5 (zY (i+2)) H4/\m5 (zY (i+2)) H4<m5 i H1)))
 else
 R (.tuple #[]) H1
theorem cE.link{d f to:Int}(h:pt d f to a H b):C d f to a H b:=by
 refine l2 K0 21 func141 ?_;intro w0 Q hQ;unfold pt zY at h;refine ki [(0,vi d),(1,vi f),(2,vi to),(3,vp a)]<|ar 0<|gi 2 [1] [(7,vi f)]<|k5 0<|have⟨I5,m5,i1,i2⟩:=h;bI (x:=K4) (σ:=Int) (λs_=> [(0,vi d),(2,vi to),(3,vp a),(7,vi s_)]) (λs_ H=>I5 s_ H) (λs_ H=>m5 s_ H) (f:Int) GE i1 sk ?_;rintro i H1 i3;have h:=i2 i H1 i3;refine ki [(0,vi d),(2,vi to),(3,vp a),(7,vi i)]<|gv<|ar 1<|gi 3 [] [(11,.bool (decide (i<to)))]<|jn h (λc4 h=>?_) (λc4 h=>?_)
 ·refine aH 11 (zX c4)<|kT<|gv<|k5 1<|k4 3<|p0 [11] [] ?_;obtain⟨R,rfl,xB,xN,xC,q6,ha⟩:=h;have h:=ha;refine Cp (some 14) 28 q6 [3] [(3,Vq R),(14,vs xB xN xC)]<|fd 4 [] [(18,vi (zY ((zY (d*64))+i)))]<|l1 (some 19) (λe=>vs (pa e) 1 1) (.cells #[vi (zY ((zY (d*64))+i))] 3) ?_;intro e H2 e7 e8;replace h:=h e H2 e7 e8;refine im [18] [(19,vs (pa e) 1 1)]<|xl (some 20) (eM #[28,28] 28 #[vs xB xN xC,vs (pa e) 1 1]) _ Et (cT (T:=3) (sz:=1) (bytes:=8) (zero:=(vi 0:Value)) EW EW rfl (show prog.info? 3=some t3 from GE) GE GE GG GE (by first | exact h | (simpa only[Value.cells,EI]using h))) ?_;clear h;rintro _ H3 ⟨ap,g,rfl,h⟩;exact im [14,19] [(20,vs ap (xN+1) g)]<|have⟨q10,h⟩:=h;fj 28 (vs ap (xN+1) g) q10<|λH4 e9=>have h:=h H4 e9;im [20] []<|zq<|aD<|aE<|k4 2<|gi 3 [7] [(7,vi (zY (i+2)))]<|aQ ((zY (i+2)):Int) sk h
 exact aG 11 (zQ c4)<|zj 0<|aA<|aA<|aJ<|jD (fn:=f141) [] hQ (show bG _ _ _ [] _ from .nil) h
